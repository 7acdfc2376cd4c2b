/- Joined by program (merge.py): the parts VL0, VL1, VL2, VL3, VL4, VL5, VL6, VL7, VL8, VL9, VL10, VL11, VLM. -/
import Derived.OrdersIn
import Derived.TacticsIn
import Derived.RangeFuncLeaves
import Derived.OwnWalkIn
import Derived.Below
import Derived.Laws.MakeOwn
import Derived.DeepKeys3
/- The value-level program logic, part 0: values, their relation to memory, and what a step may turn. -/
section
set_option linter.unusedVariables false
set_option linter.unusedSimpArgs false
namespace Go.VL
open Go

inductive V where
  | int (k : IntKind) (n : Int)
  | bool (b : Bool)
  | str (s : ByteArray)
  | raw (v : Value)
  | dead
  | e0
  | lst (sz : Nat) (cs : List V)
  | agg (cs : List V)
  | tup (cs : List V)
  | ptr (id ver off : Nat)
  | slc (id ver off n sz : Nat)
  | map (id : Nat)
  | fn (f : Fn) (cs : List V)
  | pptr (cs : List V) (off : Nat)
  | iface (t : TypeId) (v : V)
  | yld (id : Nat)
  deriving Inhabited

def V.one : V → Bool
  | .agg _ | .tup _ => false
  | .raw v => v.oneCell'
  | _ => true

def V.cells : V → List V
  | .agg cs => cs
  | v => [v]

/-- No reference into the store. -/
def V.pure : V → Bool
  | .ptr .. | .slc .. | .map _ | .yld _ => false
  | .lst _ cs | .agg cs | .tup cs | .fn _ cs | .pptr cs _ => pureAll cs
  | .iface _ v => v.pure
  | _ => true
where pureAll : List V → Bool
  | [] => true
  | c :: cs => c.pure && pureAll cs

/-- No memory at all. -/
def V.scalar : V → Bool
  | .int .. | .bool _ | .str _ | .raw _ => true
  | .agg cs | .tup cs => scalarAll cs
  | _ => false
where scalarAll : List V → Bool
  | [] => true
  | c :: cs => c.scalar && scalarAll cs

structure Slot where
  b : Nat
  o : Nat
  ver : Nat
  len : Nat
  nil : Bool

abbrev Env := List (Nat × V)

def look : Env → Nat → Option V
  | [], _ => none
  | (k, v) :: r, t => if k = t then some v else look r t

mutual
def Rep (S : Nat → Prop) (σ : List Slot) (w : World) : V → Value → Prop
  | .int k n, v => v = .int k n
  | .bool b, v => v = .bool b
  | .str s, v => v = .string s
  | .raw x, v => v = x
  | .dead, v => v.oneCell' = true
  | .e0, v => ∃ A, v = .slice A 0 0
  | .lst sz cs, v => ∃ A n cap, v = .slice A n cap ∧ n ≤ cap ∧ cs.length = n * sz ∧ 0 < sz ∧ (0 < n → ∃ b o, A = some ⟨b, o, none⟩ ∧ S b ∧ RepCells S σ w b o cs)
  | .agg cs, v => ∃ vs : List Value, v = .agg vs.toArray ∧ cs.all V.one = true ∧ RepAll S σ w cs vs
  | .tup cs, v => ∃ vs : List Value, v = .tuple vs.toArray ∧ RepAll S σ w cs vs
  | .ptr id ver off, v => (∃ A, v = .pointer A) ∧ ∃ s, σ[id]? = some s ∧ ver ≤ s.ver ∧ (ver = s.ver → v = .pointer (some ⟨s.b, s.o + off, none⟩))
  | .slc id ver off n sz, v => (∃ A m c, v = .slice A m c) ∧ ∃ s, σ[id]? = some s ∧ ver ≤ s.ver ∧ (ver = s.ver → 0 < sz ∧ ((n = 0 ∧ s.nil = true ∧ ∃ A, v = .slice A 0 0) ∨ s.nil = false ∧ ∃ cap sh, v = .slice (some ⟨s.b, s.o + off, none⟩) n cap ∧ n ≤ cap ∧
      w.shape? s.b = some sh ∧ s.o + off + cap * sz ≤ sh.2 ∧ s.len ≤ off + cap * sz))
  | .map id, v => (∃ A, v = .map A) ∧ ∃ s, σ[id]? = some s ∧ (s.ver = 0 → v = .map (some s.b))
  | .fn f cs, v => ∃ vs : List Value, v = .func f #[] vs.toArray ∧ RepAll S σ w cs vs
  | .pptr cs off, v => ∃ b o, v = .pointer (some ⟨b, o + off, none⟩) ∧ S b ∧ RepCells S σ w b o cs
  | .iface t x, v => ∃ u, v = .iface t u ∧ Rep S σ w x u
  | .yld id, v => (∃ A, v = .func (.yield A) #[] #[]) ∧ ∃ s, σ[id]? = some s ∧ (s.ver = 0 → v = .func (.yield s.b) #[] #[])
def RepAll (S : Nat → Prop) (σ : List Slot) (w : World) : List V → List Value → Prop
  | [], vs => vs = []
  | c :: cs, vs => ∃ x xs, vs = x :: xs ∧ Rep S σ w c x ∧ RepAll S σ w cs xs
def RepCells (S : Nat → Prop) (σ : List Slot) (w : World) : Nat → Nat → List V → Prop
  | _, _, [] => True
  | b, o, c :: cs => (c.one = true ∧ ∃ x, w.cell? ⟨b, o, none⟩ = some x ∧ Rep S σ w c x) ∧ RepCells S σ w b (o + 1) cs
end

/-- A later table of objects. -/
def Le (σ σ' : List Slot) : Prop := ∀ (id : Nat) (s : Slot), σ[id]? = some s → ∃ s', σ'[id]? = some s' ∧ s.ver ≤ s'.ver ∧ (s.ver = s'.ver → s' = s)

theorem Le.refl (σ : List Slot) : Le σ σ := fun id s h => ⟨s, h, Nat.le_refl _, fun _ => rfl⟩
theorem Le.trans {a b c : List Slot} (h : Le a b) (k : Le b c) : Le a c := fun id s hs => by
  obtain ⟨s1, h1, l1, e1⟩ := h id s hs
  obtain ⟨s2, h2, l2, e2⟩ := k id s1 h1
  refine ⟨s2, h2, by omega, fun e => ?_⟩
  have : s1 = s := e1 (by omega)
  subst this
  exact e2 e

structure Same (S : Nat → Prop) (w w' : World) : Prop where
  heap : ∀ b, S b → w'.heap[b]? = w.heap[b]?
  shape : ∀ b sh, w.shape? b = some sh → w'.shape? b = some sh

theorem Same.cell {S : Nat → Prop} {w w' : World} (h : Same S w w') {b o : Nat} (hb : S b) : w'.cell? ⟨b, o, none⟩ = w.cell? ⟨b, o, none⟩ := by
  simp only [World.cell?, h.heap b hb]

mutual
theorem Rep.mono {S S' : Nat → Prop} {σ σ' : List Slot} {w w' : World} (hS : ∀ b, S b → S' b) (hσ : Le σ σ') (hw : Same S w w') :
    ∀ (v : V) (x : Value), Rep S σ w v x → Rep S' σ' w' v x
  | .int k n, x, h => by simpa [Rep] using h
  | .bool b, x, h => by simpa [Rep] using h
  | .str s, x, h => by simpa [Rep] using h
  | .raw y, x, h => by simpa [Rep] using h
  | .dead, x, h => by simpa [Rep] using h
  | .e0, x, h => by simpa [Rep] using h
  | .lst sz cs, x, h => by
    simp only [Rep] at h ⊢
    obtain ⟨A, n, cap, h1, h2, h3, h4, h5⟩ := h
    refine ⟨A, n, cap, h1, h2, h3, h4, fun hn => ?_⟩
    obtain ⟨b, o, e, hb, hc⟩ := h5 hn
    exact ⟨b, o, e, hS _ hb, RepCells.mono hS hσ hw b hb o cs hc⟩
  | .agg cs, x, h => by
    simp only [Rep] at h ⊢
    obtain ⟨vs, h1, h2, h3⟩ := h
    exact ⟨vs, h1, h2, RepAll.mono hS hσ hw cs vs h3⟩
  | .tup cs, x, h => by
    simp only [Rep] at h ⊢
    obtain ⟨vs, h1, h3⟩ := h
    exact ⟨vs, h1, RepAll.mono hS hσ hw cs vs h3⟩
  | .ptr id ver off, x, h => by
    simp only [Rep] at h ⊢
    obtain ⟨h0, s, h1, h2, h3⟩ := h
    obtain ⟨s', e1, e2, e3⟩ := hσ id s h1
    refine ⟨h0, s', e1, by omega, fun e => ?_⟩
    have : s' = s := e3 (by omega)
    subst this
    exact h3 e
  | .slc id ver off n sz, x, h => by
    simp only [Rep] at h ⊢
    obtain ⟨h0, s, h1, h2, h3⟩ := h
    obtain ⟨s', e1, e2, e3⟩ := hσ id s h1
    refine ⟨h0, s', e1, by omega, fun e => ?_⟩
    have : s' = s := e3 (by omega)
    subst this
    obtain ⟨hz, hc⟩ := h3 e
    exact ⟨hz, hc.imp (fun h => h) fun ⟨a0, cap, sh, a1, a2, a3, a4⟩ => ⟨a0, cap, sh, a1, a2, hw.shape _ _ a3, a4⟩⟩
  | .map id, x, h => by
    simp only [Rep] at h ⊢
    obtain ⟨h0, s, h1, h3⟩ := h
    obtain ⟨s', e1, e2, e3⟩ := hσ id s h1
    refine ⟨h0, s', e1, fun e => ?_⟩
    have : s' = s := e3 (by omega)
    subst this
    exact h3 e
  | .fn f cs, x, h => by
    simp only [Rep] at h ⊢
    obtain ⟨vs, h1, h3⟩ := h
    exact ⟨vs, h1, RepAll.mono hS hσ hw cs vs h3⟩
  | .pptr cs off, x, h => by
    simp only [Rep] at h ⊢
    obtain ⟨b, o, h1, h2, h3⟩ := h
    exact ⟨b, o, h1, hS _ h2, RepCells.mono hS hσ hw b h2 o cs h3⟩
  | .iface t y, x, h => by
    simp only [Rep] at h ⊢
    obtain ⟨u, h1, h2⟩ := h
    exact ⟨u, h1, Rep.mono hS hσ hw y u h2⟩
  | .yld id, x, h => by
    simp only [Rep] at h ⊢
    obtain ⟨h0, s, h1, h3⟩ := h
    obtain ⟨s', e1, e2, e3⟩ := hσ id s h1
    refine ⟨h0, s', e1, fun e => ?_⟩
    have : s' = s := e3 (by omega)
    subst this
    exact h3 e
theorem RepAll.mono {S S' : Nat → Prop} {σ σ' : List Slot} {w w' : World} (hS : ∀ b, S b → S' b) (hσ : Le σ σ') (hw : Same S w w') :
    ∀ (cs : List V) (xs : List Value), RepAll S σ w cs xs → RepAll S' σ' w' cs xs
  | [], xs, h => by simpa [RepAll] using h
  | c :: cs, xs, h => by
    simp only [RepAll] at h ⊢
    obtain ⟨y, ys, h1, h2, h3⟩ := h
    exact ⟨y, ys, h1, Rep.mono hS hσ hw c y h2, RepAll.mono hS hσ hw cs ys h3⟩
theorem RepCells.mono {S S' : Nat → Prop} {σ σ' : List Slot} {w w' : World} (hS : ∀ b, S b → S' b) (hσ : Le σ σ') (hw : Same S w w') (b : Nat) (hb : S b) :
    ∀ (o : Nat) (cs : List V), RepCells S σ w b o cs → RepCells S' σ' w' b o cs
  | o, [], h => by simp [RepCells]
  | o, c :: cs, h => by
    simp only [RepCells] at h ⊢
    obtain ⟨⟨h1, x, h2, h3⟩, h4⟩ := h
    exact ⟨⟨h1, x, (hw.cell hb).trans h2, Rep.mono hS hσ hw c x h3⟩, RepCells.mono hS hσ hw b hb (o + 1) cs h4⟩
end

end Go.VL
end

/- The value-level program logic, part 1: the store, evolution, the predicate WP and its control rules. -/
section
set_option linter.unusedVariables false
set_option linter.unusedSimpArgs false
namespace Go.VL
open Go

/-- A key of a map: one integer, or the cells of a struct or an array of integers. -/
inductive Key where
  | int (k : IntKind) (n : Int)
  | str (s : ByteArray)
  | cells (l : List (IntKind × Int))
  deriving DecidableEq

def Key.value : Key → Value
  | .int k n => .int k n
  | .str s => .string s
  | .cells l => .agg (l.map fun p => Value.int p.1 p.2).toArray

inductive Ob where
  | cells (ver : Nat) (cs : List V)
  | frozen (ver : Nat) (cs : List V)
  | acc (ver : Nat) (cs : List V)
  | map (es : List (Key × V))
  | iter (m n : Nat) (seen : List Nat)
  | loop (state : LoopState) (jump : Option Code) (tm : Env) (n : Nat) (fn : FuncId) (ps : Array Tmp) (assign body : Code)
  | dead
  deriving Inhabited

abbrev St := List Ob

def Ob.live : Ob → Bool
  | .frozen .. | .dead => false
  | .acc _ cs => !cs.isEmpty
  | _ => true

/-- Cells, whatever. -/
def Ob.solid : Ob → Bool
  | .cells .. | .frozen .. => true
  | _ => false

def RepEnts (S : Nat → Prop) (σ : List Slot) (w : World) : List (Key × V) → List MapEntry → Prop
  | [], es => es = []
  | (k, v) :: r, es => ∃ e t, es = e :: t ∧ e.key = k.value ∧ Rep S σ w v e.val ∧ RepEnts S σ w r t

def ObRep (S : Nat → Prop) (σ : List Slot) (w : World) (s : Slot) : Ob → Prop
  | .cells ver cs => s.ver = ver ∧ s.len = cs.length ∧ ¬ S s.b ∧ (∃ arr t, w.heap[s.b]? = some (.cells arr t (0, 0)) ∧ s.o + cs.length ≤ arr.size) ∧ RepCells S σ w s.b s.o cs
  | .frozen ver cs => s.ver = ver ∧ s.len = cs.length ∧ S s.b ∧ RepCells S σ w s.b s.o cs
  | .acc ver cs => s.ver = ver ∧ s.len = cs.length ∧ (cs = [] → s.nil = true) ∧ (cs ≠ [] → s.nil = false ∧ ¬ S s.b ∧ (∃ arr t, w.heap[s.b]? = some (.cells arr t (0, 0)) ∧ s.o + cs.length ≤ arr.size) ∧ RepCells S σ w s.b s.o cs)
  | .map es => s.ver = 0 ∧ ¬ S s.b ∧ ∃ ents clock, w.heap[s.b]? = some (.map ents clock) ∧ RepEnts S σ w es ents.toList ∧ clock = ents.size ∧ ents.toList.map (·.born) = List.range ents.size ∧ (es.map Prod.fst).Nodup
  | .iter m n seen => s.ver = 0 ∧ ¬ S s.b ∧ ∃ mb sn, w.heap[s.b]? = some (.mapIter (some mb) n sn n) ∧ sn.toList = seen ∧ ∃ sm, σ[m]? = some sm ∧ (sm.ver = 0 → sm.b = mb)
  | .loop state jump tm n fn ps assign body => s.ver = 0 ∧ ¬ S s.b ∧ ∃ tmps dfr, w.heap[s.b]? = some (.loop { state := state, pending := jump, fn := fn, tmps := tmps, params := ps, assign := assign, body := body, defers := dfr }) ∧ tmps.size = n ∧
      ∀ t v, look tm t = some v → Rep S σ w v (tmps.getD t undef)
  | .dead => True

structure StRep (S : Nat → Prop) (σ : List Slot) (st : St) (w : World) : Prop where
  len : σ.length = st.length
  zero : ∀ (id : Nat) (s : Slot), σ[id]? = some s → s.o = 0
  nil : ∀ (id : Nat) (ob : Ob) (s : Slot), st[id]? = some ob → σ[id]? = some s → ob.solid = true → s.nil = false
  ob : ∀ (id : Nat) (ob : Ob) (s : Slot), st[id]? = some ob → σ[id]? = some s → ObRep S σ w s ob
  inj : ∀ (id id' : Nat) (ob ob' : Ob) (s s' : Slot), st[id]? = some ob → st[id']? = some ob' → ob.live = true → ob'.live = true → σ[id]? = some s → σ[id']? = some s' → s.b = s'.b → id = id'

def Own (σ : List Slot) (st : St) (b : Nat) : Prop := ∃ (id : Nat) (ob : Ob) (s : Slot), st[id]? = some ob ∧ ob.live = true ∧ σ[id]? = some s ∧ s.b = b

structure Cx where
  P : Program
  G : List (Nat × List V)

structure SB (cx : Cx) (S : Nat → Prop) (w : World) : Prop where
  lt : ∀ b, S b → b < w.heap.size
  glob : ∀ (g : Nat) (cs : List V), (g, cs) ∈ cx.G → S g ∧ RepCells S [] w g 0 cs

structure Evo (S : Nat → Prop) (σ : List Slot) (st : St) (w : World) (S' : Nat → Prop) (σ' : List Slot) (st' : St) (w' : World) : Prop where
  os : w'.os = w.os
  tape : w'.tape = w.tape
  output : w'.output = w.output
  size : w.heap.size ≤ w'.heap.size
  shape : ∀ b sh, w.shape? b = some sh → w'.shape? b = some sh
  keep : ∀ b, b < w.heap.size → ¬ Own σ st b → w'.heap[b]? = w.heap[b]?
  sub : ∀ b, S b → S' b
  new : ∀ b, S' b → S b ∨ w.heap.size ≤ b ∨ Own σ st b
  own : ∀ b, Own σ' st' b → Own σ st b ∨ w.heap.size ≤ b
  le : Le σ σ'

theorem StRep.own_lt {S : Nat → Prop} {σ : List Slot} {st : St} {w : World} (h : StRep S σ st w) {b : Nat} (ho : Own σ st b) : b < w.heap.size ∧ ¬ S b := by
  obtain ⟨id, ob, s, h1, h2, h3, rfl⟩ := ho
  have := h.ob id ob s h1 h3
  have lt : ∀ {o : Obj}, w.heap[s.b]? = some o → s.b < w.heap.size := fun hh => (Array.getElem?_eq_some_iff.1 hh).1
  cases ob <;> simp only [ObRep, Ob.live] at this h2
  case cells ver cs => obtain ⟨_, _, hS, ⟨arr, t, hh, _⟩, _⟩ := this; exact ⟨lt hh, hS⟩
  case acc ver cs =>
    obtain ⟨_, _, _, h4⟩ := this
    obtain ⟨_, hS, ⟨arr, t, hh, _⟩, _⟩ := h4 (by intro e; subst e; cases h2)
    exact ⟨lt hh, hS⟩
  case map es => obtain ⟨_, hS, ents, clock, hh, _⟩ := this; exact ⟨lt hh, hS⟩
  case iter m n sn => obtain ⟨_, hS, _, _, hh, _⟩ := this; exact ⟨lt hh, hS⟩
  case loop => obtain ⟨_, hS, _, _, hh, _⟩ := this; exact ⟨lt hh, hS⟩
  case frozen => cases h2
  case dead => cases h2

theorem Evo.refl (S : Nat → Prop) (σ : List Slot) (st : St) (w : World) : Evo S σ st w S σ st w :=
  ⟨rfl, rfl, rfl, Nat.le_refl _, fun _ _ h => h, fun _ _ _ => rfl, fun _ h => h, fun _ h => .inl h, fun _ h => .inl h, Le.refl _⟩

theorem Evo.trans {S0 S1 S2 : Nat → Prop} {σ0 σ1 σ2 : List Slot} {t0 t1 t2 : St} {w0 w1 w2 : World} (h : Evo S0 σ0 t0 w0 S1 σ1 t1 w1) (k : Evo S1 σ1 t1 w1 S2 σ2 t2 w2) : Evo S0 σ0 t0 w0 S2 σ2 t2 w2 := by
  refine ⟨k.os.trans h.os, k.tape.trans h.tape, k.output.trans h.output, Nat.le_trans h.size k.size, fun b sh e => k.shape b sh (h.shape b sh e), ?_, fun b hb => k.sub b (h.sub b hb), ?_, ?_, h.le.trans k.le⟩
  · intro b hb ho
    refine (k.keep b (Nat.lt_of_lt_of_le hb h.size) (fun h1 => ?_)).trans (h.keep b hb ho)
    rcases h.own b h1 with h2 | h2
    · exact ho h2
    · omega
  · intro b hb
    rcases k.new b hb with h1 | h1 | h1
    · exact h.new b h1
    · exact .inr (.inl (Nat.le_trans h.size h1))
    · rcases h.own b h1 with h2 | h2
      · exact .inr (.inr h2)
      · exact .inr (.inl h2)
  · intro b hb
    rcases k.own b hb with h1 | h1
    · exact h.own b h1
    · exact .inr (Nat.le_trans h.size h1)

theorem Evo.same {S S' : Nat → Prop} {σ σ' : List Slot} {st st' : St} {w w' : World} (h : Evo S σ st w S' σ' st' w') (hr : StRep S σ st w) (hb : ∀ b, S b → b < w.heap.size) : Same S w w' :=
  ⟨fun b hS => h.keep b (hb b hS) (fun ho => (hr.own_lt ho).2 hS), h.shape⟩

theorem Evo.rep {S S' : Nat → Prop} {σ σ' : List Slot} {st st' : St} {w w' : World} (h : Evo S σ st w S' σ' st' w') (hr : StRep S σ st w) (hb : ∀ b, S b → b < w.heap.size) {v : V} {x : Value} (hv : Rep S σ w v x) : Rep S' σ' w' v x :=
  Rep.mono h.sub h.le (h.same hr hb) v x hv

theorem Evo.repAll {S S' : Nat → Prop} {σ σ' : List Slot} {st st' : St} {w w' : World} (h : Evo S σ st w S' σ' st' w') (hr : StRep S σ st w) (hb : ∀ b, S b → b < w.heap.size) {v : List V} {x : List Value} (hv : RepAll S σ w v x) : RepAll S' σ' w' v x :=
  RepAll.mono h.sub h.le (h.same hr hb) v x hv

theorem Evo.sb {cx : Cx} {S S' : Nat → Prop} {σ σ' : List Slot} {st st' : St} {w w' : World} (h : Evo S σ st w S' σ' st' w') (hr : StRep S σ st w) (hb : SB cx S w) (hn : ∀ b, S' b → b < w'.heap.size) : SB cx S' w' :=
  ⟨hn, fun g cs hg => ⟨h.sub _ (hb.glob g cs hg).1, RepCells.mono h.sub (Le.refl _) (h.same hr hb.lt) g (hb.glob g cs hg).1 0 cs (hb.glob g cs hg).2⟩⟩

/-- The deferred calls of an activation: marks of ranges over functions alone, whose blocks are nobody's. -/
def DefOK (lo : Nat) (S : Nat → Prop) (σ : List Slot) (st : St) (w : World) : List Deferred → Prop
  | [] => True
  | d :: ds => (d.args = #[] ∧ ∃ b, d.target = .collected b ∧ lo ≤ b ∧ w.heap[b]? = some (.deferred (some [])) ∧ ¬ S b ∧ ¬ Own σ st b ∧ ∀ d' ∈ ds, d'.target ≠ .collected b) ∧ DefOK lo S σ st w ds

/-- As 'Evo', but of the objects that there were, only the first m stay for certain. -/
structure EvoW (m : Nat) (S : Nat → Prop) (σ : List Slot) (st : St) (w : World) (S' : Nat → Prop) (σ' : List Slot) (st' : St) (w' : World) : Prop where
  os : w'.os = w.os
  tape : w'.tape = w.tape
  output : w'.output = w.output
  size : w.heap.size ≤ w'.heap.size
  shape : ∀ b sh, w.shape? b = some sh → w'.shape? b = some sh
  keep : ∀ b, b < w.heap.size → ¬ Own σ st b → w'.heap[b]? = w.heap[b]?
  sub : ∀ b, S b → S' b
  new : ∀ b, S' b → S b ∨ w.heap.size ≤ b ∨ Own σ st b
  own : ∀ b, Own σ' st' b → Own σ st b ∨ w.heap.size ≤ b
  le : Le (σ.take m) σ'

theorem Evo.toW {m : Nat} {S S' : Nat → Prop} {σ σ' : List Slot} {st st' : St} {w w' : World} (h : Evo S σ st w S' σ' st' w') : EvoW m S σ st w S' σ' st' w' :=
  ⟨h.os, h.tape, h.output, h.size, h.shape, h.keep, h.sub, h.new, h.own, fun id s hs => by
    rw [List.getElem?_take] at hs
    split at hs
    · exact h.le id s hs
    · cases hs⟩

theorem EvoW.full {m : Nat} {S S' : Nat → Prop} {σ σ' : List Slot} {st st' : St} {w w' : World} (h : EvoW m S σ st w S' σ' st' w') (hm : σ.length ≤ m) : Evo S σ st w S' σ' st' w' :=
  ⟨h.os, h.tape, h.output, h.size, h.shape, h.keep, h.sub, h.new, h.own, fun id s hs => h.le id s (by
    rw [List.getElem?_take, if_pos (by have := (List.getElem?_eq_some_iff.1 hs).1; omega)]; exact hs)⟩

theorem EvoW.refl (m : Nat) (S : Nat → Prop) (σ : List Slot) (st : St) (w : World) : EvoW m S σ st w S σ st w := (Evo.refl S σ st w).toW

theorem EvoW.trans {m : Nat} {S0 S1 S2 : Nat → Prop} {σ0 σ1 σ2 : List Slot} {t0 t1 t2 : St} {w0 w1 w2 : World} (h : EvoW m S0 σ0 t0 w0 S1 σ1 t1 w1) (k : EvoW m S1 σ1 t1 w1 S2 σ2 t2 w2) : EvoW m S0 σ0 t0 w0 S2 σ2 t2 w2 := by
  refine ⟨k.os.trans h.os, k.tape.trans h.tape, k.output.trans h.output, Nat.le_trans h.size k.size, fun b sh e => k.shape b sh (h.shape b sh e), ?_, fun b hb => k.sub b (h.sub b hb), ?_, ?_, ?_⟩
  · intro b hb ho
    refine (k.keep b (Nat.lt_of_lt_of_le hb h.size) (fun h1 => ?_)).trans (h.keep b hb ho)
    rcases h.own b h1 with h2 | h2
    · exact ho h2
    · omega
  · intro b hb
    rcases k.new b hb with h1 | h1 | h1
    · exact h.new b h1
    · exact .inr (.inl (Nat.le_trans h.size h1))
    · rcases h.own b h1 with h2 | h2
      · exact .inr (.inr h2)
      · exact .inr (.inl h2)
  · intro b hb
    rcases k.own b hb with h1 | h1
    · exact h.own b h1
    · exact .inr (Nat.le_trans h.size h1)
  · intro id s hs
    have hid : id < m := by have := (List.getElem?_eq_some_iff.1 hs).1; simp at this; omega
    obtain ⟨s1, a1, a2, a3⟩ := h.le id s hs
    obtain ⟨s2, b1, b2, b3⟩ := k.le id s1 (by rw [List.getElem?_take, if_pos hid]; exact a1)
    refine ⟨s2, b1, by omega, fun e => ?_⟩
    have e1 : s1 = s := a3 (by omega)
    subst e1
    exact b3 e

theorem DefOK.monoW {lo m : Nat} {S S' : Nat → Prop} {σ σ' : List Slot} {st st' : St} {w w' : World} (h : EvoW m S σ st w S' σ' st' w') : ∀ ds, DefOK lo S σ st w ds → DefOK lo S' σ' st' w' ds
  | [], _ => trivial
  | d :: ds, hd => by
    obtain ⟨⟨h1, b, h2, h3, h4, h5, h6, h7⟩, h8⟩ := hd
    have hlt : b < w.heap.size := (Array.getElem?_eq_some_iff.1 h4).1
    refine ⟨⟨h1, b, h2, h3, (h.keep b hlt h6).trans h4, fun hS => ?_, fun ho => ?_, h7⟩, DefOK.monoW h ds h8⟩
    · rcases h.new b hS with h | h | h
      · exact h5 h
      · omega
      · exact h6 h
    · rcases h.own b ho with h | h
      · exact h6 h
      · omega

theorem DefOK.mono {lo : Nat} {S S' : Nat → Prop} {σ σ' : List Slot} {st st' : St} {w w' : World} (h : Evo S σ st w S' σ' st' w') : ∀ ds, DefOK lo S σ st w ds → DefOK lo S' σ' st' w' ds := DefOK.monoW (m := 0) h.toW

structure Holds (cx : Cx) (N lo : Nat) (S : Nat → Prop) (σ : List Slot) (env : Env) (st : St) (a : Act) (w : World) : Prop where
  size : a.tmps.size = N
  rep : ∀ t v, look env t = some v → Rep S σ w v (a.tmps.getD t undef)
  str : StRep S σ st w
  sb : SB cx S w
  dfr : DefOK lo S σ st w a.defers
  le : lo ≤ w.heap.size

def fence (σ : List Slot) : Option Nat → Fence
  | none => Fence.wide
  | some id => Fence.wide.inRound ((σ[id]?.map (·.b)).getD 0)

/-- Where code is carried out: in a round or not; how many objects stay for certain. -/
structure RR where
  round : Option Nat
  fl : Nat

/-- What the law of a piece of code says: from whatever memory fits the values. -/
def WP (cx : Cx) (N : Nat) (r : RR) (c : Code) (Q : Exit → Env → St → Prop) (env : Env) (st : St) : Prop :=
  ∀ (lo : Nat) (S : Nat → Prop) (σ : List Slot) (F : Fence) (a : Act) (w : World), Holds cx N lo S σ env st a w → (∃ l, F = Fence.wide.inRound l) ∨ F = Fence.wide → (F.round = none ↔ r.round = none) →
    c.wpIn F 0 cx.P (fun e a' w' => ∃ env' st' S' σ', Q e env' st' ∧ Holds cx N lo S' σ' env' st' a' w' ∧ EvoW r.fl S σ st w S' σ' st' w') a w

section
variable {cx : Cx} {N : Nat} {r : RR} {env : Env} {st : St} {Q : Exit → Env → St → Prop}

theorem WP.mono {c : Code} {Q' : Exit → Env → St → Prop} (h : WP cx N r c Q env st) (hq : ∀ e env st, Q e env st → Q' e env st) : WP cx N r c Q' env st :=
  fun lo S σ F a w hh hF hr => Code.wpIn_mono (fun e a' w' ⟨env', st', S', σ', q, x⟩ => ⟨env', st', S', σ', hq _ _ _ q, x⟩) (h lo S σ F a w hh hF hr)

theorem WP.skip (h : Q .normal env st) : WP cx N r .skip Q env st :=
  fun lo S σ F a w hh hF hr => wpIn_skip ⟨env, st, S, σ, h, hh, EvoW.refl _ _ _ _ _⟩
theorem WP.label {l : Nat} (h : Q .normal env st) : WP cx N r (.label l) Q env st :=
  fun lo S σ F a w hh hF hr => wpIn_label ⟨env, st, S, σ, h, hh, EvoW.refl _ _ _ _ _⟩
theorem WP.exit {id : Nat} (h : Q (.exit id) env st) : WP cx N r (.exit id) Q env st :=
  fun lo S σ F a w hh hF hr => wpIn_exit ⟨env, st, S, σ, h, hh, EvoW.refl _ _ _ _ _⟩
theorem WP.goto {id : Nat} (h : Q (.goto id) env st) : WP cx N r (.goto id) Q env st :=
  fun lo S σ F a w hh hF hr => wpIn_goto ⟨env, st, S, σ, h, hh, EvoW.refl _ _ _ _ _⟩
theorem WP.ret (h : Q .ret env st) : WP cx N r .ret Q env st :=
  fun lo S σ F a w hh hF hr => wpIn_ret ⟨env, st, S, σ, h, hh, EvoW.refl _ _ _ _ _⟩

/-- Fewer temporaries are known. -/
def Sub (env : Env) : Env → Prop
  | [] => True
  | (t, v) :: r => look env t = some v ∧ Sub env r

theorem Sub.look {env env' : Env} (h : Sub env env') : ∀ t v, look env' t = some v → look env t = some v := by
  induction env' with
  | nil => intro t v hv; cases hv
  | cons p r ih =>
    obtain ⟨k, u⟩ := p
    intro t v hv
    obtain ⟨h1, h2⟩ := h
    simp only [VL.look] at hv
    split at hv
    · rename_i e; cases hv; rw [← e]; exact h1
    · exact ih h2 t v hv

theorem Holds.sub {lo : Nat} {S : Nat → Prop} {σ : List Slot} {a : Act} {w : World} {env' : Env} (h : Holds cx N lo S σ env st a w) (hs : Sub env env') : Holds cx N lo S σ env' st a w :=
  ⟨h.size, fun t v hv => h.rep t v (hs.look t v hv), h.str, h.sb, h.dfr, h.le⟩

theorem WP.sub {c : Code} {env' : Env} (hs : Sub env env') (h : WP cx N r c Q env' st) : WP cx N r c Q env st :=
  fun lo S σ F a w hh hF hr => h lo S σ F a w (hh.sub hs) hF hr

/-- Behind the first of two pieces. -/
def Then (K Q : Exit → Env → St → Prop) : Exit → Env → St → Prop
  | .normal => K .normal
  | e => Q e

theorem WP.seq {x y : Code} (h : WP cx N r x (Then (fun _ env st => WP cx N r y Q env st) Q) env st) : WP cx N r (.seq x y) Q env st := by
  intro lo S σ F a w hh hF hr
  refine wpIn_seq (Code.wpIn_mono ?_ (h lo S σ F a w hh hF hr))
  rintro e a' w' ⟨env', st', S', σ', q, h', ev⟩
  cases e with
  | normal =>
    refine Code.wpIn_mono ?_ (q lo S' σ' F a' w' h' hF hr)
    rintro e2 a2 w2 ⟨env2, st2, S2, σ2, q2, h2, ev2⟩
    exact ⟨env2, st2, S2, σ2, q2, h2, ev.trans ev2⟩
  | exit id => exact ⟨env', st', S', σ', q, h', ev⟩
  | goto id => exact ⟨env', st', S', σ', q, h', ev⟩
  | ret => exact ⟨env', st', S', σ', q, h', ev⟩
  | panic ch => exact ⟨env', st', S', σ', q, h', ev⟩
  | outgrown => exact ⟨env', st', S', σ', q, h', ev⟩

def InBlock (id : Nat) (Q : Exit → Env → St → Prop) : Exit → Env → St → Prop
  | .exit j => if j = id then Q .normal else Q (.exit j)
  | e => Q e

theorem WP.block {id : Nat} {c : Code} (h : WP cx N r c (InBlock id Q) env st) : WP cx N r (.block id c) Q env st := by
  intro lo S σ F a w hh hF hr
  refine wpIn_block (Code.wpIn_mono ?_ (h lo S σ F a w hh hF hr))
  rintro e a' w' ⟨env', st', S', σ', q, h', ev⟩
  cases e with
  | exit j =>
    simp only [InBlock, Exit.inBlock] at q ⊢
    split
    · rename_i e; rw [if_pos e] at q; exact ⟨env', st', S', σ', q, h', ev⟩
    · rename_i e; rw [if_neg e] at q; exact ⟨env', st', S', σ', q, h', ev⟩
  | normal => exact ⟨env', st', S', σ', q, h', ev⟩
  | goto id => exact ⟨env', st', S', σ', q, h', ev⟩
  | ret => exact ⟨env', st', S', σ', q, h', ev⟩
  | panic ch => exact ⟨env', st', S', σ', q, h', ev⟩
  | outgrown => exact ⟨env', st', S', σ', q, h', ev⟩

def ofConst : Value → Option V
  | .int k n => some (.int k n)
  | .bool b => some (.bool b)
  | .string s => some (.str s)
  | .slice _ 0 0 => some .e0
  | .nilFunc => some (.raw .nilFunc)
  | .nilIface => some (.raw .nilIface)
  | .pointer none => some (.raw (.pointer none))
  | .map none => some (.raw (.map none))
  | _ => none

def opnd (cx : Cx) (env : Env) : Operand → Option V
  | .tmp t => look env t
  | .const v => ofConst v
  | .func f => some (.fn (.func f) [])
  | .global g => (cx.G.lookup g).map fun cs => .pptr cs 0

theorem ofConst_rep {S : Nat → Prop} {σ : List Slot} {w : World} {x : Value} {v : V} (h : ofConst x = some v) : Rep S σ w v x := by
  unfold ofConst at h
  split at h <;> first | (cases h; simp [Rep]; done) | cases h

theorem lookup_mem {g : Nat} {cs : List V} {l : List (Nat × List V)} (h : l.lookup g = some cs) : (g, cs) ∈ l := by
  induction l with
  | nil => cases h
  | cons p t ih =>
    obtain ⟨k, u⟩ := p
    simp only [List.lookup_cons] at h
    split at h
    · rename_i e; cases h; have : g = k := by simpa using e
      subst this; exact List.mem_cons_self
    · exact List.mem_cons_of_mem _ (ih h)

theorem Holds.opnd {lo : Nat} {S : Nat → Prop} {σ : List Slot} {a : Act} {w : World} (h : Holds cx N lo S σ env st a w) {o : Operand} {v : V} (ho : opnd cx env o = some v) : Rep S σ w v (a.eval o) := by
  cases o with
  | tmp t => exact h.rep t v ho
  | const x => exact ofConst_rep ho
  | func f => cases ho; simp only [Act.eval, Rep]; exact ⟨[], rfl, by simp [RepAll]⟩
  | global g =>
    simp only [VL.opnd, Option.map_eq_some_iff] at ho
    obtain ⟨cs, hl, rfl⟩ := ho
    obtain ⟨h1, h2⟩ := h.sb.glob g cs (lookup_mem hl)
    simp only [Act.eval, Rep]
    exact ⟨g, 0, rfl, h1, RepCells.mono (fun _ hb => hb) (fun id s hs => by simp at hs) ⟨fun _ _ => rfl, fun _ _ h => h⟩ g h1 0 cs h2⟩

theorem WP.cond {c : Operand} {x y : Code} {b : Bool} (hc : VL.opnd cx env c = some (.bool b)) (ht : b = true → WP cx N r x Q env st) (hf : b = false → WP cx N r y Q env st) : WP cx N r (.cond c x y) Q env st := by
  intro lo S σ F a w hh hF hr
  have hv : a.eval c = .bool b := by simpa [Rep] using hh.opnd hc
  cases b with
  | true => exact wpIn_cond_true hv (ht rfl lo S σ F a w hh hF hr)
  | false => exact wpIn_cond_false hv (hf rfl lo S σ F a w hh hF hr)

/-- A loop: a family of states, a measure. -/
theorem WP.loop {ι : Type} {c : Code} (E : ι → Env) (T : ι → St) (I : ι → Prop) (μ : ι → Nat) (i0 : ι) (h0 : I i0) (hE : Sub env (E i0)) (hst : st = T i0)
    (step : ∀ i, I i → WP cx N r c (Then (fun _ env' st' => ∃ j, I j ∧ μ j < μ i ∧ Sub env' (E j) ∧ st' = T j) Q) (E i) (T i)) : WP cx N r (.loop c) Q env st := by
  subst hst
  intro lo S σ F a w hh hF hr
  have key : ∀ (m : Nat) (i : ι), μ i = m → I i → ∀ S σ a w, Holds cx N lo S σ (E i) (T i) a w → (Code.loop c).wpIn F 0 cx.P (fun e a' w' => ∃ env' st' S' σ', Q e env' st' ∧ Holds cx N lo S' σ' env' st' a' w' ∧ EvoW r.fl S σ (T i) w S' σ' st' w') a w := by
    intro m0 i0' hm0 hI0 S0 σ0 a0 w0 hh0
    refine wpIn_loop (fun a' w' => ∃ i S σ, I i ∧ Holds cx N lo S σ (E i) (T i) a' w' ∧ EvoW r.fl S0 σ0 (T i0') w0 S σ (T i) w')
      (fun a' w' => (Classical.epsilon fun m => ∃ i S σ, μ i = m ∧ I i ∧ Holds cx N lo S σ (E i) (T i) a' w' ∧ EvoW r.fl S0 σ0 (T i0') w0 S σ (T i) w' ∧ ∀ i' S' σ', I i' ∧ Holds cx N lo S' σ' (E i') (T i') a' w' ∧ EvoW r.fl S0 σ0 (T i0') w0 S' σ' (T i') w' → m ≤ μ i')) ⟨i0', S0, σ0, hI0, hh0, EvoW.refl _ _ _ _ _⟩ ?_
    intro a1 w1 hI1
    -- the least measure among those that fit
    have hex : ∃ m, ∃ i S σ, μ i = m ∧ I i ∧ Holds cx N lo S σ (E i) (T i) a1 w1 ∧ EvoW r.fl S0 σ0 (T i0') w0 S σ (T i) w1 ∧ ∀ i' S' σ', I i' ∧ Holds cx N lo S' σ' (E i') (T i') a1 w1 ∧ EvoW r.fl S0 σ0 (T i0') w0 S' σ' (T i') w1 → m ≤ μ i' := by
      obtain ⟨i, S, σ, h⟩ := hI1
      have : ∀ n, ∀ i, μ i ≤ n → ∀ S σ, (I i ∧ Holds cx N lo S σ (E i) (T i) a1 w1 ∧ EvoW r.fl S0 σ0 (T i0') w0 S σ (T i) w1) → ∃ m, ∃ i S σ, μ i = m ∧ I i ∧ Holds cx N lo S σ (E i) (T i) a1 w1 ∧ EvoW r.fl S0 σ0 (T i0') w0 S σ (T i) w1 ∧ ∀ i' S' σ', I i' ∧ Holds cx N lo S' σ' (E i') (T i') a1 w1 ∧ EvoW r.fl S0 σ0 (T i0') w0 S' σ' (T i') w1 → m ≤ μ i' := by
        intro n
        induction n with
        | zero => intro i hi S σ h; exact ⟨μ i, i, S, σ, rfl, h.1, h.2.1, h.2.2, fun i' S' σ' _ => by omega⟩
        | succ n ih =>
          intro i hi S σ h
          by_cases hl : ∃ i' S' σ', (I i' ∧ Holds cx N lo S' σ' (E i') (T i') a1 w1 ∧ EvoW r.fl S0 σ0 (T i0') w0 S' σ' (T i') w1) ∧ μ i' < μ i
          · obtain ⟨i', S', σ', h', hlt⟩ := hl
            exact ih i' (by omega) S' σ' h'
          · exact ⟨μ i, i, S, σ, rfl, h.1, h.2.1, h.2.2, fun i' S' σ' h' => by
              rcases Nat.lt_or_ge (μ i') (μ i) with hlt | hge
              · exact absurd ⟨i', S', σ', h', hlt⟩ hl
              · exact hge⟩
      exact this (μ i) i (Nat.le_refl _) S σ h
    have hsp := Classical.epsilon_spec hex
    obtain ⟨i, S1, σ1, hm, hIi, hhi, hev, hmin⟩ := hsp
    refine Code.wpIn_mono ?_ (step i hIi lo S1 σ1 F a1 w1 hhi hF hr)
    rintro e a2 w2 ⟨env', st', S', σ', q, h', ev⟩
    cases e with
    | normal =>
      obtain ⟨j, hIj, hlt, hsub, rfl⟩ := q
      refine ⟨⟨j, S', σ', hIj, h'.sub hsub, hev.trans ev⟩, ?_⟩
      have hex2 : ∃ m, ∃ i S σ, μ i = m ∧ I i ∧ Holds cx N lo S σ (E i) (T i) a2 w2 ∧ EvoW r.fl S0 σ0 (T i0') w0 S σ (T i) w2 ∧ ∀ i' S' σ', I i' ∧ Holds cx N lo S' σ' (E i') (T i') a2 w2 ∧ EvoW r.fl S0 σ0 (T i0') w0 S' σ' (T i') w2 → m ≤ μ i' := by
        have : ∀ n, ∀ i, μ i ≤ n → ∀ S σ, (I i ∧ Holds cx N lo S σ (E i) (T i) a2 w2 ∧ EvoW r.fl S0 σ0 (T i0') w0 S σ (T i) w2) → ∃ m, ∃ i S σ, μ i = m ∧ I i ∧ Holds cx N lo S σ (E i) (T i) a2 w2 ∧ EvoW r.fl S0 σ0 (T i0') w0 S σ (T i) w2 ∧ ∀ i' S' σ', I i' ∧ Holds cx N lo S' σ' (E i') (T i') a2 w2 ∧ EvoW r.fl S0 σ0 (T i0') w0 S' σ' (T i') w2 → m ≤ μ i' := by
          intro n
          induction n with
          | zero => intro i hi S σ h; exact ⟨μ i, i, S, σ, rfl, h.1, h.2.1, h.2.2, fun i' S' σ' _ => by omega⟩
          | succ n ih =>
            intro i hi S σ h
            by_cases hl : ∃ i' S' σ', (I i' ∧ Holds cx N lo S' σ' (E i') (T i') a2 w2 ∧ EvoW r.fl S0 σ0 (T i0') w0 S' σ' (T i') w2) ∧ μ i' < μ i
            · obtain ⟨i', S', σ', h', hlt⟩ := hl
              exact ih i' (by omega) S' σ' h'
            · exact ⟨μ i, i, S, σ, rfl, h.1, h.2.1, h.2.2, fun i' S' σ' h' => by
                rcases Nat.lt_or_ge (μ i') (μ i) with hlt | hge
                · exact absurd ⟨i', S', σ', h', hlt⟩ hl
                · exact hge⟩
        exact this (μ j) j (Nat.le_refl _) S' σ' ⟨hIj, h'.sub hsub, hev.trans ev⟩
      have hsp2 := Classical.epsilon_spec hex2
      obtain ⟨i2, S2, σ2, hm2, _, _, _, hmin2⟩ := hsp2
      have := hmin2 j S' σ' ⟨hIj, h'.sub hsub, hev.trans ev⟩
      exact Nat.lt_of_le_of_lt this (Nat.lt_of_lt_of_le hlt (Nat.le_of_eq hm))
    | exit id => exact ⟨env', st', S', σ', q, h', hev.trans ev⟩
    | goto id => exact ⟨env', st', S', σ', q, h', hev.trans ev⟩
    | ret => exact ⟨env', st', S', σ', q, h', hev.trans ev⟩
    | panic ch => exact ⟨env', st', S', σ', q, h', hev.trans ev⟩
    | outgrown => exact ⟨env', st', S', σ', q, h', hev.trans ev⟩
  exact key _ i0 rfl h0 S σ a w (hh.sub hE)
end
end Go.VL
end

/- The value-level program logic, part 2: cells by index; a new object; a store into an object. -/
section
set_option linter.unusedVariables false
set_option linter.unusedSimpArgs false
namespace Go.VL
open Go

theorem repCells_iff {S : Nat → Prop} {σ : List Slot} {w : World} {b : Nat} : ∀ (cs : List V) (o : Nat),
    RepCells S σ w b o cs ↔ ∀ (j : Nat) (c : V), cs[j]? = some c → c.one = true ∧ ∃ x, w.cell? ⟨b, o + j, none⟩ = some x ∧ Rep S σ w c x
  | [], o => by simp [RepCells]
  | c :: cs, o => by
    simp only [RepCells, repCells_iff cs (o + 1)]
    constructor
    · rintro ⟨h1, h2⟩ j d hd
      cases j with
      | zero => simp at hd; subst hd; simpa using h1
      | succ j => have := h2 j d (by simpa using hd); rwa [show o + (j + 1) = o + 1 + j by omega]
    · intro h
      refine ⟨by simpa using h 0 c (by simp), fun j d hd => ?_⟩
      have := h (j + 1) d (by simpa using hd)
      rwa [show o + 1 + j = o + (j + 1) by omega]

theorem RepCells.get {S : Nat → Prop} {σ : List Slot} {w : World} {b o : Nat} {cs : List V} (h : RepCells S σ w b o cs) {j : Nat} {c : V} (hj : cs[j]? = some c) : c.one = true ∧ ∃ x, w.cell? ⟨b, o + j, none⟩ = some x ∧ Rep S σ w c x := (repCells_iff cs o).1 h j c hj

theorem RepCells.part {S : Nat → Prop} {σ : List Slot} {w : World} {b o : Nat} {cs : List V} (h : RepCells S σ w b o cs) (k n : Nat) : RepCells S σ w b (o + k) ((cs.drop k).take n) := by
  rw [repCells_iff] at h ⊢
  intro j c hj
  rw [List.getElem?_take] at hj
  split at hj
  · rw [List.getElem?_drop] at hj
    have := h (k + j) c hj
    rwa [show o + k + j = o + (k + j) by omega]
  · cases hj

theorem RepCells.vals {S : Nat → Prop} {σ : List Slot} {w : World} {b : Nat} : ∀ {o : Nat} {cs : List V}, RepCells S σ w b o cs →
    ∃ vs : List Value, RepAll S σ w cs vs ∧ vs.length = cs.length ∧ cs.all V.one = true ∧ ∀ j x, vs[j]? = some x → w.cell? ⟨b, o + j, none⟩ = some x
  | o, [], _ => ⟨[], by simp [RepAll], rfl, rfl, by simp⟩
  | o, c :: cs, h => by
    simp only [RepCells] at h
    obtain ⟨⟨h1, x, h2, h3⟩, h4⟩ := h
    obtain ⟨vs, g1, g2, g3, g4⟩ := RepCells.vals h4
    refine ⟨x :: vs, by simp only [RepAll]; exact ⟨x, vs, rfl, h3, g1⟩, by simp [g2], by simp [h1, g3], fun j y hj => ?_⟩
    cases j with
    | zero => simp at hj; subst hj; simpa using h2
    | succ j => rw [show o + (j + 1) = o + 1 + j by omega]; exact g4 j y (by simpa using hj)

theorem repAll_iff {S : Nat → Prop} {σ : List Slot} {w : World} : ∀ (cs : List V) (vs : List Value),
    RepAll S σ w cs vs ↔ vs.length = cs.length ∧ ∀ (j : Nat) (c : V), cs[j]? = some c → ∃ x, vs[j]? = some x ∧ Rep S σ w c x
  | [], vs => by simp [RepAll]
  | c :: cs, vs => by
    simp only [RepAll]
    constructor
    · rintro ⟨x, xs, rfl, h1, h2⟩
      obtain ⟨h3, h4⟩ := (repAll_iff cs xs).1 h2
      refine ⟨by simp [h3], fun j d hd => ?_⟩
      cases j with
      | zero => simp at hd; subst hd; exact ⟨x, rfl, h1⟩
      | succ j => simpa using h4 j d (by simpa using hd)
    · rintro ⟨h1, h2⟩
      cases vs with
      | nil => simp at h1
      | cons x xs =>
        refine ⟨x, xs, rfl, ?_, (repAll_iff cs xs).2 ⟨by simpa using h1, fun j d hd => ?_⟩⟩
        · obtain ⟨y, hy, hr⟩ := h2 0 c (by simp); simp at hy; subst hy; exact hr
        · simpa using h2 (j + 1) d (by simpa using hd)

theorem RepAll.length {S : Nat → Prop} {σ : List Slot} {w : World} {cs : List V} {vs : List Value} (h : RepAll S σ w cs vs) : vs.length = cs.length := ((repAll_iff cs vs).1 h).1

/-- A value of one cell. -/
theorem Rep.one {S : Nat → Prop} {σ : List Slot} {w : World} {v : V} {x : Value} (h : Rep S σ w v x) (ho : v.one = true) : x.oneCell' = true := by
  cases v <;> simp only [Rep, V.one] at h ho
  case int => subst h; rfl
  case bool => subst h; rfl
  case str => subst h; rfl
  case raw => subst h; exact ho
  case dead => exact h
  case e0 => obtain ⟨A, rfl⟩ := h; rfl
  case lst => obtain ⟨A, n, cap, rfl, _⟩ := h; rfl
  case agg => cases ho
  case tup => cases ho
  case ptr => obtain ⟨⟨A, rfl⟩, _⟩ := h; rfl
  case slc => obtain ⟨⟨A, m, c, rfl⟩, _⟩ := h; rfl
  case map => obtain ⟨⟨A, rfl⟩, _⟩ := h; rfl
  case fn => obtain ⟨vs, rfl, _⟩ := h; rfl
  case pptr => obtain ⟨b, o, rfl, _⟩ := h; rfl
  case iface => obtain ⟨u, rfl, _⟩ := h; rfl
  case yld => obtain ⟨⟨A, rfl⟩, _⟩ := h; rfl

/-- The cells of a value that is no tuple. -/
def V.plain : V → Bool
  | .agg cs => true
  | v => v.one

theorem Rep.cells {S : Nat → Prop} {σ : List Slot} {w : World} {v : V} {x : Value} (h : Rep S σ w v x) (hp : v.plain = true) : RepAll S σ w v.cells x.cells.toList ∧ v.cells.all V.one = true := by
  by_cases ha : ∃ cs, v = .agg cs
  · obtain ⟨cs, rfl⟩ := ha
    simp only [Rep] at h
    obtain ⟨vs, rfl, h1, h2⟩ := h
    exact ⟨by simpa [V.cells, Value.cells] using h2, by simpa [V.cells] using h1⟩
  · have hv : v.cells = [v] := by cases v <;> first | rfl | (exact absurd ⟨_, rfl⟩ ha)
    have h1 : v.one = true := by cases v <;> first | exact hp | (exact absurd ⟨_, rfl⟩ ha)
    have hx : x.cells = #[x] := by have := h.one h1; cases x <;> first | rfl | cases this
    rw [hv, hx]
    exact ⟨by simp [RepAll, h], by simp [h1]⟩

/-- One object: the others stay where the block is another. -/
theorem ObRep.mono {S S' : Nat → Prop} {σ σ' : List Slot} {w w' : World} {s : Slot} {ob : Ob} (h : ObRep S σ w s ob) (hS : ∀ b, S b → S' b) (hn : ob.live = true → ¬ S' s.b) (hσ : Le σ σ') (hw : Same S w w')
    (hb : ob.live = true → w'.heap[s.b]? = w.heap[s.b]?) : ObRep S' σ' w' s ob := by
  have hcell : ob.live = true → ∀ o, w'.cell? ⟨s.b, o, none⟩ = w.cell? ⟨s.b, o, none⟩ := fun hl o => by simp only [World.cell?, hb hl]
  have hents : ∀ (es : List (Key × V)) (ents : List MapEntry), RepEnts S σ w es ents → RepEnts S' σ' w' es ents := by
    intro es
    induction es with
    | nil => intro ents h; simpa [RepEnts] using h
    | cons p r ih =>
      obtain ⟨k, v⟩ := p
      intro ents h
      simp only [RepEnts] at h ⊢
      obtain ⟨e, t, h1, h2, h3, h4⟩ := h
      exact ⟨e, t, h1, h2, Rep.mono hS hσ hw _ _ h3, ih t h4⟩
  cases ob with
  | cells ver cs =>
    simp only [ObRep] at h ⊢
    obtain ⟨h1, h2, h3, ⟨arr, t, h4, h5⟩, h6⟩ := h
    refine ⟨h1, h2, hn rfl, ⟨arr, t, (hb rfl).trans h4, h5⟩, ?_⟩
    rw [repCells_iff] at h6 ⊢
    intro j c hj
    obtain ⟨g1, x, g2, g3⟩ := h6 j c hj
    exact ⟨g1, x, (hcell rfl _).trans g2, Rep.mono hS hσ hw _ _ g3⟩
  | frozen ver cs =>
    simp only [ObRep] at h ⊢
    obtain ⟨h1, h2, h3, h6⟩ := h
    exact ⟨h1, h2, hS _ h3, RepCells.mono hS hσ hw _ h3 _ _ h6⟩
  | acc ver cs =>
    simp only [ObRep] at h ⊢
    obtain ⟨h1, h2, h3, h4⟩ := h
    refine ⟨h1, h2, h3, fun hne => ?_⟩
    have hl : (Ob.acc ver cs).live = true := by cases cs with
      | nil => exact absurd rfl hne
      | cons => rfl
    obtain ⟨g0, g1, ⟨arr, t, g2, g3⟩, g4⟩ := h4 hne
    refine ⟨g0, hn hl, ⟨arr, t, (hb hl).trans g2, g3⟩, ?_⟩
    rw [repCells_iff] at g4 ⊢
    intro j c hj
    obtain ⟨f1, x, f2, f3⟩ := g4 j c hj
    exact ⟨f1, x, (hcell hl _).trans f2, Rep.mono hS hσ hw _ _ f3⟩
  | map es =>
    simp only [ObRep] at h ⊢
    obtain ⟨h1, h2, ents, clock, h3, h4, h5⟩ := h
    exact ⟨h1, hn rfl, ents, clock, (hb rfl).trans h3, hents _ _ h4, h5⟩
  | iter m n seen =>
    simp only [ObRep] at h ⊢
    obtain ⟨h1, h2, mb, sn, h4, h5, sm, h3, h6⟩ := h
    obtain ⟨sm', e1, e2, e3⟩ := hσ m sm h3
    refine ⟨h1, hn rfl, mb, sn, (hb rfl).trans h4, h5, sm', e1, fun e => ?_⟩
    have : sm' = sm := e3 (by omega)
    subst this
    exact h6 e
  | loop running jump tm n fn ps assign body =>
    simp only [ObRep] at h ⊢
    obtain ⟨h1, h2, tmps, dfr, h3, h4, h5⟩ := h
    exact ⟨h1, hn rfl, tmps, dfr, (hb rfl).trans h3, h4, fun t v ht => Rep.mono hS hσ hw _ _ (h5 t v ht)⟩
  | dead => trivial


theorem le_push (σ : List Slot) (s : Slot) : Le σ (σ ++ [s]) := fun id t h => ⟨t, by rw [List.getElem?_append_left (List.getElem?_eq_some_iff.1 h).1]; exact h, Nat.le_refl _, fun _ => rfl⟩

theorem same_alloc (S : Nat → Prop) (w : World) (o : Obj) (hb : ∀ b, S b → b < w.heap.size) : Same S w (w.alloc o) where
  heap b h := RowKit.Below.heap_alloc w o b (hb b h)
  shape b sh h := by
    have hlt : b < w.heap.size := by
      rcases Nat.lt_or_ge b w.heap.size with h' | h'
      · exact h'
      · simp [World.shape?, Array.getElem?_eq_none h'] at h
    simp only [World.shape?, RowKit.Below.heap_alloc w o b hlt] at h ⊢
    exact h

theorem SB.push {cx : Cx} {S : Nat → Prop} {w : World} (h : SB cx S w) (o : Obj) : SB cx S (w.alloc o) :=
  ⟨fun b hb => by have := h.lt b hb; simp; omega, fun g cs hg => ⟨(h.glob g cs hg).1, RepCells.mono (fun _ h => h) (Le.refl _) (same_alloc S w o h.lt) g (h.glob g cs hg).1 0 cs (h.glob g cs hg).2⟩⟩

/-- A new object in a new block. -/
theorem StRep.push {S : Nat → Prop} {σ : List Slot} {st : St} {w : World} (h : StRep S σ st w) (hb : ∀ b, S b → b < w.heap.size) (o : Obj) (s : Slot) (ob : Ob) (hs : s.b = w.heap.size) (hz : s.o = 0) (hnil : s.nil = false)
    (hob : ObRep S (σ ++ [s]) (w.alloc o) s ob) : StRep S (σ ++ [s]) (st ++ [ob]) (w.alloc o) := by
  have hlen := h.len
  have old : ∀ {id : Nat} {ob : Ob} {s' : Slot}, st[id]? = some ob → σ[id]? = some s' → ob.live = true → s'.b < w.heap.size := fun h1 h2 h3 => (h.own_lt ⟨_, _, _, h1, h3, h2, rfl⟩).1
  have cases' : ∀ {id : Nat} {ob' : Ob} {s' : Slot}, (st ++ [ob])[id]? = some ob' → (σ ++ [s])[id]? = some s' → (st[id]? = some ob' ∧ σ[id]? = some s') ∨ (id = st.length ∧ ob' = ob ∧ s' = s) := by
    intro id ob' s' h1 h2
    rcases Nat.lt_trichotomy id st.length with hlt | heq | hgt
    · rw [List.getElem?_append_left hlt] at h1
      rw [List.getElem?_append_left (by omega)] at h2
      exact .inl ⟨h1, h2⟩
    · subst heq
      rw [List.getElem?_append_right (Nat.le_refl _)] at h1
      rw [List.getElem?_append_right (by omega)] at h2
      simp [hlen] at h1 h2
      exact .inr ⟨rfl, h1.symm, h2.symm⟩
    · rw [List.getElem?_eq_none (by simp; omega)] at h1; cases h1
  refine ⟨by simp [hlen], ?_, fun id ob' s' h1 h2 h3 => by
    rcases cases' h1 h2 with ⟨g1, g2⟩ | ⟨rfl, rfl, rfl⟩
    · exact h.nil id ob' s' g1 g2 h3
    · exact hnil, ?_, ?_⟩
  · intro id s' h2
    rcases Nat.lt_or_ge id σ.length with hlt | hge
    · rw [List.getElem?_append_left hlt] at h2; exact h.zero id s' h2
    · rw [List.getElem?_append_right hge] at h2
      have : s' = s := by
        cases hk : id - σ.length with
        | zero => rw [hk] at h2; simpa using h2.symm
        | succ k => rw [hk] at h2; simp at h2
      rw [this]; exact hz
  · intro id ob' s' h1 h2
    rcases cases' h1 h2 with ⟨g1, g2⟩ | ⟨rfl, rfl, rfl⟩
    · refine (h.ob id ob' s' g1 g2).mono (fun _ h => h) (fun hl => (h.own_lt ⟨_, _, _, g1, hl, g2, rfl⟩).2) (le_push _ _) (same_alloc S w o hb) (fun hl => RowKit.Below.heap_alloc w o _ (old g1 g2 hl))
    · exact hob
  · intro id id' ob1 ob2 s1 s2 h1 h2 l1 l2 k1 k2 e
    rcases cases' h1 k1 with ⟨g1, g2⟩ | ⟨rfl, rfl, rfl⟩ <;> rcases cases' h2 k2 with ⟨f1, f2⟩ | ⟨rfl, rfl, rfl⟩
    · exact h.inj id id' ob1 ob2 s1 s2 g1 f1 l1 l2 g2 f2 e
    · have := old g1 g2 l1; omega
    · have := old f1 f2 l2; omega
    · rfl

theorem own_push {σ : List Slot} {st : St} {s : Slot} {ob : Ob} (hlen : σ.length = st.length) {b : Nat} (h : Own (σ ++ [s]) (st ++ [ob]) b) : Own σ st b ∨ b = s.b := by
  obtain ⟨id, ob', s', h1, h2, h3, rfl⟩ := h
  rcases Nat.lt_trichotomy id st.length with hlt | heq | hgt
  · rw [List.getElem?_append_left hlt] at h1
    rw [List.getElem?_append_left (by omega)] at h3
    exact .inl ⟨id, ob', s', h1, h2, h3, rfl⟩
  · subst heq
    rw [List.getElem?_append_right (by omega)] at h3
    simp [hlen] at h3
    exact .inr (by rw [h3])
  · rw [List.getElem?_eq_none (by simp; omega)] at h1; cases h1

theorem Evo.push {S : Nat → Prop} {σ : List Slot} {st : St} {w : World} (h : StRep S σ st w) (o : Obj) (s : Slot) (ob : Ob) (hs : s.b = w.heap.size) : Evo S σ st w S (σ ++ [s]) (st ++ [ob]) (w.alloc o) where
  os := rfl
  tape := rfl
  output := rfl
  size := by simp
  shape b sh e := (same_alloc (fun _ => False) w o (fun _ h => h.elim)).shape b sh e
  keep b hb _ := RowKit.Below.heap_alloc w o b hb
  sub _ h := h
  new _ h := .inl h
  own b hb := (own_push h.len hb).imp id (fun e => by omega)
  le := le_push _ _

/-- The block of one object is turned; its place in the table stays. -/
theorem StRep.update {S : Nat → Prop} {σ : List Slot} {st : St} {w w' : World} (h : StRep S σ st w) {id : Nat} {ob ob' : Ob} {s : Slot} (h1 : st[id]? = some ob) (h2 : σ[id]? = some s) (hl : ob.live = true)
    (hs : Same S w w') (hother : ∀ b, b ≠ s.b → w'.heap[b]? = w.heap[b]?) (hnil : ∀ s2, σ[id]? = some s2 → ob'.solid = true → s2.nil = false) (hob : ObRep S σ w' s ob') : StRep S σ (st.set id ob') w' := by
  have hid : id < st.length := (List.getElem?_eq_some_iff.1 h1).1
  refine ⟨by simp [h.len], h.zero, fun id2 ob2 s2 g1 g2 g3 => by
    by_cases e : id = id2
    · subst e
      rw [List.getElem?_set_self hid] at g1
      cases g1
      exact hnil s2 g2 g3
    · rw [List.getElem?_set_ne e] at g1
      exact h.nil id2 ob2 s2 g1 g2 g3, ?_, ?_⟩
  · intro id2 ob2 s2 g1 g2
    by_cases e : id = id2
    · subst e
      rw [List.getElem?_set_self hid] at g1
      cases g1; rw [h2] at g2; cases g2
      exact hob
    · rw [List.getElem?_set_ne e] at g1
      refine (h.ob id2 ob2 s2 g1 g2).mono (fun _ h => h) (fun hl2 => (h.own_lt ⟨_, _, _, g1, hl2, g2, rfl⟩).2) (Le.refl _) hs (fun hl2 => hother _ (fun eb => e (h.inj id id2 ob ob2 s s2 h1 g1 hl hl2 h2 g2 eb.symm)))
  · intro i j ob1 ob2 s1 s2 g1 g2 l1 l2 k1 k2 e
    have fix : ∀ {i : Nat} {o : Ob}, (st.set id ob')[i]? = some o → o.live = true → ∃ o', st[i]? = some o' ∧ o'.live = true := by
      intro i o hi hlo
      by_cases e : id = i
      · subst e; exact ⟨ob, h1, hl⟩
      · rw [List.getElem?_set_ne e] at hi; exact ⟨o, hi, hlo⟩
    obtain ⟨o1, f1, m1⟩ := fix g1 l1
    obtain ⟨o2, f2, m2⟩ := fix g2 l2
    exact h.inj i j o1 o2 s1 s2 f1 f2 m1 m2 k1 k2 e

/-- An object moves to another version: its block is turned, or another. -/
theorem StRep.replace {S : Nat → Prop} {σ : List Slot} {st : St} {w w' : World} (h : StRep S σ st w) {id : Nat} {ob ob' : Ob} {s s' : Slot} (h1 : st[id]? = some ob) (h2 : σ[id]? = some s)
    (hs : Same S w w') (hother : ∀ b, b < w.heap.size → (b = s.b → ob.live = false) → w'.heap[b]? = w.heap[b]?) (hz : s'.o = 0) (hnil : s'.nil = false) (hver : s.ver < s'.ver) (hb : (ob.live = true ∧ s'.b = s.b) ∨ s'.b = w.heap.size) (hob : ObRep S (σ.set id s') w' s' ob') : StRep S (σ.set id s') (st.set id ob') w' := by
  have hid : id < st.length := (List.getElem?_eq_some_iff.1 h1).1
  have hid' : id < σ.length := by rw [h.len]; exact hid
  have hle : Le σ (σ.set id s') := fun i t ht => by
    by_cases e : id = i
    · subst e; rw [h2] at ht; cases ht
      exact ⟨s', List.getElem?_set_self hid', by omega, fun e => by omega⟩
    · exact ⟨t, by rw [List.getElem?_set_ne e]; exact ht, Nat.le_refl _, fun _ => rfl⟩
  have olds : ∀ {i : Nat} {o : Ob} {t : Slot}, id ≠ i → (st.set id ob')[i]? = some o → (σ.set id s')[i]? = some t → st[i]? = some o ∧ σ[i]? = some t := fun e a b => ⟨by rwa [List.getElem?_set_ne e] at a, by rwa [List.getElem?_set_ne e] at b⟩
  refine ⟨by simp [h.len], ?_, fun i o t g1 g2 g3 => by
    by_cases e : id = i
    · subst e
      rw [List.getElem?_set_self hid'] at g2
      cases g2; exact hnil
    · obtain ⟨f1, f2⟩ := olds e g1 g2
      exact h.nil i o t f1 f2 g3, ?_, ?_⟩
  · intro i t ht
    by_cases e : id = i
    · subst e; rw [List.getElem?_set_self hid'] at ht; cases ht; exact hz
    · rw [List.getElem?_set_ne e] at ht; exact h.zero i t ht
  · intro i o t g1 g2
    by_cases e : id = i
    · subst e
      rw [List.getElem?_set_self hid] at g1
      rw [List.getElem?_set_self hid'] at g2
      cases g1; cases g2
      exact hob
    · obtain ⟨f1, f2⟩ := olds e g1 g2
      exact (h.ob i o t f1 f2).mono (fun _ h => h) (fun hl2 => (h.own_lt ⟨_, _, _, f1, hl2, f2, rfl⟩).2) hle hs (fun hl2 => hother _ (h.own_lt ⟨_, _, _, f1, hl2, f2, rfl⟩).1 (fun eb => by
        cases hl : ob.live with
        | false => rfl
        | true => exact absurd (h.inj id i ob o s t h1 f1 hl hl2 h2 f2 eb.symm) e))
  · intro i j o1 o2 t1 t2 g1 g2 l1 l2 k1 k2 e
    have lt : ∀ {i : Nat} {o : Ob} {t : Slot}, st[i]? = some o → o.live = true → σ[i]? = some t → t.b < w.heap.size := fun a b c => (h.own_lt ⟨_, _, _, a, b, c, rfl⟩).1
    by_cases ei : id = i <;> by_cases ej : id = j
    · omega
    · subst ei
      obtain ⟨f1, f2⟩ := olds ej g2 k2
      rw [List.getElem?_set_self hid'] at k1; cases k1
      have hlt := lt f1 l2 f2
      rcases hb with ⟨hl, hb⟩ | hb
      · exact absurd (h.inj id j ob o2 s t2 h1 f1 hl l2 h2 f2 (by omega)) ej
      · omega
    · subst ej
      obtain ⟨f1, f2⟩ := olds ei g1 k1
      rw [List.getElem?_set_self hid'] at k2; cases k2
      have hlt := lt f1 l1 f2
      rcases hb with ⟨hl, hb⟩ | hb
      · exact absurd (h.inj id i ob o1 s t1 h1 f1 hl l1 h2 f2 (by omega)) ei
      · omega
    · obtain ⟨f1, f2⟩ := olds ei g1 k1
      obtain ⟨f3, f4⟩ := olds ej g2 k2
      exact h.inj i j o1 o2 t1 t2 f1 f3 l1 l2 f2 f4 e

theorem Evo.replace {S : Nat → Prop} {σ : List Slot} {st : St} {w w' : World} {id : Nat} {ob ob' : Ob} {s s' : Slot} (hlen : σ.length = st.length) (h1 : st[id]? = some ob) (h2 : σ[id]? = some s)
    (hos : w'.os = w.os) (htape : w'.tape = w.tape) (hout : w'.output = w.output) (hsz : w.heap.size ≤ w'.heap.size) (hver : s.ver < s'.ver) (hb : (ob.live = true ∧ s'.b = s.b) ∨ s'.b = w.heap.size)
    (hshape : ∀ b sh, w.shape? b = some sh → w'.shape? b = some sh) (hother : ∀ b, b < w.heap.size → (b = s.b → ob.live = false) → w'.heap[b]? = w.heap[b]?) : Evo S σ st w S (σ.set id s') (st.set id ob') w' where
  os := hos
  tape := htape
  output := hout
  size := hsz
  shape := hshape
  keep b hb ho := hother b hb (fun e => by
    cases hl : ob.live with
    | false => rfl
    | true => exact absurd ⟨id, ob, s, h1, hl, h2, e.symm⟩ ho)
  sub _ h := h
  new _ h := .inl h
  own b hb' := by
    obtain ⟨i, o, t, g1, g2, g3, rfl⟩ := hb'
    have hid' : id < σ.length := (List.getElem?_eq_some_iff.1 h2).1
    by_cases e : id = i
    · subst e; rw [List.getElem?_set_self hid'] at g3; cases g3
      rcases hb with ⟨hl, hb⟩ | hb
      · exact .inl ⟨id, ob, s, h1, hl, h2, hb.symm⟩
      · exact .inr (by omega)
    · rw [List.getElem?_set_ne e] at g1 g3; exact .inl ⟨i, o, t, g1, g2, g3, rfl⟩
  le i t ht := by
    have hid' : id < σ.length := (List.getElem?_eq_some_iff.1 h2).1
    by_cases e : id = i
    · subst e; rw [h2] at ht; cases ht
      exact ⟨s', List.getElem?_set_self hid', by omega, fun e => by omega⟩
    · exact ⟨t, by rw [List.getElem?_set_ne e]; exact ht, Nat.le_refl _, fun _ => rfl⟩

theorem Evo.update {S : Nat → Prop} {σ : List Slot} {st : St} {w w' : World} {id : Nat} {ob ob' : Ob} {s : Slot} (h1 : st[id]? = some ob) (h2 : σ[id]? = some s) (hl : ob.live = true)
    (hos : w'.os = w.os) (htape : w'.tape = w.tape) (hout : w'.output = w.output) (hsz : w.heap.size ≤ w'.heap.size)
    (hshape : ∀ b sh, w.shape? b = some sh → w'.shape? b = some sh) (hother : ∀ b, b < w.heap.size → b ≠ s.b → w'.heap[b]? = w.heap[b]?) : Evo S σ st w S σ (st.set id ob') w' where
  os := hos
  tape := htape
  output := hout
  size := hsz
  shape := hshape
  keep b hb ho := hother b hb (fun e => ho ⟨id, ob, s, h1, hl, h2, e.symm⟩)
  sub _ h := h
  new _ h := .inl h
  own b hb := by
    obtain ⟨id2, ob2, s2, g1, g2, g3, rfl⟩ := hb
    by_cases e : id = id2
    · subst e; rw [h2] at g3; cases g3; exact .inl ⟨id, ob, s, h1, hl, h2, rfl⟩
    · rw [List.getElem?_set_ne e] at g1; exact .inl ⟨id2, ob2, s2, g1, g2, g3, rfl⟩
  le := Le.refl _

end Go.VL
end

/- The value-level program logic, part 3: one operation; regions in the order of the text. -/
section
set_option linter.unusedVariables false
set_option linter.unusedSimpArgs false
namespace Go.VL
open Go

def FOK (F : Fence) : Prop := (∃ l, F = Fence.wide.inRound l) ∨ F = Fence.wide

theorem FOK.fn {F : Fence} (h : FOK F) (f : FuncId) : F.fn f := by rcases h with ⟨l, rfl⟩ | rfl <;> trivial
theorem FOK.depth {F : Fence} (h : FOK F) : F.depth = none := by rcases h with ⟨l, rfl⟩ | rfl <;> rfl

/-- What an operation does, from values to a value. -/
def OpOK (cx : Cx) (op : Op) (ty : TypeId) (env : Env) (st : St) (K : Option V → St → Prop) : Prop :=
  ∀ (S : Nat → Prop) (σ : List Slot) (F : Fence) (N lo : Nat) (o : Oper) (a : Act) (w : World), o.op = op → o.type = ty → Holds cx N lo S σ env st a w → FOK F →
    ∀ (next : Act → World → Prop) (Qr : Exit → Act → World → Prop),
      (∀ v V st' S' σ' w', K V st' → (∀ u, V = some u → Rep S' σ' w' u v) → StRep S' σ' st' w' → SB cx S' w' → Evo S σ st w S' σ' st' w' → next (a.put o.dst v) w') → o.wpIn F 0 cx.P a w next Qr

section
variable {cx : Cx} {env : Env} {st : St} {K : Option V → St → Prop}

theorem wpIn_value {F : Fence} {P : Program} {o : Oper} {a : Act} {w w' : World} {v : Value} {next : Act → World → Prop} {Q : Exit → Act → World → Prop} (hF : FOK F) (hd : ∀ c, o.op ≠ .defer c)
    (hrun : (execOp a.eval o).run P w = .ok (.value v) w') (h : next (a.put o.dst v) w') : o.wpIn F 0 P a w next Q := by
  refine ⟨fun f _ => hF.fn f, ?_⟩
  rw [Oper.semAt_plain F _ _ hd, hrun]
  exact h

theorem wpIn_skip' {F : Fence} {P : Program} {o : Oper} {a : Act} {w w' : World} {next : Act → World → Prop} {Q : Exit → Act → World → Prop} (hF : FOK F) (hd : ∀ c, o.op ≠ .defer c)
    (hrun : (execOp a.eval o).run P w = .ok .skip w') (h : next (a.put o.dst undef) w') : o.wpIn F 0 P a w next Q := by
  refine ⟨fun f _ => hF.fn f, ?_⟩
  rw [Oper.semAt_plain F _ _ hd, hrun]
  exact h

theorem wpIn_enter {F : Fence} {P : Program} {o : Oper} {a : Act} {w w' : World} {f : FuncId} {args : Array Value} {next : Act → World → Prop} {Q : Exit → Act → World → Prop} (hF : FOK F) (hd : ∀ c, o.op ≠ .defer c)
    (hrun : (execOp a.eval o).run P w = .ok (.enter f args) w') (h : Calls P f args w' fun e w'' => ∃ v, e = .returned v ∧ next (a.put o.dst v) w'') : o.wpIn F 0 P a w next Q := by
  refine ⟨fun f _ => hF.fn f, ?_⟩
  rw [Oper.semAt_plain F _ _ hd, hrun]
  refine ⟨fun hh => (by rw [hF.depth] at hh; cases hh), ?_⟩
  have h2 : CallsIn Fence.wide 0 P f args w' fun e w'' => ∃ v, e = .returned v ∧ next (a.put o.dst v) w'' := callsIn_wide.2 h
  have h3 : CallsIn F 0 P f args w' fun e w'' => ∃ v, e = .returned v ∧ next (a.put o.dst v) w'' := by
    rcases hF with ⟨l, rfl⟩ | rfl
    · exact h2
    · exact h2
  refine CallsIn.mono h3 ?_
  rintro e w'' ⟨v, rfl, hn⟩
  exact hn

/-- The world stays. -/
theorem OpOK.pure {op : Op} {ty : TypeId} {V : V} (hd : ∀ c, op ≠ .defer c)
    (h : ∀ (S : Nat → Prop) (σ : List Slot) (N lo : Nat) (a : Act) (w : World) (o : Oper), o.op = op → o.type = ty → Holds cx N lo S σ env st a w → ∃ v, (execOp a.eval o).run cx.P w = .ok (.value v) w ∧ Rep S σ w V v)
    (hK : K (some V) st) : OpOK cx op ty env st K := by
  intro S σ F N lo o a w ho hty hh hF next Qr hn
  obtain ⟨v, h1, h2⟩ := h S σ N lo a w o ho hty hh
  exact wpIn_value hF (by rw [ho]; exact hd) h1 (hn v (some V) st S σ w hK (fun u e => by cases e; exact h2) hh.str hh.sb (Evo.refl _ _ _ _))

theorem OpOK.mono {op : Op} {ty : TypeId} {K' : Option V → St → Prop} (h : OpOK cx op ty env st K) (hk : ∀ v st, K v st → K' v st) : OpOK cx op ty env st K' :=
  fun S σ F N lo o a w ho hty hh hF next Qr hn => h S σ F N lo o a w ho hty hh hF next Qr (fun v V st' S' σ' w' hK => hn v V st' S' σ' w' (hk _ _ hK))

theorem OpOK.move {x : Operand} {ty : TypeId} {v : V} (hx : opnd cx env x = some v) (hK : K (some v) st) : OpOK cx (.move x) ty env st K :=
  OpOK.pure (by intro c h; cases h) (fun S σ N lo a w o ho _ hh => ⟨a.eval x, by simp only [execOp, ho]; rfl, hh.opnd hx⟩) hK

theorem OpOK.assign {x : Operand} {ty : TypeId} {v : V} (hx : opnd cx env x = some v) (hK : K (some v) st) : OpOK cx (.assign x) ty env st K :=
  OpOK.pure (by intro c h; cases h) (fun S σ N lo a w o ho _ hh => ⟨a.eval x, by simp only [execOp, ho]; rfl, hh.opnd hx⟩) hK

theorem rep_bool {S : Nat → Prop} {σ : List Slot} {w : World} {b : Bool} {x : Value} : Rep S σ w (.bool b) x ↔ x = .bool b := by simp [Rep]
theorem rep_int {S : Nat → Prop} {σ : List Slot} {w : World} {k : IntKind} {n : Int} {x : Value} : Rep S σ w (.int k n) x ↔ x = .int k n := by simp [Rep]

theorem OpOK.pick_true {c x y : Operand} {ty : TypeId} {v : V} (hc : opnd cx env c = some (.bool true)) (hx : opnd cx env x = some v) (hK : K (some v) st) : OpOK cx (.pick c x y) ty env st K :=
  OpOK.pure (by intro c h; cases h) (fun S σ N lo a w o ho _ hh => ⟨a.eval x, by have := rep_bool.1 (hh.opnd hc); simp [execOp, ho, this, asBool], hh.opnd hx⟩) hK

theorem OpOK.pick_false {c x y : Operand} {ty : TypeId} {v : V} (hc : opnd cx env c = some (.bool false)) (hy : opnd cx env y = some v) (hK : K (some v) st) : OpOK cx (.pick c x y) ty env st K :=
  OpOK.pure (by intro c h; cases h) (fun S σ N lo a w o ho _ hh => ⟨a.eval y, by have := rep_bool.1 (hh.opnd hc); simp [execOp, ho, this, asBool], hh.opnd hy⟩) hK

/-! ### Integers -/
theorem eqGuard_int {op : BinOp} {t : TypeId} {x y : Operand} {k j : IntKind} {a b : Int} {P : Program} {w : World} : (eqGuard op t x y (.int k a) (.int j b)).run P w = .ok () w := by
  unfold eqGuard; split <;> rfl

theorem run_binOp_int {cx : Cx} {op : BinOp} {t u : TypeId} {x y : Operand} {ρ : Operand → Value} {o : Oper} {k j : IntKind} {a b : Int} {w : World} {v : Value} (ho : o.op = .binOp op t x y u) (hx : ρ x = .int k a) (hy : ρ y = .int j b)
    (h : (binOp op t (.int k a) (.int j b)).run cx.P w = .ok v w) : (execOp ρ o).run cx.P w = .ok (.value v) w := by
  simp only [execOp, ho, hx, hy, Sem.run_bind, eqGuard_int, Result.andThen_ok, h, Sem.run_pure]

/-- An operator on two integers of one kind. -/
def intOp (op : BinOp) (k : IntKind) (a b : Int) : Option V :=
  match op with
  | .add => some (.int k (k.wrap (a + b)))
  | .sub => some (.int k (k.wrap (a - b)))
  | .mul => some (.int k (k.wrap (a * b)))
  | .quo => if b = 0 then none else some (.int k (k.wrap (a.tdiv b)))
  | .rem => if b = 0 then none else some (.int k (a.tmod b))
  | .and => some (.int k (k.wrap (BitVec.ofInt k.bits a &&& BitVec.ofInt k.bits b).toNat))
  | .or => some (.int k (k.wrap (BitVec.ofInt k.bits a ||| BitVec.ofInt k.bits b).toNat))
  | .xor => some (.int k (k.wrap (BitVec.ofInt k.bits a ^^^ BitVec.ofInt k.bits b).toNat))
  | .andNot => some (.int k (k.wrap (BitVec.ofInt k.bits a &&& ~~~ BitVec.ofInt k.bits b).toNat))
  | .lss => some (.bool (decide (a < b)))
  | .leq => some (.bool (decide (a ≤ b)))
  | .gtr => some (.bool (decide (b < a)))
  | .geq => some (.bool (decide (b ≤ a)))
  | .eql => some (.bool (decide (a = b)))
  | .neq => some (.bool (!decide (a = b)))
  | _ => none

theorem OpOK.int {op : BinOp} {t u ty : TypeId} {x y : Operand} {k : IntKind} {a b : Int} {v : V} (hx : opnd cx env x = some (.int k a)) (hy : opnd cx env y = some (.int k b)) (hv : intOp op k a b = some v) (hK : K (some v) st) :
    OpOK cx (.binOp op t x y u) ty env st K := by
  refine OpOK.pure (by intro c h; cases h) (fun S σ N lo ac w o ho _ hh => ?_) hK
  have ex := rep_int.1 (hh.opnd hx)
  have ey := rep_int.1 (hh.opnd hy)
  have key : ∃ r, (binOp op t (.int k a) (.int k b)).run cx.P w = .ok r w ∧ Rep S σ w v r := by
    cases op <;> simp only [intOp] at hv <;> first
      | (cases hv; done)
      | (split at hv
         · cases hv
         · rename_i hb; cases hv; exact ⟨_, by simp [binOp, Op.intDiv, hb]; rfl, by simp [Rep]⟩)
      | (cases hv; refine ⟨_, by simp [binOp, Op.intArith]; rfl, ?_⟩; simp [Rep]; done)
      | (cases hv; refine ⟨_, by simp [binOp, Op.intBits]; rfl, ?_⟩; simp [Rep]; done)
      | (cases hv; refine ⟨_, by simp [binOp, Op.intCmp]; rfl, ?_⟩; simp only [Rep]; refine congrArg Value.bool ?_; rw [Bool.eq_iff_iff]; simp)
  obtain ⟨r, h1, h2⟩ := key
  exact ⟨r, run_binOp_int ho ex ey h1, h2⟩

def shiftOp (op : BinOp) (k : IntKind) (a b : Int) : Option V :=
  if b < 0 then none else
  match op with
  | .shl => some (.int k (k.wrap (a * 2 ^ (min b.toNat k.bits))))
  | .shr => some (.int k (a.fdiv (2 ^ (min b.toNat k.bits))))
  | _ => none

theorem OpOK.shift {op : BinOp} {t u ty : TypeId} {x y : Operand} {k j : IntKind} {a b : Int} {v : V} (hx : opnd cx env x = some (.int k a)) (hy : opnd cx env y = some (.int j b)) (hv : shiftOp op k a b = some v) (hK : K (some v) st) :
    OpOK cx (.binOp op t x y u) ty env st K := by
  refine OpOK.pure (by intro c h; cases h) (fun S σ N lo ac w o ho _ hh => ?_) hK
  have ex := rep_int.1 (hh.opnd hx)
  have ey := rep_int.1 (hh.opnd hy)
  unfold shiftOp at hv
  split at hv
  · cases hv
  · rename_i hb
    cases op <;> simp only at hv <;> cases hv
    · exact ⟨_, run_binOp_int (v := .int k (k.wrap (a * 2 ^ (min b.toNat k.bits)))) ho ex ey (by simp [binOp, Op.shift, hb]), by simp [Rep]⟩
    · exact ⟨_, run_binOp_int (v := .int k (a.fdiv (2 ^ (min b.toNat k.bits)))) ho ex ey (by simp [binOp, Op.shift, hb]), by simp [Rep]⟩

theorem OpOK.boolEq {op : BinOp} {t u ty : TypeId} {x y : Operand} {a b : Bool} (ht : cx.P.underlying t = some .bool) (hx : opnd cx env x = some (.bool a)) (hy : opnd cx env y = some (.bool b)) (hop : op = .eql ∨ op = .neq) (hK : K (some (.bool (if op = .eql then a == b else !(a == b)))) st) :
    OpOK cx (.binOp op t x y u) ty env st K := by
  refine OpOK.pure (by intro c h; cases h) (fun S σ N lo ac w o ho _ hh => ?_) hK
  have ex := rep_bool.1 (hh.opnd hx)
  have ey := rep_bool.1 (hh.opnd hy)
  have hg : ∀ (op : BinOp), (eqGuard op t x y (.bool a) (.bool b)).run cx.P w = .ok () w := by intro op; unfold eqGuard; split <;> rfl
  have hu : (Op.equal t (.bool a) (.bool b)).run cx.P w = .ok (a == b) w := by
    show (Op.equalIn (9999 + 1) t (.bool a) (.bool b)).run cx.P w = _
    rw [Op.equalIn]
    simp [underlying, ht]
  rcases hop with rfl | rfl
  · exact ⟨.bool (a == b), by simp only [execOp, ho, ex, ey, Sem.run_bind, hg, Result.andThen_ok, binOp, hu, Sem.run_pure], by simp [Rep]⟩
  · exact ⟨.bool (!(a == b)), by simp only [execOp, ho, ex, ey, Sem.run_bind, hg, Result.andThen_ok, binOp, hu, Sem.run_pure], by simp [Rep]⟩

theorem OpOK.not {t ty : TypeId} {x : Operand} {b : Bool} (hx : opnd cx env x = some (.bool b)) (hK : K (some (.bool (!b))) st) : OpOK cx (.unOp .not t x) ty env st K :=
  OpOK.pure (by intro c h; cases h) (fun S σ N lo ac w o ho _ hh => ⟨.bool (!b), by have ex := rep_bool.1 (hh.opnd hx); simp [execOp, ho, ex, Op.unary], by simp [Rep]⟩) hK

theorem OpOK.neg {t ty : TypeId} {x : Operand} {k : IntKind} {n : Int} (hx : opnd cx env x = some (.int k n)) (hK : K (some (.int k (k.wrap (0 - n)))) st) : OpOK cx (.unOp .neg t x) ty env st K :=
  OpOK.pure (by intro c h; cases h) (fun S σ N lo ac w o ho _ hh => ⟨.int k (k.wrap (0 - n)), by have ex := rep_int.1 (hh.opnd hx); simp [execOp, ho, ex, Op.unary, Op.intArith], by simp [Rep]⟩) hK

theorem OpOK.convInt {s d ty : TypeId} {x : Operand} {k j : IntKind} {n : Int} (hs : ∃ u, cx.P.underlying s = some u) (hd : cx.P.underlying d = some (.int j)) (hx : opnd cx env x = some (.int k n)) (hK : K (some (.int j (j.wrap n))) st) : OpOK cx (.convert s d x) ty env st K := by
  obtain ⟨u, hs⟩ := hs
  exact OpOK.pure (by intro c h; cases h) (fun S σ N lo ac w o ho _ hh => ⟨.int j (j.wrap n), by have ex := rep_int.1 (hh.opnd hx); simp [execOp, ho, ex, convert, underlying, hs, hd, Conv.intToInt], by simp [Rep]⟩) hK

end
end Go.VL
end

/- The value-level program logic, part 4: memory: allocate, load, store, addresses. -/
section
set_option linter.unusedVariables false
set_option linter.unusedSimpArgs false
namespace Go.VL
open Go

section
variable {cx : Cx} {env : Env} {st : St} {K : Option V → St → Prop}

def ofConsts : List Value → Option (List V)
  | [] => some []
  | x :: xs => match ofConst x, ofConsts xs with
    | some v, some vs => some (v :: vs)
    | _, _ => none

theorem ofConst_one {x : Value} {v : V} (h : ofConst x = some v) : v.one = true := by
  unfold ofConst at h
  split at h <;> first | (cases h; rfl) | cases h

theorem ofConsts_rep {S : Nat → Prop} {σ : List Slot} {w : World} : ∀ {xs : List Value} {vs : List V}, ofConsts xs = some vs → RepAll S σ w vs xs ∧ vs.all V.one = true
  | [], vs, h => by cases h; simp [RepAll]
  | x :: xs, vs, h => by
    simp only [ofConsts] at h
    split at h
    · rename_i v us h1 h2
      cases h
      obtain ⟨g1, g2⟩ := ofConsts_rep (S := S) (σ := σ) (w := w) h2
      exact ⟨by simp only [RepAll]; exact ⟨x, xs, rfl, ofConst_rep h1, g1⟩, by simp [ofConst_one h1, g2]⟩
    · cases h

def sizeIs (P : Program) (t : TypeId) (n : Nat) : Prop := (P.info? t).map (·.size) = some n
def bytesIs (P : Program) (t : TypeId) (n : Nat) : Prop := (P.info? t).map (·.bytes) = some n
def zeroIs (P : Program) (t : TypeId) (z : Value) : Prop := (P.info? t).bind (·.zero) = some z

theorem run_sizeOf {P : Program} {t : TypeId} {n : Nat} (h : sizeIs P t n) (w : World) : (sizeOf t).run P w = .ok n w := by
  unfold sizeIs at h
  cases hi : P.info? t with
  | none => rw [hi] at h; cases h
  | some i => rw [hi] at h; simp at h; simp [sizeOf, typeInfo, hi, h]

theorem run_zeroValue {P : Program} {t : TypeId} {z : Value} (h : zeroIs P t z) (w : World) : (zeroValue t).run P w = .ok z w := by
  unfold zeroIs at h
  cases hi : P.info? t with
  | none => rw [hi] at h; cases h
  | some i => rw [hi] at h; simp at h; simp [zeroValue, typeInfo, hi, h]

theorem run_under {P : Program} {t : TypeId} {d : TypeDesc} (h : P.underlying t = some d) (w : World) : (underlying t).run P w = .ok d w := by
  simp [underlying, h]

def aggT : TypeDesc → Bool
  | .struct _ | .array _ _ => true
  | _ => false

theorem run_isAgg {P : Program} {t : TypeId} {d : TypeDesc} (h : P.underlying t = some d) (w : World) : (isAgg t).run P w = .ok (aggT d) w := by
  simp only [isAgg, Sem.run_bind, run_under h, Result.andThen_ok]
  cases d <;> rfl

theorem addr_add (b o n : Nat) : (⟨b, o, none⟩ : Addr).add n = ⟨b, o + n, none⟩ := by
  unfold Addr.add; split <;> simp_all

theorem run_loadCellsFrom {P : Program} {w : World} {b o : Nat} : ∀ (vs : List Value) (i : Nat) (acc : Array Value), (∀ j x, vs[j]? = some x → w.cell? ⟨b, o + (i + j), none⟩ = some x) →
    (loadCellsFrom ⟨b, o, none⟩ i vs.length acc).run P w = .ok (acc ++ vs.toArray) w
  | [], i, acc, h => by simp [loadCellsFrom]
  | v :: vs, i, acc, h => by
    have h0 : w.cell? ⟨b, o + i, none⟩ = some v := by simpa using h 0 v rfl
    simp only [List.length_cons, loadCellsFrom, Sem.run_bind, addr_add, run_load, h0, Result.andThen_ok]
    rw [run_loadCellsFrom vs (i + 1) (acc.push v) (fun j x hj => by have := h (j + 1) x (by simpa using hj); rwa [show i + 1 + j = i + (j + 1) by omega])]
    simp

theorem run_loadCells {P : Program} {w : World} {b o : Nat} (vs : List Value) (h : ∀ j x, vs[j]? = some x → w.cell? ⟨b, o + j, none⟩ = some x) : (loadCells ⟨b, o, none⟩ vs.length).run P w = .ok vs.toArray w := by
  have := run_loadCellsFrom (P := P) (w := w) (b := b) (o := o) vs 0 #[] (by simpa using h)
  simpa [loadCells] using this

/-- What is read from cells. -/
def loadV (agg : Bool) (n : Nat) (cs : List V) (off : Nat) : Option V :=
  if agg then (if off + n ≤ cs.length then some (.agg ((cs.drop off).take n)) else none) else cs[off]?

theorem run_loadV {P : Program} {w : World} {S : Nat → Prop} {σ : List Slot} {b o : Nat} {cs : List V} (hc : RepCells S σ w b o cs) {t : TypeId} {d : TypeDesc} {n off : Nat} {v : V} (hu : P.underlying t = some d) (hsz : sizeIs P t n)
    (hv : loadV (aggT d) n cs off = some v) : ∃ x, (Instr.loadAt t (.pointer (some ⟨b, o + off, none⟩))).run P w = .ok x w ∧ Rep S σ w v x := by
  unfold loadV at hv
  cases hd : aggT d with
  | true =>
    rw [hd] at hv
    simp only [if_true] at hv
    split at hv
    · rename_i hle
      cases hv
      obtain ⟨vs, g1, g2, g3, g4⟩ := (hc.part off n).vals
      have hn : vs.length = n := by rw [g2]; simp; omega
      refine ⟨.agg vs.toArray, ?_, ?_⟩
      · simp only [Instr.loadAt, Instr.sureAddr, Sem.run_bind, Sem.run_pure, Result.andThen_ok, loadVar, run_isAgg hu, hd, if_true, run_sizeOf hsz]
        rw [← hn, run_loadCells vs g4]
        simp
      · simp only [Rep]; exact ⟨vs, rfl, g3, g1⟩
    · cases hv
  | false =>
    rw [hd] at hv
    simp only [Bool.false_eq_true, if_false] at hv
    obtain ⟨h1, x, h2, h3⟩ := hc.get hv
    refine ⟨x, ?_, h3⟩
    simp [Instr.loadAt, Instr.sureAddr, loadVar, run_isAgg hu, hd, h2]

def Ob.read (ver : Nat) : Ob → Option (List V)
  | .cells v cs | .frozen v cs | .acc v cs => if v = ver then some cs else none
  | _ => none

theorem StRep.read {S : Nat → Prop} {σ : List Slot} {w : World} (h : StRep S σ st w) {id ver : Nat} {ob : Ob} {cs : List V} (h1 : st[id]? = some ob) (h2 : ob.read ver = some cs) :
    ∃ s, σ[id]? = some s ∧ s.ver = ver ∧ s.len = cs.length ∧ RepCells S σ w s.b s.o cs := by
  have hid : id < σ.length := by rw [h.len]; exact (List.getElem?_eq_some_iff.1 h1).1
  have hs : σ[id]? = some σ[id] := List.getElem?_eq_getElem hid
  have := h.ob id ob _ h1 hs
  cases ob <;> simp only [Ob.read] at h2 <;> try cases h2
  all_goals
    split at h2
    · rename_i e
      cases h2
      subst e
      simp only [ObRep] at this
      first
        | exact ⟨_, hs, this.1, this.2.1, this.2.2.2.2⟩
        | exact ⟨_, hs, this.1, this.2.1, this.2.2.2⟩
        | exact ⟨_, hs, this.1, this.2.1, by
            rename List V => cs0
            cases cs0 with
            | nil => simp [RepCells]
            | cons => exact (this.2.2.2 (by simp)).2.2.2⟩
    · cases h2

theorem OpOK.load {t ty : TypeId} {x : Operand} {id ver off n : Nat} {ob : Ob} {cs : List V} {d : TypeDesc} {v : V} (hx : opnd cx env x = some (.ptr id ver off)) (hu : cx.P.underlying t = some d) (hsz : sizeIs cx.P t n)
    (ho : st[id]? = some ob) (hc : ob.read ver = some cs) (hv : loadV (aggT d) n cs off = some v) (hK : K (some v) st) : OpOK cx (.load t x) ty env st K := by
  refine OpOK.pure (by intro c h; cases h) (fun S σ N lo ac w o hop _ hh => ?_) hK
  obtain ⟨s, e1, e2, _, e3⟩ := hh.str.read ho hc
  have hr := hh.opnd hx
  simp only [Rep] at hr
  obtain ⟨_, s', f1, f2, f3⟩ := hr
  rw [e1] at f1; cases f1
  have ex := f3 e2.symm
  obtain ⟨y, g1, g2⟩ := run_loadV (P := cx.P) e3 hu hsz hv
  exact ⟨y, by simp only [execOp, hop, ex, Sem.run_bind, g1, Result.andThen_ok, Sem.run_pure], g2⟩

theorem OpOK.loadP {t ty : TypeId} {x : Operand} {off n : Nat} {cs : List V} {d : TypeDesc} {v : V} (hx : opnd cx env x = some (.pptr cs off)) (hu : cx.P.underlying t = some d) (hsz : sizeIs cx.P t n)
    (hv : loadV (aggT d) n cs off = some v) (hK : K (some v) st) : OpOK cx (.load t x) ty env st K := by
  refine OpOK.pure (by intro c h; cases h) (fun S σ N lo ac w o hop _ hh => ?_) hK
  have hr := hh.opnd hx
  simp only [Rep] at hr
  obtain ⟨b, o', ex, _, hc⟩ := hr
  obtain ⟨y, g1, g2⟩ := run_loadV (P := cx.P) hc hu hsz hv
  exact ⟨y, by simp only [execOp, hop, ex, Sem.run_bind, g1, Result.andThen_ok, Sem.run_pure], g2⟩

/-! ### A store -/
theorem heap_setCell_at (w : World) (b o : Nat) (x : Value) {arr : Array Value} {t : TypeId} (h : w.heap[b]? = some (.cells arr t (0, 0))) : (w.setCell ⟨b, o, none⟩ x).heap[b]? = some (.cells (arr.setIfInBounds o x) t (0, 0)) := by
  simp [World.setCell, Array.getElem?_modify, h]

theorem shape_setCell (w : World) (p : Addr) (x : Value) (b : Nat) : (w.setCell p x).shape? b = w.shape? b := by
  simp only [World.shape?, World.setCell, Array.getElem?_modify]
  by_cases hb : p.block = b
  · simp only [hb, if_true]
    cases w.heap[b]? with
    | none => rfl
    | some o => cases o <;> simp <;> (split <;> simp)
  · simp [hb]

theorem store1 {S : Nat → Prop} {σ : List Slot} {w : World} (h : StRep S σ st w) (hsb : SB cx S w) {id ver off : Nat} {cs : List V} {s : Slot} {c : V} {x : Value} (h1 : st[id]? = some (.cells ver cs)) (h2 : σ[id]? = some s) (hlt : off < cs.length)
    (hr : Rep S σ w c x) (hc : c.one = true) :
    (store ⟨s.b, s.o + off, none⟩ x).run cx.P w = .ok () (w.setCell ⟨s.b, s.o + off, none⟩ x) ∧ StRep S σ (st.set id (.cells ver (cs.set off c))) (w.setCell ⟨s.b, s.o + off, none⟩ x) ∧
    SB cx S (w.setCell ⟨s.b, s.o + off, none⟩ x) ∧ Evo S σ st w S σ (st.set id (.cells ver (cs.set off c))) (w.setCell ⟨s.b, s.o + off, none⟩ x) := by
  have hob := h.ob id _ s h1 h2
  simp only [ObRep] at hob
  obtain ⟨g1, g2, g3, ⟨arr, t, g4, g5⟩, g6⟩ := hob
  have hev : Evo S σ st w S σ (st.set id (.cells ver (cs.set off c))) (w.setCell ⟨s.b, s.o + off, none⟩ x) :=
    Evo.update h1 h2 rfl rfl rfl rfl (by simp) (fun b sh e => by rw [shape_setCell]; exact e) (fun b _ hb => RowKit.Below.heap_setCell _ _ _ _ hb)
  have hsame : Same S w (w.setCell ⟨s.b, s.o + off, none⟩ x) := hev.same h hsb.lt
  have hx1 := hr.one hc
  refine ⟨?_, ?_, hev.sb h hsb (fun b hb => by simpa using hsb.lt b hb), hev⟩
  · rw [run_store _ _ _ _ _ hx1]
    obtain ⟨_, y, hy, _⟩ := g6.get (List.getElem?_eq_getElem hlt)
    rw [hy]
    simp [World.frozen?, g4]
  · refine h.update h1 h2 rfl hsame (fun b hb => RowKit.Below.heap_setCell _ _ _ _ hb) (fun s2 e _ => h.nil id _ s2 h1 e rfl) ?_
    simp only [ObRep]
    refine ⟨g1, by simpa using g2, g3, ⟨_, t, heap_setCell_at w _ _ _ g4, by simpa using g5⟩, ?_⟩
    rw [repCells_iff]
    intro j d hd
    by_cases e : off = j
    · subst e
      rw [List.getElem?_set_self hlt] at hd
      cases hd
      exact ⟨hc, x, by simp only [World.cell?, heap_setCell_at w _ _ _ g4]; simp [Array.getElem?_setIfInBounds]; omega, Rep.mono (fun _ h => h) (Le.refl _) hsame _ _ hr⟩
    · rw [List.getElem?_set_ne e] at hd
      obtain ⟨f1, y, f2, f3⟩ := g6.get hd
      refine ⟨f1, y, ?_, Rep.mono (fun _ h => h) (Le.refl _) hsame _ _ f3⟩
      rw [World.cell?_setCell_other]
      · exact f2
      · intro e'; have := congrArg Addr.off e'; simp at this; omega

def setMany (cs : List V) (off : Nat) : List V → List V
  | [] => cs
  | v :: vs => setMany (cs.set off v) (off + 1) vs

theorem setMany_length (vs : List V) : ∀ (cs : List V) (off : Nat), (setMany cs off vs).length = cs.length := by
  induction vs with
  | nil => intro cs off; rfl
  | cons v vs ih => intro cs off; simp [setMany, ih]

theorem storeMany {S : Nat → Prop} {σ : List Slot} {id ver : Nat} {s : Slot} (h2 : σ[id]? = some s) {p : Nat} : ∀ (vs : List V) (xs : List Value) (st : St) (w : World) (cs : List V) (off i : Nat), StRep S σ st w → SB cx S w → st[id]? = some (.cells ver cs) →
    p + i = off → off + vs.length ≤ cs.length → RepAll S σ w vs xs → vs.all V.one = true →
    ∃ w', (storeCells ⟨s.b, s.o + p, none⟩ xs i).run cx.P w = .ok () w' ∧ StRep S σ (st.set id (.cells ver (setMany cs off vs))) w' ∧ SB cx S w' ∧ Evo S σ st w S σ (st.set id (.cells ver (setMany cs off vs))) w'
  | [], xs, st, w, cs, off, i, h, hsb, h1, hp, hlen, hr, ho => by
    simp only [RepAll] at hr
    subst hr
    refine ⟨w, rfl, ?_, hsb, ?_⟩
    · have : st.set id (.cells ver (setMany cs off [])) = st := by
        have hid := List.getElem?_eq_some_iff.1 h1
        simp only [setMany]; rw [← hid.2]; exact List.set_getElem_self _
      rw [this]; exact h
    · have : st.set id (.cells ver (setMany cs off [])) = st := by
        have hid := List.getElem?_eq_some_iff.1 h1
        simp only [setMany]; rw [← hid.2]; exact List.set_getElem_self _
      rw [this]; exact Evo.refl _ _ _ _
  | v :: vs, xs, st, w, cs, off, i, h, hsb, h1, hp, hlen, hr, ho => by
    simp only [RepAll] at hr
    obtain ⟨x, xs, rfl, hr1, hr2⟩ := hr
    simp only [List.all_cons, Bool.and_eq_true] at ho
    simp only [List.length_cons] at hlen
    obtain ⟨k1, k2, k3, k4⟩ := store1 h hsb h1 h2 (off := off) (by omega) hr1 ho.1
    have hid := (List.getElem?_eq_some_iff.1 h1).1
    obtain ⟨w', m1, m2, m3, m4⟩ := storeMany h2 (p := p) vs xs (st.set id (.cells ver (cs.set off v))) _ (cs.set off v) (off + 1) (i + 1) k2 k3 (List.getElem?_set_self hid) (by omega) (by simpa using by omega) (RepAll.mono (fun _ h => h) (Le.refl _) (k4.same h hsb.lt) _ _ hr2) ho.2
    refine ⟨w', ?_, ?_, m3, ?_⟩
    · simp only [storeCells, Sem.run_bind, addr_add]
      rw [show s.o + p + i = s.o + off by omega, k1]
      exact m1
    · simpa [setMany, List.set_set] using m2
    · have := k4.trans m4
      simpa [setMany, List.set_set] using this

theorem OpOK.store {t ty : TypeId} {x y : Operand} {id ver off n : Nat} {cs : List V} {v : V} (hx : opnd cx env x = some (.ptr id ver off)) (hy : opnd cx env y = some v) (hsz : sizeIs cx.P t n) (hp : v.plain = true) (hn : v.cells.length = n)
    (ho : st[id]? = some (.cells ver cs)) (hle : off + n ≤ cs.length) (hK : K none (st.set id (.cells ver (setMany cs off v.cells)))) : OpOK cx (.store t x y) ty env st K := by
  intro S σ F N lo o a w hop _ hh hF next Qr hnext
  have hr := hh.opnd hx
  simp only [Rep] at hr
  obtain ⟨_, s, f1, f2, f3⟩ := hr
  have hob := hh.str.ob id _ s ho f1
  simp only [ObRep] at hob
  have ex := f3 hob.1.symm
  obtain ⟨r1, r2⟩ := (hh.opnd hy).cells hp
  obtain ⟨w', m1, m2, m3, m4⟩ := storeMany (cx := cx) f1 (p := off) v.cells (a.eval y).cells.toList st w cs off 0 hh.str hh.sb ho (by omega) (by omega) r1 r2
  have hl : (a.eval y).cells.size = n := by have := r1.length; simp at this; omega
  refine wpIn_skip' hF (by rw [hop]; intro c h; cases h) (w' := w') ?_ (hnext undef none _ S σ w' hK (fun u e => by cases e) m2 m3 m4)
  simp only [execOp, hop, ex, Instr.storeAt, Instr.sureAddr, storeVar, Sem.run_bind, Sem.run_pure, Result.andThen_ok, run_sizeOf hsz, hl, ne_eq, not_true_eq_false, if_false]
  rw [m1]; rfl

/-! ### New objects -/
theorem heap_new (w : World) (o : Obj) : (w.alloc o).heap[w.heap.size]? = some o := by simp only [World.alloc, Array.getElem?_push_size]

theorem alloc1 {S : Nat → Prop} {σ : List Slot} {w : World} (h : StRep S σ st w) (hsb : SB cx S w) {cs : List V} {vs : List Value} (hr : RepAll S σ w cs vs) (ho : cs.all V.one = true) (e : TypeId) :
    StRep S (σ ++ [⟨w.heap.size, 0, 0, cs.length, false⟩]) (st ++ [.cells 0 cs]) (w.alloc (.cells vs.toArray e)) ∧ SB cx S (w.alloc (.cells vs.toArray e)) ∧
    Evo S σ st w S (σ ++ [⟨w.heap.size, 0, 0, cs.length, false⟩]) (st ++ [.cells 0 cs]) (w.alloc (.cells vs.toArray e)) := by
  refine ⟨h.push hsb.lt _ _ _ rfl rfl rfl ?_, hsb.push _, Evo.push h _ _ _ rfl⟩
  simp only [ObRep]
  refine ⟨by simp, by simp, fun hS => by have := hsb.lt _ hS; omega, ⟨vs.toArray, e, heap_new _ _, by have := hr.length; simp; omega⟩, ?_⟩
  rw [repCells_iff]
  intro j c hj
  obtain ⟨x, hx, hrx⟩ := ((repAll_iff cs vs).1 hr).2 j c hj
  refine ⟨List.all_eq_true.1 ho c (List.mem_of_getElem? hj), x, ?_, Rep.mono (fun _ h => h) (le_push _ _) (same_alloc S w _ hsb.lt) _ _ hrx⟩
  simpa using hx

theorem slot_new {S : Nat → Prop} {σ : List Slot} {w : World} (h : StRep S σ st w) (s : Slot) : (σ ++ [s])[st.length]? = some s := by
  rw [← h.len]; simp

theorem rep_new_ptr {S : Nat → Prop} {σ : List Slot} {w w' : World} (h : StRep S σ st w) {s : Slot} (hv : s.ver = 0) (ho : s.o = 0) : Rep S (σ ++ [s]) w' (.ptr st.length 0 0) (.pointer (some ⟨s.b, 0, none⟩)) := by
  simp only [Rep]
  exact ⟨⟨_, rfl⟩, s, slot_new h s, by omega, fun _ => by simp [ho]⟩

theorem rep_new_slc {S : Nat → Prop} {σ : List Slot} {w w' : World} (h : StRep S σ st w) {s : Slot} (hv : s.ver = 0) (ho : s.o = 0) (hnil : s.nil = false) {n cap sz : Nat} (hz : 0 < sz) (hc : n ≤ cap) {sh : TypeId × Nat} (hsh : w'.shape? s.b = some sh) (h1 : cap * sz ≤ sh.2) (h2 : s.len ≤ cap * sz) :
    Rep S (σ ++ [s]) w' (.slc st.length 0 0 n sz) (.slice (some ⟨s.b, 0, none⟩) n cap) := by
  simp only [Rep]
  exact ⟨⟨_, _, _, rfl⟩, s, slot_new h s, by omega, fun _ => ⟨hz, .inr ⟨hnil, cap, sh, by simp [ho], hc, hsh, by omega, by omega⟩⟩⟩

theorem OpOK.alloc {t ty : TypeId} {z : Value} {zs : List V} (hz : zeroIs cx.P t z) (hzs : ofConsts z.cells.toList = some zs) (hK : K (some (.ptr st.length 0 0)) (st ++ [.cells 0 zs])) : OpOK cx (.alloc t) ty env st K := by
  intro S σ F N lo o a w hop _ hh hF next Qr hnext
  obtain ⟨r1, r2⟩ := ofConsts_rep (S := S) (σ := σ) (w := w) hzs
  obtain ⟨g1, g2, g3⟩ := alloc1 hh.str hh.sb r1 r2 t
  refine wpIn_value hF (by rw [hop]; intro c h; cases h) (w' := w.alloc (.cells z.cells t)) (v := .pointer (some ⟨w.heap.size, 0, none⟩)) ?_ (hnext _ _ _ S _ _ hK (fun u e => by cases e; exact rep_new_ptr (s := ⟨w.heap.size, 0, 0, zs.length, false⟩) hh.str rfl rfl) (by simpa using g1) (by simpa using g2) (by simpa using g3))
  simp [execOp, hop, Instr.alloc, run_zeroValue hz, newVar, newRow]

theorem OpOK.box {t ty : TypeId} {x : Operand} {v : V} (hx : opnd cx env x = some v) (hp : v.plain = true) (hK : K (some (.ptr st.length 0 0)) (st ++ [.cells 0 v.cells])) : OpOK cx (.box t x) ty env st K := by
  intro S σ F N lo o a w hop _ hh hF next Qr hnext
  obtain ⟨r1, r2⟩ := (hh.opnd hx).cells hp
  obtain ⟨g1, g2, g3⟩ := alloc1 hh.str hh.sb r1 r2 t
  refine wpIn_value hF (by rw [hop]; intro c h; cases h) (w' := w.alloc (.cells (a.eval x).cells t)) (v := .pointer (some ⟨w.heap.size, 0, none⟩)) ?_ (hnext _ _ _ S _ _ hK (fun u e => by cases e; exact rep_new_ptr (s := ⟨w.heap.size, 0, 0, v.cells.length, false⟩) hh.str rfl rfl) (by simpa using g1) (by simpa using g2) (by simpa using g3))
  simp [execOp, hop, Instr.box, newVar, newRow]

/-! ### Parts put together -/
def fillV (place : Nat → Option (Nat × Nat)) (cs : List V) : List (Nat × V) → Option (List V)
  | [] => some cs
  | (i, v) :: rest =>
    match place i with
    | none => none
    | some (off, size) => if v.plain = true ∧ v.cells.length = size ∧ off + size ≤ cs.length then fillV place (setMany cs off v.cells) rest else none

theorem foldl_zip_set (xs : List Value) : ∀ (cells : Array Value) (off k : Nat), (xs.zipIdx k).foldl (fun cs (p : Value × Nat) => cs.setIfInBounds (off + p.2) p.1) cells = (xs.zipIdx 0).foldl (fun cs (p : Value × Nat) => cs.setIfInBounds (off + k + p.2) p.1) cells := by
  induction xs with
  | nil => intro cells off k; rfl
  | cons x xs ih =>
    intro cells off k
    simp only [List.zipIdx_cons, List.foldl_cons]
    rw [ih _ off (k + 1), ih _ (off + k) (0 + 1)]
    simp [Nat.add_assoc]

theorem repAll_setMany {S : Nat → Prop} {σ : List Slot} {w : World} : ∀ (vs : List V) (xs : List Value) (cs : List V) (cells : Array Value) (off : Nat), RepAll S σ w vs xs → RepAll S σ w cs cells.toList → off + vs.length ≤ cs.length →
    RepAll S σ w (setMany cs off vs) ((xs.zipIdx 0).foldl (fun cs (p : Value × Nat) => cs.setIfInBounds (off + p.2) p.1) cells).toList
  | [], xs, cs, cells, off, h1, h2, _ => by simp only [RepAll] at h1; subst h1; simpa [setMany] using h2
  | v :: vs, xs, cs, cells, off, h1, h2, hle => by
    simp only [RepAll] at h1
    obtain ⟨x, xs, rfl, g1, g2⟩ := h1
    simp only [List.zipIdx_cons, List.foldl_cons, setMany]
    rw [foldl_zip_set]
    simp only [List.length_cons] at hle
    refine repAll_setMany vs xs (cs.set off v) (cells.setIfInBounds (off + 0) x) (off + (0 + 1)) g2 ?_ (by simp; omega)
    rw [repAll_iff] at h2 ⊢
    refine ⟨by simp [h2.1], fun j c hj => ?_⟩
    by_cases e : off = j
    · subst e
      rw [List.getElem?_set_self (by omega)] at hj
      cases hj
      refine ⟨x, ?_, g1⟩
      have := h2.1
      simp only [Nat.add_zero, Array.toList_setIfInBounds]
      rw [List.getElem?_set_self (by omega)]
    · rw [List.getElem?_set_ne e] at hj
      obtain ⟨y, hy, hr⟩ := h2.2 j c hj
      refine ⟨y, ?_, hr⟩
      simp at hy
      simp [Array.getElem?_setIfInBounds, e, hy]

theorem all_set {cs : List V} {off : Nat} {v : V} (h : cs.all V.one = true) (hv : v.one = true) : (cs.set off v).all V.one = true := by
  rw [List.all_eq_true] at h ⊢
  intro x hx
  rcases List.mem_or_eq_of_mem_set hx with h1 | rfl
  · exact h x h1
  · exact hv

theorem all_setMany : ∀ {vs cs : List V} {off : Nat}, cs.all V.one = true → vs.all V.one = true → (setMany cs off vs).all V.one = true
  | [], cs, off, h, _ => h
  | v :: vs, cs, off, h, hv => by
    simp only [List.all_cons, Bool.and_eq_true] at hv
    show (setMany (cs.set off v) (off + 1) vs).all V.one = true
    exact all_setMany (all_set h hv.1) hv.2

theorem fill_rep {S : Nat → Prop} {σ : List Slot} {w : World} {place : Nat → Option (Nat × Nat)} {ρ : Operand → Value} {val : Operand → Option V} (hval : ∀ x v, val x = some v → Rep S σ w v (ρ x)) : ∀ (parts : List (Nat × Operand)) (vs : List (Nat × V)) (cs cs' : List V) (cells : Array Value),
    (∀ i : Nat, vs[i]?.map Prod.fst = parts[i]?.map Prod.fst ∧ ∀ (p : Nat × Operand) (q : Nat × V), parts[i]? = some p → vs[i]? = some q → val p.2 = some q.2) → RepAll S σ w cs cells.toList → cs.all V.one = true → fillV place cs vs = some cs' →
    ∃ cells', Instr.fill place cells (parts.map fun p => (p.1, ρ p.2)) = some cells' ∧ RepAll S σ w cs' cells'.toList ∧ cs'.all V.one = true
  | [], vs, cs, cs', cells, hv, hr, ho, hf => by
    have : vs = [] := by
      have := (hv 0).1
      cases vs with
      | nil => rfl
      | cons p r => simp at this
    subst this
    cases hf
    exact ⟨cells, rfl, hr, ho⟩
  | (i, x) :: parts, vs, cs, cs', cells, hv, hr, ho, hf => by
    cases vs with
    | nil => have := (hv 0).1; simp at this
    | cons q vs =>
      obtain ⟨i', v⟩ := q
      have h0 := (hv 0).1
      simp at h0
      subst h0
      have hvx : val x = some v := (hv 0).2 _ _ rfl rfl
      simp only [fillV] at hf
      split at hf
      · cases hf
      · rename_i off size hpl
        split at hf
        · rename_i hc
          obtain ⟨hp, hl, hle⟩ := hc
          obtain ⟨r1, r2⟩ := (hval _ _ hvx).cells hp
          have hsz : (ρ x).cells.size = size := by have := r1.length; simp at this; omega
          have hcs : cells.size = cs.length := by have := hr.length; simpa using this
          have hstep := repAll_setMany v.cells (ρ x).cells.toList cs cells off r1 hr (by omega)
          obtain ⟨cells', k1, k2, k3⟩ := fill_rep hval parts vs (setMany cs off v.cells) cs' _ (fun j => by simpa using hv (j + 1)) hstep (all_setMany ho r2) hf
          refine ⟨cells', ?_, k2, k3⟩
          simp only [List.map_cons, Instr.fill, hpl]
          rw [if_neg (by simp [hsz]; omega)]
          rw [← k1]
          congr 1
          rw [← Array.foldl_toList]
          simp [Array.toList_zipIdx]
        · cases hf

end
end Go.VL
end

/- The value-level program logic, part 5: types by one closed fact each; aggregates, addresses, slices. -/
section
set_option linter.unusedVariables false
set_option linter.unusedSimpArgs false
namespace Go.VL
open Go

inductive TK where
  | int (k : IntKind)
  | bool
  | str
  | ptr
  | slice (e : TypeId)
  | struct (pl : List (Nat × Nat × TypeId))
  | array (n : Nat) (e : TypeId)
  | map (k e : TypeId)
  | fn
  | iface
  | other

structure TI where
  kind : TK
  size : Nat
  bytes : Nat
  zero : Option Value

def kindOf (P : Program) : TypeDesc → Option TK
  | .int k => some (.int k)
  | .bool => some .bool
  | .string => some .str
  | .pointer _ => some .ptr
  | .slice e => some (.slice e)
  | .struct fs => (fs.toList.mapM fun f => (P.info? f.type).map fun j => (f.offset, j.size, f.type)).map TK.struct
  | .array n e => some (.array n e)
  | .map k e => some (.map k e)
  | .func .. => some .fn
  | .interface _ => some .iface
  | _ => some .other

/-- What is asked of a type. -/
def tyi (P : Program) (t : TypeId) : Option TI :=
  match P.info? t, P.underlying t with
  | some i, some d => (kindOf P d).map fun k => ⟨k, i.size, i.bytes, i.zero⟩
  | _, _ => none

theorem tyi_spec {P : Program} {t : TypeId} {i : TI} (h : tyi P t = some i) : ∃ inf d, P.info? t = some inf ∧ P.underlying t = some d ∧ kindOf P d = some i.kind ∧ inf.size = i.size ∧ inf.bytes = i.bytes ∧ inf.zero = i.zero := by
  unfold tyi at h
  cases h1 : P.info? t <;> cases h2 : P.underlying t <;> simp [h1, h2] at h
  obtain ⟨k, h3, rfl⟩ := h
  exact ⟨_, _, rfl, rfl, h3, rfl, rfl, rfl⟩

theorem tyi_size {P : Program} {t : TypeId} {i : TI} (h : tyi P t = some i) : sizeIs P t i.size := by
  obtain ⟨inf, d, h1, _, _, h2, _⟩ := tyi_spec h
  simp [sizeIs, h1, h2]
theorem tyi_bytes {P : Program} {t : TypeId} {i : TI} (h : tyi P t = some i) : bytesIs P t i.bytes := by
  obtain ⟨inf, d, h1, _, _, _, h2, _⟩ := tyi_spec h
  simp [bytesIs, h1, h2]
theorem tyi_zero {P : Program} {t : TypeId} {i : TI} (h : tyi P t = some i) {z : Value} (hz : i.zero = some z) : zeroIs P t z := by
  obtain ⟨inf, d, h1, _, _, _, _, h2⟩ := tyi_spec h
  simp [zeroIs, h1, h2, hz]

def TK.agg : TK → Bool
  | .struct _ | .array .. => true
  | _ => false

theorem kindOf_agg {P : Program} {d : TypeDesc} {k : TK} (h : kindOf P d = some k) : aggT d = k.agg := by
  cases d <;> simp [kindOf] at h <;> first | (subst h; rfl) | (obtain ⟨a, _, rfl⟩ := h; rfl)

theorem tyi_under {P : Program} {t : TypeId} {i : TI} (h : tyi P t = some i) : ∃ d, P.underlying t = some d ∧ kindOf P d = some i.kind ∧ aggT d = i.kind.agg := by
  obtain ⟨inf, d, _, h1, h2, _⟩ := tyi_spec h
  exact ⟨d, h1, h2, kindOf_agg h2⟩

theorem kind_slice {P : Program} {d : TypeDesc} {e : TypeId} (h : kindOf P d = some (.slice e)) : d = .slice e := by
  cases d <;> simp [kindOf] at h
  subst h; rfl
theorem kind_array {P : Program} {d : TypeDesc} {n : Nat} {e : TypeId} (h : kindOf P d = some (.array n e)) : d = .array n e := by
  cases d <;> simp [kindOf] at h
  obtain ⟨rfl, rfl⟩ := h; rfl
theorem kind_map {P : Program} {d : TypeDesc} {n : TypeId} {e : TypeId} (h : kindOf P d = some (.map n e)) : d = .map n e := by
  cases d <;> simp [kindOf] at h
  obtain ⟨rfl, rfl⟩ := h; rfl
theorem kind_int {P : Program} {d : TypeDesc} {k : IntKind} (h : kindOf P d = some (.int k)) : d = .int k := by
  cases d <;> simp [kindOf] at h
  subst h; rfl
theorem kind_bool {P : Program} {d : TypeDesc} (h : kindOf P d = some .bool) : d = .bool := by
  cases d <;> simp [kindOf] at h
  rfl
theorem kind_struct {P : Program} {d : TypeDesc} {pl : List (Nat × Nat × TypeId)} (h : kindOf P d = some (.struct pl)) : ∃ fs, d = .struct fs ∧ (fs.toList.mapM fun f => (P.info? f.type).map fun j => (f.offset, j.size, f.type)) = some pl := by
  cases d <;> simp [kindOf] at h
  exact ⟨_, rfl, h⟩

theorem run_mapM_list {α β : Type} {P : Program} {w : World} {f : α → Sem β} {g : α → β} : ∀ (l : List α), (∀ x ∈ l, (f x).run P w = .ok (g x) w) → (l.mapM f).run P w = .ok (l.map g) w
  | [], _ => by simp
  | x :: l, h => by
    simp only [List.mapM_cons, Sem.run_bind, h x (by simp), Result.andThen_ok, run_mapM_list l (fun y hy => h y (by simp [hy])), Sem.run_pure, List.map_cons]

theorem run_mapM_array {α β : Type} {P : Program} {w : World} {f : α → Sem β} {g : α → β} (l : Array α) (h : ∀ x ∈ l.toList, (f x).run P w = .ok (g x) w) : (l.mapM f).run P w = .ok (l.map g) w := by
  rw [Array.mapM_eq_mapM_toList]
  simp only [Sem.run_map, run_mapM_list l.toList h, Result.andThen_ok]
  exact congrArg (fun r => Result.ok r w) (Array.ext' (by simp))

theorem mapM_get {α β : Type} {f : α → Option β} : ∀ {l : List α} {r : List β}, l.mapM f = some r → r.length = l.length ∧ ∀ (i : Nat) (x : α), l[i]? = some x → ∃ y, f x = some y ∧ r[i]? = some y
  | [], r, h => by simp at h; subst h; simp
  | x :: l, r, h => by
    simp only [List.mapM_cons, Option.bind_eq_bind, Option.bind_eq_some_iff, Option.pure_def, Option.some.injEq] at h
    obtain ⟨y, hy, ys, hys, rfl⟩ := h
    obtain ⟨h1, h2⟩ := mapM_get hys
    refine ⟨by simp [h1], fun i z hz => ?_⟩
    cases i with
    | zero => simp at hz; subst hz; exact ⟨y, hy, rfl⟩
    | succ i => simpa using h2 i z (by simpa using hz)

section
variable {cx : Cx} {env : Env} {st : St} {K : Option V → St → Prop}

def opnds (cx : Cx) (env : Env) : List (Nat × Operand) → Option (List (Nat × V))
  | [] => some []
  | (i, x) :: r => match opnd cx env x, opnds cx env r with
    | some v, some vs => some ((i, v) :: vs)
    | _, _ => none

theorem opnds_get {cx : Cx} {env : Env} : ∀ {parts : List (Nat × Operand)} {vs : List (Nat × V)}, opnds cx env parts = some vs →
    ∀ i : Nat, vs[i]?.map Prod.fst = parts[i]?.map Prod.fst ∧ ∀ (p : Nat × Operand) (q : Nat × V), parts[i]? = some p → vs[i]? = some q → opnd cx env p.2 = some q.2
  | [], vs, h, i => by cases h; simp
  | (k, x) :: r, vs, h, i => by
    simp only [opnds] at h
    split at h
    · rename_i v us h1 h2
      cases h
      cases i with
      | zero => simp; exact h1
      | succ i => simpa using opnds_get h2 i
    · cases h

theorem OpOK.buildStruct {t ty : TypeId} {parts : Array (Nat × Operand)} {i : TI} {pl : List (Nat × Nat × TypeId)} {z : Value} {zs cs : List V} {vs : List (Nat × V)} (ht : tyi cx.P t = some i) (hk : i.kind = .struct pl) (hz : i.zero = some z)
    (hzs : ofConsts z.cells.toList = some zs) (hvs : opnds cx env parts.toList = some vs) (hf : fillV (fun j => pl[j]?.map fun p => (p.1, p.2.1)) zs vs = some cs) (hK : K (some (.agg cs)) st) : OpOK cx (.build t parts) ty env st K := by
  refine OpOK.pure (by intro c h; cases h) (fun S σ N lo a w o hop _ hh => ?_) hK
  obtain ⟨d, hu, hd, _⟩ := tyi_under ht
  rw [hk] at hd
  obtain ⟨fs, rfl, hfs⟩ := kind_struct hd
  obtain ⟨hl, hget⟩ := mapM_get hfs
  obtain ⟨r1, r2⟩ := ofConsts_rep (S := S) (σ := σ) (w := w) hzs
  obtain ⟨cells', k1, k2, k3⟩ := fill_rep (place := fun j => pl[j]?.map fun p => (p.1, p.2.1)) (val := opnd cx env) (ρ := a.eval) (fun x v hx => hh.opnd hx) parts.toList vs zs cs z.cells (opnds_get hvs) r1 r2 hf
  refine ⟨.agg cells', ?_, ?_⟩
  · have hm : (fs.mapM fun (f : Field) => do Pure.pure (f.offset, ← sizeOf f.type)).run cx.P w = .ok (fs.map fun (f : Field) => (f.offset, ((cx.P.info? f.type).map (·.size)).getD 0)) w := by
      refine run_mapM_array fs (fun f hf => ?_)
      obtain ⟨j, hj⟩ := List.getElem?_of_mem hf
      obtain ⟨y, hy, _⟩ := hget j f hj
      cases hi : cx.P.info? f.type with
      | none => rw [hi] at hy; cases hy
      | some inf => simp [sizeOf, typeInfo, hi]
    have hpl : ∀ j, (fs.map fun (f : Field) => (f.offset, ((cx.P.info? f.type).map (·.size)).getD 0))[j]? = (fun j : Nat => pl[j]?.map fun (p : Nat × Nat × TypeId) => (p.1, p.2.1)) j := by
      intro j
      simp only [Array.getElem?_map]
      cases hj : fs[j]? with
      | none =>
        have : pl.length ≤ j := by rw [hl]; simpa using hj
        simp [this]
      | some f =>
        obtain ⟨y, hy, hy2⟩ := hget j f (by simpa using hj)
        cases hi : cx.P.info? f.type with
        | none => rw [hi] at hy; cases hy
        | some inf => rw [hi] at hy; simp at hy; subst hy; simp [hy2, hi]
    simp only [execOp, hop, Instr.build, Sem.run_bind, run_zeroValue (tyi_zero ht hz), run_under hu, Result.andThen_ok]
    rw [hm]
    simp only [Result.andThen_ok]
    have e : (fun x : Nat => (fs.map fun (f : Field) => (f.offset, ((cx.P.info? f.type).map (·.size)).getD 0))[x]?) = fun j => pl[j]?.map fun p => (p.1, p.2.1) := funext hpl
    rw [e]
    have e2 : (parts.map fun p => (p.1, a.eval p.2)).toList = parts.toList.map fun p => (p.1, a.eval p.2) := by simp
    rw [e2, k1]
    simp
  · simp only [Rep]; exact ⟨cells'.toList, by simp, k3, k2⟩

theorem OpOK.buildArray {t ty : TypeId} {parts : Array (Nat × Operand)} {i ie : TI} {n : Nat} {e : TypeId} {z : Value} {zs cs : List V} {vs : List (Nat × V)} (ht : tyi cx.P t = some i) (hk : i.kind = .array n e) (he : tyi cx.P e = some ie) (hz : i.zero = some z)
    (hzs : ofConsts z.cells.toList = some zs) (hvs : opnds cx env parts.toList = some vs) (hf : fillV (fun j => some (j * ie.size, ie.size)) zs vs = some cs) (hK : K (some (.agg cs)) st) : OpOK cx (.build t parts) ty env st K := by
  refine OpOK.pure (by intro c h; cases h) (fun S σ N lo a w o hop _ hh => ?_) hK
  obtain ⟨d, hu, hd, _⟩ := tyi_under ht
  rw [hk] at hd
  obtain rfl := kind_array hd
  obtain ⟨r1, r2⟩ := ofConsts_rep (S := S) (σ := σ) (w := w) hzs
  obtain ⟨cells', k1, k2, k3⟩ := fill_rep (place := fun j => some (j * ie.size, ie.size)) (val := opnd cx env) (ρ := a.eval) (fun x v hx => hh.opnd hx) parts.toList vs zs cs z.cells (opnds_get hvs) r1 r2 hf
  refine ⟨.agg cells', ?_, ?_⟩
  · simp only [execOp, hop, Instr.build, Sem.run_bind, run_zeroValue (tyi_zero ht hz), run_under hu, Result.andThen_ok, run_sizeOf (tyi_size he)]
    have e2 : (parts.map fun p => (p.1, a.eval p.2)).toList = parts.toList.map fun p => (p.1, a.eval p.2) := by simp
    rw [e2, k1]
    simp
  · simp only [Rep]; exact ⟨cells'.toList, by simp, k3, k2⟩

/-- So many copies of a zero value's cells. -/
def zeros (n : Nat) (zs : List V) : List V := (List.replicate n zs).flatten

theorem repAll_append {S : Nat → Prop} {σ : List Slot} {w : World} : ∀ {cs ds : List V} {xs ys : List Value}, RepAll S σ w cs xs → RepAll S σ w ds ys → RepAll S σ w (cs ++ ds) (xs ++ ys)
  | [], ds, xs, ys, h, k => by simp only [RepAll] at h; subst h; simpa using k
  | c :: cs, ds, xs, ys, h, k => by
    simp only [RepAll] at h
    obtain ⟨x, xs, rfl, h1, h2⟩ := h
    simp only [List.cons_append, RepAll]
    exact ⟨x, _, rfl, h1, repAll_append h2 k⟩

theorem all_append' {cs ds : List V} (h : cs.all V.one = true) (k : ds.all V.one = true) : (cs ++ ds).all V.one = true := by simp only [List.all_append, Bool.and_eq_true]; exact ⟨h, k⟩

theorem range_zeros (xs : List Value) (n : Nat) (h : 0 < xs.length) : ((Array.range (n * xs.length)).map (xs.toArray[· % xs.toArray.size]!)).toList = (List.replicate n xs).flatten := by
  apply List.ext_getElem?
  intro j
  have hlen : ∀ n, (List.replicate n xs).flatten.length = n * xs.length := by intro n; simp
  have hget : ∀ n j, j < n * xs.length → (List.replicate n xs).flatten[j]? = xs[j % xs.length]? := by
    intro n
    induction n with
    | zero => intro j hj; omega
    | succ n ih =>
      intro j hj
      simp only [List.replicate_succ, List.flatten_cons]
      by_cases hlt : j < xs.length
      · rw [List.getElem?_append_left hlt, Nat.mod_eq_of_lt hlt]
      · have hm := Nat.mod_eq_sub_mod (a := j) (b := xs.length) (by omega)
        rw [List.getElem?_append_right (by omega), ih _ (by rw [Nat.succ_mul] at hj; omega), hm]
  by_cases hj : j < n * xs.length
  · rw [hget n j hj]
    have hm : j % xs.length < xs.length := Nat.mod_lt _ h
    simp [hj, hm]
  · have h1 := hlen n
    rw [List.getElem?_eq_none (by simp; omega), List.getElem?_eq_none (by omega)]

theorem zeros_rep {S : Nat → Prop} {σ : List Slot} {w : World} {zs : List V} {xs : List Value} (h : RepAll S σ w zs xs) (ho : zs.all V.one = true) : ∀ n, RepAll S σ w (zeros n zs) (List.replicate n xs).flatten ∧ (zeros n zs).all V.one = true
  | 0 => by simp [zeros, RepAll]
  | n + 1 => by
    obtain ⟨h1, h2⟩ := zeros_rep h ho n
    simp only [zeros, List.replicate_succ, List.flatten_cons] at h1 h2 ⊢
    exact ⟨repAll_append h h1, all_append' ho h2⟩

theorem shape_new (w : World) (c : Array Value) (e : TypeId) : (w.alloc (.cells c e)).shape? w.heap.size = some (e, c.size) := by
  simp only [World.shape?, heap_new]

theorem OpOK.buildSlice {t ty : TypeId} {len : Nat} {parts : Array (Nat × Operand)} {i ie : TI} {e : TypeId} {z : Value} {zs cs : List V} {vs : List (Nat × V)} (ht : tyi cx.P t = some i) (hk : i.kind = .slice e) (he : tyi cx.P e = some ie) (hz : ie.zero = some z)
    (hzs : ofConsts z.cells.toList = some zs) (hsz : 0 < ie.size) (hzl : zs.length = ie.size) (hlen : 0 < len) (hbig : len * ie.size ≤ 16777216) (hvs : opnds cx env parts.toList = some vs) (hf : fillV (fun j => some (j * ie.size, ie.size)) (zeros len zs) vs = some cs)
    (hcl : cs.length = len * ie.size) (hK : K (some (.slc st.length 0 0 len ie.size)) (st ++ [.cells 0 cs])) : OpOK cx (.buildSlice t len parts) ty env st K := by
  intro S σ F N lo o a w hop _ hh hF next Qr hnext
  obtain ⟨d, hu, hd, _⟩ := tyi_under ht
  rw [hk] at hd
  obtain rfl := kind_slice hd
  obtain ⟨r1, r2⟩ := ofConsts_rep (S := S) (σ := σ) (w := w) hzs
  have hxl : z.cells.toList.length = ie.size := by rw [r1.length, hzl]
  obtain ⟨q1, q2⟩ := zeros_rep r1 r2 len
  obtain ⟨cells', k1, k2, k3⟩ := fill_rep (place := fun j => some (j * ie.size, ie.size)) (val := opnd cx env) (ρ := a.eval) (fun x v hx => hh.opnd hx) parts.toList vs (zeros len zs) cs (List.replicate len z.cells.toList).flatten.toArray (opnds_get hvs) (by simpa using q1) q2 hf
  obtain ⟨g1, g2, g3⟩ := alloc1 (cx := cx) hh.str hh.sb k2 k3 e
  have hpos : len * ie.size ≠ 0 := Nat.mul_ne_zero (by omega) (by omega)
  have hca : cells'.size = len * ie.size := by have := k2.length; simp at this; omega
  refine wpIn_value hF (by rw [hop]; intro c h; cases h) (w' := w.alloc (.cells cells' e)) (v := .slice (some ⟨w.heap.size, 0, none⟩) len len) ?_
    (hnext _ _ _ S _ _ hK (fun u ee => by cases ee; exact rep_new_slc (s := ⟨w.heap.size, 0, 0, cs.length, false⟩) hh.str rfl rfl rfl hsz (Nat.le_refl _) (sh := (e, cells'.size)) (shape_new _ _ _) (by rw [hca]; exact Nat.le_refl _) (by rw [hcl]; exact Nat.le_refl _)) (by simpa using g1) (by simpa using g2) (by simpa using g3))
  have e2 : (parts.map fun p => (p.1, a.eval p.2)).toList = parts.toList.map fun p => (p.1, a.eval p.2) := by simp
  have e3 : ((Array.range (len * ie.size)).map (z.cells[· % z.cells.size]!)) = (List.replicate len z.cells.toList).flatten.toArray := by
    apply Array.ext'
    have := range_zeros z.cells.toList len (by omega)
    rw [hxl] at this
    simpa using this
  simp only [execOp, hop, Instr.buildSlice, Sem.run_bind, run_under hu, Result.andThen_ok, run_sizeOf (tyi_size he)]
  rw [if_neg (by omega)]
  simp only [Sem.run_bind, if_neg hpos, run_zeroValue (tyi_zero he hz), Result.andThen_ok, Sem.run_pure]
  rw [e3, e2, k1]
  simp [newRow]

end
end Go.VL
end

/- The value-level program logic, part 6: addresses of parts, slices of slices, small operations. -/
section
set_option linter.unusedVariables false
set_option linter.unusedSimpArgs false
namespace Go.VL
open Go

section
variable {cx : Cx} {env : Env} {st : St} {K : Option V → St → Prop}

theorem OpOK.buildNone {t ty : TypeId} {parts : Array (Nat × Operand)} {i ie : TI} {e : TypeId} (ht : tyi cx.P t = some i) (hk : i.kind = .slice e) (he : tyi cx.P e = some ie) (hp : parts = #[]) (hK : K (some .e0) st) : OpOK cx (.buildSlice t 0 parts) ty env st K := by
  intro S σ F N lo o a w hop _ hh hF next Qr hnext
  obtain ⟨d, hu, hd, _⟩ := tyi_under ht
  rw [hk] at hd
  obtain rfl := kind_slice hd
  subst hp
  refine wpIn_value hF (by rw [hop]; intro c h; cases h) (w' := w.alloc (.cells #[] e)) (v := .slice (some ⟨w.heap.size, 0, none⟩) 0 0) ?_
    (hnext _ _ st S σ _ hK (fun u ee => by cases ee; exact ⟨_, rfl⟩) ?_ (hh.sb.push _) ?_)
  · simp [execOp, hop, Instr.buildSlice, run_under hu, run_sizeOf (tyi_size he), Instr.fill, newRow]; exact congrArg (fun r => w.alloc (Obj.cells r e)) (Array.ext' (by simp))
  · refine ⟨hh.str.len, hh.str.zero, hh.str.nil, fun id ob s h1 h2 => ?_, hh.str.inj⟩
    refine (hh.str.ob id ob s h1 h2).mono (fun _ h => h) (fun hl => (hh.str.own_lt ⟨_, _, _, h1, hl, h2, rfl⟩).2) (Le.refl _) (same_alloc S w _ hh.sb.lt) (fun hl => RowKit.Below.heap_alloc w _ _ (hh.str.own_lt ⟨_, _, _, h1, hl, h2, rfl⟩).1)
  · exact ⟨rfl, rfl, rfl, by simp, fun b sh e => (same_alloc (fun _ => False) w _ (fun _ h => h.elim)).shape b sh e, fun b hb _ => RowKit.Below.heap_alloc w _ b hb, fun _ h => h, fun _ h => .inl h, fun _ h => .inl h, Le.refl _⟩


/-! ### Addresses -/
theorem run_fieldAt {P : Program} {t : TypeId} {i : TI} {pl : List (Nat × Nat × TypeId)} {f : Nat} {p : Nat × Nat × TypeId} (ht : tyi P t = some i) (hk : i.kind = .struct pl) (hp : pl[f]? = some p) (h0 : 0 < p.2.1) (b o : Nat) (w : World) :
    (Instr.fieldAt t (.pointer (some ⟨b, o, none⟩)) f).run P w = .ok (.pointer (some ⟨b, o + p.1, none⟩)) w := by
  obtain ⟨d, hu, hd, _⟩ := tyi_under ht
  rw [hk] at hd
  obtain ⟨fs, rfl, hfs⟩ := kind_struct hd
  obtain ⟨hl, hget⟩ := mapM_get hfs
  have hlt : f < fs.size := by have := (List.getElem?_eq_some_iff.1 hp).1; rw [hl] at this; simpa using this
  obtain ⟨y, hy, hy2⟩ := hget f fs[f] (by simp [hlt])
  rw [hp] at hy2; cases hy2
  have hf : fs[f]? = some fs[f] := by simp [hlt]
  cases hi : P.info? fs[f].type with
  | none => rw [hi] at hy; cases hy
  | some inf =>
    rw [hi] at hy; simp at hy; subst hy
    have hsz : sizeIs P fs[f].type inf.size := by simp [sizeIs, hi]
    simp only [Instr.fieldAt, Sem.run_bind, run_under hu, Result.andThen_ok, hf, Instr.sureAddr, Sem.run_pure, fieldPlace, run_sizeOf hsz]
    rw [if_neg (by simp at h0; omega)]
    simp [addr_add]

theorem OpOK.fieldAddr {t ty : TypeId} {x : Operand} {f : Nat} {i : TI} {pl : List (Nat × Nat × TypeId)} {p : Nat × Nat × TypeId} {id ver off : Nat} {ob : Ob} {cs : List V} (ht : tyi cx.P t = some i) (hk : i.kind = .struct pl) (hp : pl[f]? = some p) (h0 : 0 < p.2.1)
    (hx : opnd cx env x = some (.ptr id ver off)) (ho : st[id]? = some ob) (hc : ob.read ver = some cs) (hK : K (some (.ptr id ver (off + p.1))) st) : OpOK cx (.fieldAddr t x f) ty env st K := by
  refine OpOK.pure (by intro c h; cases h) (fun S σ N lo a w o hop _ hh => ?_) hK
  obtain ⟨s, e1, e2, _, e3⟩ := hh.str.read ho hc
  have hr := hh.opnd hx
  simp only [Rep] at hr
  obtain ⟨_, s', f1, f2, f3⟩ := hr
  rw [e1] at f1; cases f1
  have ex := f3 e2.symm
  refine ⟨.pointer (some ⟨s.b, s.o + off + p.1, none⟩), by simp only [execOp, hop, ex, Sem.run_bind, run_fieldAt ht hk hp h0, Result.andThen_ok, Sem.run_pure], ?_⟩
  simp only [Rep]
  exact ⟨⟨_, rfl⟩, s, e1, f2, fun _ => by rw [Nat.add_assoc]⟩

theorem OpOK.fieldAddrP {t ty : TypeId} {x : Operand} {f : Nat} {i : TI} {pl : List (Nat × Nat × TypeId)} {p : Nat × Nat × TypeId} {off : Nat} {cs : List V} (ht : tyi cx.P t = some i) (hk : i.kind = .struct pl) (hp : pl[f]? = some p) (h0 : 0 < p.2.1)
    (hx : opnd cx env x = some (.pptr cs off)) (hK : K (some (.pptr cs (off + p.1))) st) : OpOK cx (.fieldAddr t x f) ty env st K := by
  refine OpOK.pure (by intro c h; cases h) (fun S σ N lo a w o hop _ hh => ?_) hK
  have hr := hh.opnd hx
  simp only [Rep] at hr
  obtain ⟨b, o', ex, hS, hc⟩ := hr
  refine ⟨.pointer (some ⟨b, o' + off + p.1, none⟩), by simp only [execOp, hop, ex, Sem.run_bind, run_fieldAt ht hk hp h0, Result.andThen_ok, Sem.run_pure], ?_⟩
  simp only [Rep]
  exact ⟨b, o', by rw [Nat.add_assoc], hS, hc⟩

theorem run_indexAt_slice {P : Program} {t : TypeId} {i ie : TI} {e : TypeId} {k : IntKind} {j : Int} {b o n cap : Nat} (ht : tyi P t = some i) (hk : i.kind = .slice e) (he : tyi P e = some ie) (h0 : 0 ≤ j) (h1 : j < n) (w : World) :
    (Instr.indexAt t (.slice (some ⟨b, o, none⟩) n cap) (.int k j)).run P w = .ok (.pointer (some ⟨b, o + j.toNat * ie.size, none⟩)) w := by
  obtain ⟨d, hu, hd, _⟩ := tyi_under ht
  rw [hk] at hd
  obtain rfl := kind_slice hd
  simp only [Instr.indexAt, asIntOf, Sem.run_bind, Sem.run_pure, Result.andThen_ok, run_under hu, Bool.and_false]
  rw [if_pos ⟨h0, h1⟩]
  simp [run_sizeOf (tyi_size he), addr_add]

theorem run_indexAt_array {P : Program} {t : TypeId} {i ie : TI} {e : TypeId} {n : Nat} {k : IntKind} {j : Int} {b o : Nat} (ht : tyi P t = some i) (hk : i.kind = .array n e) (he : tyi P e = some ie) (h0 : 0 ≤ j) (h1 : j < n) (w : World) :
    (Instr.indexAt t (.pointer (some ⟨b, o, none⟩)) (.int k j)).run P w = .ok (.pointer (some ⟨b, o + j.toNat * ie.size, none⟩)) w := by
  obtain ⟨d, hu, hd, _⟩ := tyi_under ht
  rw [hk] at hd
  obtain rfl := kind_array hd
  simp only [Instr.indexAt, asIntOf, Sem.run_bind, Sem.run_pure, Result.andThen_ok, run_under hu, Instr.sureAddr]
  rw [if_pos ⟨h0, h1⟩]
  simp [run_sizeOf (tyi_size he), addr_add]

/-- An element of a slice of one's own. -/
theorem OpOK.indexS {t ty : TypeId} {x y : Operand} {i ie : TI} {e : TypeId} {id ver off n sz : Nat} {k : IntKind} {j : Int} {ob : Ob} {cs : List V} (ht : tyi cx.P t = some i) (hk : i.kind = .slice e) (he : tyi cx.P e = some ie) (hs : ie.size = sz)
    (hx : opnd cx env x = some (.slc id ver off n sz)) (hy : opnd cx env y = some (.int k j)) (ho : st[id]? = some ob) (hc : ob.read ver = some cs) (h0 : 0 ≤ j) (h1 : j < n) (hK : K (some (.ptr id ver (off + j.toNat * sz))) st) : OpOK cx (.indexAddr t x y) ty env st K := by
  refine OpOK.pure (by intro c h; cases h) (fun S σ N lo a w o hop _ hh => ?_) hK
  obtain ⟨s, e1, e2, _, e3⟩ := hh.str.read ho hc
  have hr := hh.opnd hx
  simp only [Rep] at hr
  obtain ⟨_, s', f1, f2, f3⟩ := hr
  rw [e1] at f1; cases f1
  obtain ⟨_, ⟨hn0, _⟩ | ⟨_, cap, sh, ex, _⟩⟩ := f3 e2.symm
  · omega
  have ey := rep_int.1 (hh.opnd hy)
  refine ⟨.pointer (some ⟨s.b, s.o + off + j.toNat * ie.size, none⟩), by simp only [execOp, hop, ex, ey, Sem.run_bind, run_indexAt_slice ht hk he h0 h1, Result.andThen_ok, Sem.run_pure], ?_⟩
  simp only [Rep]
  exact ⟨⟨_, rfl⟩, s, e1, f2, fun _ => by rw [hs, Nat.add_assoc]⟩

/-- An element of a persistent slice. -/
theorem OpOK.indexL {t ty : TypeId} {x y : Operand} {i ie : TI} {e : TypeId} {sz : Nat} {k : IntKind} {j : Int} {cs : List V} (ht : tyi cx.P t = some i) (hk : i.kind = .slice e) (he : tyi cx.P e = some ie) (hs : ie.size = sz)
    (hx : opnd cx env x = some (.lst sz cs)) (hy : opnd cx env y = some (.int k j)) (h0 : 0 ≤ j) (h1 : (j.toNat + 1) * sz ≤ cs.length) (hK : K (some (.pptr ((cs.drop (j.toNat * sz)).take sz) 0)) st) : OpOK cx (.indexAddr t x y) ty env st K := by
  refine OpOK.pure (by intro c h; cases h) (fun S σ N lo a w o hop _ hh => ?_) hK
  have hr := hh.opnd hx
  simp only [Rep] at hr
  obtain ⟨A, n, cap, ex, _, hl, hz, hc⟩ := hr
  have hlt : j.toNat < n := by
    rcases Nat.lt_or_ge j.toNat n with h | h
    · exact h
    · have : n * sz ≤ j.toNat * sz := Nat.mul_le_mul_right _ h
      rw [Nat.add_mul] at h1; omega
  obtain ⟨b, o', rfl, hS, hcs⟩ := hc (by omega)
  have ey := rep_int.1 (hh.opnd hy)
  refine ⟨.pointer (some ⟨b, o' + j.toNat * ie.size, none⟩), by simp only [execOp, hop, ex, ey, Sem.run_bind, run_indexAt_slice ht hk he h0 (by omega : j < (n : Int)), Result.andThen_ok, Sem.run_pure], ?_⟩
  simp only [Rep]
  exact ⟨b, o' + j.toNat * ie.size, rfl, hS, by rw [hs]; exact hcs.part _ _⟩

/-- An element of an array of one's own. -/
theorem OpOK.indexA {t ty : TypeId} {x y : Operand} {i ie : TI} {e : TypeId} {n id ver off : Nat} {k : IntKind} {j : Int} {ob : Ob} {cs : List V} (ht : tyi cx.P t = some i) (hk : i.kind = .array n e) (he : tyi cx.P e = some ie)
    (hx : opnd cx env x = some (.ptr id ver off)) (hy : opnd cx env y = some (.int k j)) (ho : st[id]? = some ob) (hc : ob.read ver = some cs) (h0 : 0 ≤ j) (h1 : j < n) (hK : K (some (.ptr id ver (off + j.toNat * ie.size))) st) : OpOK cx (.indexAddr t x y) ty env st K := by
  refine OpOK.pure (by intro c h; cases h) (fun S σ N lo a w o hop _ hh => ?_) hK
  obtain ⟨s, e1, e2, _, e3⟩ := hh.str.read ho hc
  have hr := hh.opnd hx
  simp only [Rep] at hr
  obtain ⟨_, s', f1, f2, f3⟩ := hr
  rw [e1] at f1; cases f1
  have ex := f3 e2.symm
  have ey := rep_int.1 (hh.opnd hy)
  refine ⟨.pointer (some ⟨s.b, s.o + off + j.toNat * ie.size, none⟩), by simp only [execOp, hop, ex, ey, Sem.run_bind, run_indexAt_array ht hk he h0 h1, Result.andThen_ok, Sem.run_pure], ?_⟩
  simp only [Rep]
  exact ⟨⟨_, rfl⟩, s, e1, f2, fun _ => by rw [Nat.add_assoc]⟩

theorem OpOK.indexAP {t ty : TypeId} {x y : Operand} {i ie : TI} {e : TypeId} {n off : Nat} {k : IntKind} {j : Int} {cs : List V} (ht : tyi cx.P t = some i) (hk : i.kind = .array n e) (he : tyi cx.P e = some ie)
    (hx : opnd cx env x = some (.pptr cs off)) (hy : opnd cx env y = some (.int k j)) (h0 : 0 ≤ j) (h1 : j < n) (hK : K (some (.pptr cs (off + j.toNat * ie.size))) st) : OpOK cx (.indexAddr t x y) ty env st K := by
  refine OpOK.pure (by intro c h; cases h) (fun S σ N lo a w o hop _ hh => ?_) hK
  have hr := hh.opnd hx
  simp only [Rep] at hr
  obtain ⟨b, o', ex, hS, hc⟩ := hr
  have ey := rep_int.1 (hh.opnd hy)
  refine ⟨.pointer (some ⟨b, o' + off + j.toNat * ie.size, none⟩), by simp only [execOp, hop, ex, ey, Sem.run_bind, run_indexAt_array ht hk he h0 h1, Result.andThen_ok, Sem.run_pure], ?_⟩
  simp only [Rep]
  exact ⟨b, o', by rw [Nat.add_assoc], hS, hc⟩

/-! ### Parts of values -/
theorem RepAll.part {S : Nat → Prop} {σ : List Slot} {w : World} {cs : List V} {xs : List Value} (h : RepAll S σ w cs xs) (k n : Nat) : RepAll S σ w ((cs.drop k).take n) ((xs.drop k).take n) := by
  rw [repAll_iff] at h ⊢
  refine ⟨by simp [h.1], fun j c hj => ?_⟩
  rw [List.getElem?_take] at hj ⊢
  split at hj
  · rename_i hlt
    rw [if_pos hlt]
    rw [List.getElem?_drop] at hj ⊢
    exact h.2 _ _ hj
  · cases hj

theorem all_part {cs : List V} (h : cs.all V.one = true) (k n : Nat) : ((cs.drop k).take n).all V.one = true := by
  rw [List.all_eq_true] at h ⊢
  exact fun x hx => h x (List.mem_of_mem_drop (List.mem_of_mem_take hx))

theorem run_part {P : Program} {S : Nat → Prop} {σ : List Slot} {w : World} {t : TypeId} {i : TI} {cs : List V} {xs : List Value} {off : Nat} {v : V} (ht : tyi P t = some i) (h : RepAll S σ w cs xs) (ho : cs.all V.one = true) (hv : loadV i.kind.agg i.size cs off = some v) :
    ∃ y, (part t xs.toArray off).run P w = .ok y w ∧ Rep S σ w v y := by
  obtain ⟨d, hu, hd, ha⟩ := tyi_under ht
  unfold loadV at hv
  cases hag : i.kind.agg with
  | true =>
    rw [hag] at hv
    simp only [if_true] at hv
    split at hv
    · cases hv
      refine ⟨.agg ((xs.drop off).take i.size).toArray, ?_, ?_⟩
      · simp only [part, Sem.run_bind, run_isAgg hu, ha, hag, Result.andThen_ok, if_true, run_sizeOf (tyi_size ht), Sem.run_pure]
        congr 2
        apply Array.ext'
        simp [List.extract_eq_take_drop]
      · simp only [Rep]; exact ⟨_, rfl, all_part ho _ _, h.part _ _⟩
    · cases hv
  | false =>
    rw [hag] at hv
    simp only [Bool.false_eq_true, if_false] at hv
    obtain ⟨x, hx, hr⟩ := ((repAll_iff cs xs).1 h).2 _ _ hv
    refine ⟨x, ?_, hr⟩
    simp [part, run_isAgg hu, ha, hag, hx]

theorem OpOK.field {t ty : TypeId} {x : Operand} {f : Nat} {i ie : TI} {pl : List (Nat × Nat × TypeId)} {p : Nat × Nat × TypeId} {cs : List V} {v : V} (ht : tyi cx.P t = some i) (hk : i.kind = .struct pl) (hp : pl[f]? = some p) (he : tyi cx.P p.2.2 = some ie)
    (hx : opnd cx env x = some (.agg cs)) (hv : loadV ie.kind.agg ie.size cs p.1 = some v) (hK : K (some v) st) : OpOK cx (.field t x f) ty env st K := by
  refine OpOK.pure (by intro c h; cases h) (fun S σ N lo a w o hop _ hh => ?_) hK
  have hr := hh.opnd hx
  simp only [Rep] at hr
  obtain ⟨vs, ex, h1, h2⟩ := hr
  obtain ⟨y, g1, g2⟩ := run_part he h2 h1 hv
  refine ⟨y, ?_, g2⟩
  obtain ⟨d, hu, hd, _⟩ := tyi_under ht
  rw [hk] at hd
  obtain ⟨fs, rfl, hfs⟩ := kind_struct hd
  obtain ⟨hl, hget⟩ := mapM_get hfs
  have hlt : f < fs.size := by have := (List.getElem?_eq_some_iff.1 hp).1; rw [hl] at this; simpa using this
  obtain ⟨z, hy, hy2⟩ := hget f fs[f] (by simp [hlt])
  rw [hp] at hy2; cases hy2
  have hf : fs[f]? = some fs[f] := by simp [hlt]
  cases hi : cx.P.info? fs[f].type with
  | none => rw [hi] at hy; cases hy
  | some inf =>
    rw [hi] at hy; simp at hy; subst hy
    simp only [execOp, hop, ex, Instr.field, Sem.run_bind, run_under hu, Result.andThen_ok, hf, asAgg, Sem.run_pure, g1]

theorem OpOK.index {t ty : TypeId} {x y : Operand} {i ie : TI} {e : TypeId} {n : Nat} {k : IntKind} {j : Int} {cs : List V} {v : V} (ht : tyi cx.P t = some i) (hk : i.kind = .array n e) (he : tyi cx.P e = some ie)
    (hx : opnd cx env x = some (.agg cs)) (hy : opnd cx env y = some (.int k j)) (h0 : 0 ≤ j) (h1 : j < n) (hv : loadV ie.kind.agg ie.size cs (j.toNat * ie.size) = some v) (hK : K (some v) st) : OpOK cx (.index t x y) ty env st K := by
  refine OpOK.pure (by intro c h; cases h) (fun S σ N lo a w o hop _ hh => ?_) hK
  have hr := hh.opnd hx
  simp only [Rep] at hr
  obtain ⟨vs, ex, h1', h2⟩ := hr
  obtain ⟨y', g1, g2⟩ := run_part he h2 h1' hv
  refine ⟨y', ?_, g2⟩
  have ey := rep_int.1 (hh.opnd hy)
  obtain ⟨d, hu, hd, _⟩ := tyi_under ht
  rw [hk] at hd
  obtain rfl := kind_array hd
  simp only [execOp, hop, ex, ey, Instr.index, Sem.run_bind, run_under hu, Result.andThen_ok, asIntOf, Sem.run_pure]
  rw [if_pos ⟨h0, h1⟩]
  simp only [Sem.run_bind, run_sizeOf (tyi_size he), Result.andThen_ok, g1]

theorem OpOK.extract {ty : TypeId} {x : Operand} {j : Nat} {cs : List V} {v : V} (hx : opnd cx env x = some (.tup cs)) (hv : cs[j]? = some v) (hK : K (some v) st) : OpOK cx (.extract x j) ty env st K := by
  refine OpOK.pure (by intro c h; cases h) (fun S σ N lo a w o hop _ hh => ?_) hK
  have hr := hh.opnd hx
  simp only [Rep] at hr
  obtain ⟨vs, ex, h2⟩ := hr
  obtain ⟨y, hy, hr⟩ := ((repAll_iff cs vs).1 h2).2 _ _ hv
  refine ⟨y, ?_, hr⟩
  simp [execOp, hop, ex, Instr.extract, hy]

/-! ### Functions as values; a nil check; maps made -/
def opndL (cx : Cx) (env : Env) : List Operand → Option (List V)
  | [] => some []
  | x :: r => match opnd cx env x, opndL cx env r with
    | some v, some vs => some (v :: vs)
    | _, _ => none

theorem opndL_rep {S : Nat → Prop} {σ : List Slot} {a : Act} {w : World} {N lo : Nat} (h : Holds cx N lo S σ env st a w) : ∀ {xs : List Operand} {vs : List V}, opndL cx env xs = some vs → RepAll S σ w vs (xs.map a.eval)
  | [], vs, hv => by cases hv; simp [RepAll]
  | x :: r, vs, hv => by
    simp only [opndL] at hv
    split at hv
    · rename_i v us h1 h2
      cases hv
      simp only [List.map_cons, RepAll]
      exact ⟨_, _, rfl, h.opnd h1, opndL_rep h h2⟩
    · cases hv

theorem OpOK.nilCheckFn {ty : TypeId} {x : Operand} {f : FuncId} {cs : List V} (hx : opnd cx env x = some (.fn (.func f) cs)) (hK : K (some (.fn (.func f) cs)) st) : OpOK cx (.nilCheck x) ty env st K := by
  refine OpOK.pure (by intro c h; cases h) (fun S σ N lo a w o hop _ hh => ?_) hK
  have hr := hh.opnd hx
  have hr0 := hr
  simp only [Rep] at hr
  obtain ⟨vs, ex, h2⟩ := hr
  exact ⟨a.eval x, by simp [execOp, hop, ex], hr0⟩

theorem OpOK.nilCheckYield {ty : TypeId} {x : Operand} {l : Nat} {cs : List V} (hx : opnd cx env x = some (.fn (.yield l) cs)) (hK : K (some (.fn (.yield l) cs)) st) : OpOK cx (.nilCheck x) ty env st K := by
  refine OpOK.pure (by intro c h; cases h) (fun S σ N lo a w o hop _ hh => ?_) hK
  have hr := hh.opnd hx
  have hr0 := hr
  simp only [Rep] at hr
  obtain ⟨vs, ex, h2⟩ := hr
  exact ⟨a.eval x, by simp [execOp, hop, ex], hr0⟩

theorem OpOK.nilCheckPtr {ty : TypeId} {x : Operand} {id ver off : Nat} {ob : Ob} {cs : List V} (hx : opnd cx env x = some (.ptr id ver off)) (ho : st[id]? = some ob) (hc : ob.read ver = some cs) (hK : K (some (.ptr id ver off)) st) : OpOK cx (.nilCheck x) ty env st K := by
  refine OpOK.pure (by intro c h; cases h) (fun S σ N lo a w o hop _ hh => ?_) hK
  obtain ⟨s, e1, e2, _, e3⟩ := hh.str.read ho hc
  have hr := hh.opnd hx
  have hr0 := hr
  simp only [Rep] at hr
  obtain ⟨_, s', f1, f2, f3⟩ := hr
  rw [e1] at f1; cases f1
  have ex := f3 e2.symm
  exact ⟨a.eval x, by simp [execOp, hop, ex], hr0⟩

theorem OpOK.nilCheckP {ty : TypeId} {x : Operand} {off : Nat} {cs : List V} (hx : opnd cx env x = some (.pptr cs off)) (hK : K (some (.pptr cs off)) st) : OpOK cx (.nilCheck x) ty env st K := by
  refine OpOK.pure (by intro c h; cases h) (fun S σ N lo a w o hop _ hh => ?_) hK
  have hr := hh.opnd hx
  have hr0 := hr
  simp only [Rep] at hr
  obtain ⟨b, o', ex, _⟩ := hr
  exact ⟨a.eval x, by simp [execOp, hop, ex], hr0⟩

end
end Go.VL
end

/- The value-level program logic, part 7: builtin functions on slices; functions as values; a slice of a slice. -/
section
set_option linter.unusedVariables false
set_option linter.unusedSimpArgs false
namespace Go.VL
open Go

section
variable {cx : Cx} {env : Env} {st : St} {K : Option V → St → Prop}

abbrev bcall (b : Builtin) (args : Array Operand) (ts : Array TypeId) : Op := .call { callee := .builtin b, args := args, argTypes := ts }

theorem run_bcall {P : Program} {ρ : Operand → Value} {o : Oper} {b : Builtin} {args : Array Operand} {ts : Array TypeId} {w : World} (ho : o.op = bcall b args ts) :
    (execOp ρ o).run P w = (builtin b ts o.type (args.map fun | .const _ => true | _ => false) (args.map ρ)).run P w := by
  simp only [execOp, ho, bcall, resolve, Sem.run_bind, Sem.run_pure, Result.andThen_ok, invoke]
  rfl

/-- How long. -/
def lenV (st : St) : V → Option Nat
  | .e0 => some 0
  | .str s => some s.size
  | .slc id ver _ n _ => ((st[id]?).bind (Ob.read ver)).map fun _ => n
  | .lst sz cs => some (cs.length / sz)
  | _ => none

theorem OpOK.len {ty t : TypeId} {x : Operand} {i : TI} {v : V} {n : Nat} (ht : tyi cx.P t = some i) (hk : (∃ e, i.kind = .slice e) ∨ i.kind = .str ∧ ∃ s, v = .str s) (hx : opnd cx env x = some v) (hs : ∀ s, v = .str s → i.kind = .str) (hv : lenV st v = some n) (hK : K (some (.int .i64 n)) st) : OpOK cx (bcall .len #[x] #[t]) ty env st K := by
  refine OpOK.pure (by intro c h; cases h) (fun S σ N lo a w o hop _ hh => ?_) hK
  obtain ⟨d, hu, hd, _⟩ := tyi_under ht
  refine ⟨.int .i64 n, ?_, by simp [Rep]⟩
  rw [run_bcall hop]
  have hr := hh.opnd hx
  cases v <;> simp only [lenV] at hv <;> try cases hv
  case str s =>
    have := hs s rfl
    rw [this] at hd
    simp only [Rep] at hr
    have hd' : d = .string := by cases d <;> simp [kindOf] at hd <;> rfl
    subst hd'
    simp [builtin, Builtin.len_, run_under hu, hr, goInt]
  case e0 =>
    rcases hk with ⟨e, hk⟩ | ⟨_, s, hk⟩
    · rw [hk] at hd
      obtain rfl := kind_slice hd
      simp only [Rep] at hr
      obtain ⟨A, hr⟩ := hr
      simp [builtin, Builtin.len_, run_under hu, hr, goInt]
    · cases hk
  case lst sz cs =>
    rcases hk with ⟨e, hk⟩ | ⟨_, s, hk⟩
    · rw [hk] at hd
      obtain rfl := kind_slice hd
      simp only [Rep] at hr
      obtain ⟨A, m, cap, hr, _, hl, hz, _⟩ := hr
      have : cs.length / sz = m := by rw [hl]; exact Nat.mul_div_cancel _ hz
      simp [builtin, Builtin.len_, run_under hu, hr, goInt, this]
    · cases hk
  case slc id ver off m sz =>
    rcases hk with ⟨e, hk⟩ | ⟨_, s, hk⟩
    · rw [hk] at hd
      obtain rfl := kind_slice hd
      simp only [Option.map_eq_some_iff, Option.bind_eq_some_iff] at hv
      obtain ⟨cs, ⟨ob, h1, h2⟩, rfl⟩ := hv
      obtain ⟨s, e1, e2, _, e3⟩ := hh.str.read h1 h2
      simp only [Rep] at hr
      obtain ⟨_, s', f1, f2, f3⟩ := hr
      rw [e1] at f1; cases f1
      obtain ⟨_, ⟨hn0, _, A, ex⟩ | ⟨_, cap, sh, ex, _⟩⟩ := f3 e2.symm
      · simp [builtin, Builtin.len_, run_under hu, ex, goInt, hn0]
      · simp [builtin, Builtin.len_, run_under hu, ex, goInt]
    · cases hk

/-- The cells of a slice that is read. -/
def srcV (st : St) (sz : Nat) : V → Option (List V)
  | .e0 => some []
  | .lst sz' cs => if sz' = sz then some cs else none
  | .slc id ver off n sz' => if sz' = sz then (((st[id]?).bind (Ob.read ver)).bind fun cs => if off + n * sz ≤ cs.length then some ((cs.drop off).take (n * sz)) else none) else none
  | _ => none

theorem src_spec {S : Nat → Prop} {σ : List Slot} {w : World} {sz : Nat} (h : StRep S σ st w) {v : V} {x : Value} (hr : Rep S σ w v x) {more : List V} (hv : srcV st sz v = some more) (hz : 0 < sz) :
    ∃ A m c, x = .slice A m c ∧ more.length = m * sz ∧ (0 < m → ∃ b o, A = some ⟨b, o, none⟩ ∧ RepCells S σ w b o more) := by
  cases v <;> simp only [srcV] at hv <;> try cases hv
  case e0 =>
    simp only [Rep] at hr
    obtain ⟨A, rfl⟩ := hr
    exact ⟨A, 0, 0, rfl, by simp, fun h => by omega⟩
  case lst sz' cs =>
    split at hv
    · rename_i e; subst e; cases hv
      simp only [Rep] at hr
      obtain ⟨A, n, cap, rfl, _, hl, _, hc⟩ := hr
      refine ⟨A, n, cap, rfl, hl, fun hn => ?_⟩
      obtain ⟨b, o, hA, _, h2⟩ := hc hn
      exact ⟨b, o, hA, h2⟩
    · cases hv
  case slc id ver off n sz' =>
    split at hv
    · rename_i e; subst e
      simp only [Option.bind_eq_some_iff] at hv
      obtain ⟨cs, ⟨ob, h1, h2⟩, hv⟩ := hv
      split at hv
      · rename_i hle
        cases hv
        obtain ⟨s, e1, e2, _, e3⟩ := h.read h1 h2
        simp only [Rep] at hr
        obtain ⟨_, s', f1, f2, f3⟩ := hr
        rw [e1] at f1; cases f1
        obtain ⟨_, ⟨rfl, _, A, rfl⟩ | ⟨_, cap, sh, rfl, _⟩⟩ := f3 e2.symm
        · exact ⟨A, 0, 0, rfl, by simp, fun h => by omega⟩
        refine ⟨_, n, cap, rfl, by simp; omega, fun _ => ⟨_, _, rfl, e3.part _ _⟩⟩
      · cases hv
    · cases hv

theorem tyi_info {P : Program} {t : TypeId} {i : TI} (h : tyi P t = some i) : ∃ inf, P.info? t = some inf ∧ inf.size = i.size ∧ inf.bytes = i.bytes ∧ inf.zero = i.zero := by
  obtain ⟨inf, d, h1, _, _, h2⟩ := tyi_spec h
  exact ⟨inf, h1, h2⟩

theorem run_drew_shape (w : World) (b : Nat) : w.drew.shape? b = w.shape? b := rfl

/-- A value with draws behind it. -/
theorem same_drew_alloc (S : Nat → Prop) (w : World) (o : Obj) (hb : ∀ b, S b → b < w.heap.size) : Same S w (w.drew.alloc o) where
  heap b h := (same_alloc S w o hb).heap b h
  shape b sh h := (same_alloc S w o hb).shape b sh h

theorem zeroCells_one {z : Value} {n : Nat} : (Builtin.zeroCells z.cells n).size = n * z.cells.size := by simp [Builtin.zeroCells]

/-- Nothing appended. -/
theorem OpOK.appendNone {ty t e : TypeId} {x y : Operand} {i ie : TI} {v u : V} (ht : tyi cx.P t = some i) (hk : i.kind = .slice e) (he : tyi cx.P e = some ie) (hz : 0 < ie.size) (hx : opnd cx env x = some v) (hv : v = .e0 ∨ (∃ sz cs, v = .lst sz cs) ∨ ∃ id ver off n sz ob cs, v = .slc id ver off n sz ∧ st[id]? = some ob ∧ ob.read ver = some cs)
    (hy : opnd cx env y = some u) (hs : srcV st ie.size u = some []) (hK : K (some v) st) : OpOK cx (bcall .append #[x, y] #[t, t]) ty env st K := by
  refine OpOK.pure (by intro c h; cases h) (fun S σ N lo a w o hop _ hh => ?_) hK
  obtain ⟨d, hu, hd, _⟩ := tyi_under ht
  rw [hk] at hd
  obtain rfl := kind_slice hd
  obtain ⟨inf, hi, hi1, _⟩ := tyi_info he
  obtain ⟨A, m, c, ey, hl, _⟩ := src_spec hh.str (hh.opnd hy) hs hz
  have hm : m = 0 := by
    rcases Nat.eq_zero_or_pos m with h | h
    · exact h
    · have : 0 < m * ie.size := Nat.mul_pos h hz
      simp at hl; omega
  subst hm
  have hr := hh.opnd hx
  have hsl : ∃ B n cap, a.eval x = .slice B n cap ∧ n ≤ cap := by
    rcases hv with rfl | ⟨sz, cs, rfl⟩ | ⟨id, ver, off, n, sz, ob, cs, rfl, h1, h2⟩
    · simp only [Rep] at hr; obtain ⟨A, hr⟩ := hr; exact ⟨A, 0, 0, hr, Nat.le_refl _⟩
    · simp only [Rep] at hr; obtain ⟨A, n, cap, hr, hc, _⟩ := hr; exact ⟨A, n, cap, hr, hc⟩
    · obtain ⟨s, e1, e2, _, e3⟩ := hh.str.read h1 h2
      simp only [Rep] at hr
      obtain ⟨_, s', f1, f2, f3⟩ := hr
      rw [e1] at f1; cases f1
      obtain ⟨_, ⟨rfl, _, A, ex⟩ | ⟨_, cap, sh, ex, hc, _⟩⟩ := f3 e2.symm
      · exact ⟨A, 0, 0, ex, Nat.le_refl _⟩
      · exact ⟨_, n, cap, ex, hc⟩
  obtain ⟨B, n, cap, ex, hcap⟩ := hsl
  refine ⟨a.eval x, ?_, hr⟩
  rw [run_bcall hop]
  have hf : ∀ C c, (Builtin.firstCells inf.size 0 (.slice C 0 c)).run cx.P w = .ok #[] w := by
    intro C c
    cases C <;> simp [Builtin.firstCells, loadCells, loadCellsFrom]
  cases B with
  | none => simp [builtin, Builtin.append_, run_under hu, sizeOf, typeInfo, hi, ex, ey, Builtin.lenOf, hcap, hf]
  | some ad => simp [builtin, Builtin.append_, run_under hu, sizeOf, typeInfo, hi, ex, ey, Builtin.lenOf, hcap, hf, storeCells]

/-- Something appended to nothing: a new object. -/
theorem OpOK.appendNew {ty t e : TypeId} {x y : Operand} {i ie : TI} {u : V} {more : List V} {m : Nat} {z : Value} (ht : tyi cx.P t = some i) (hk : i.kind = .slice e) (he : tyi cx.P e = some ie) (hz : 0 < ie.size) (hzero : ie.zero = some z) (hzl : z.cells.size = ie.size) (hx : opnd cx env x = some .e0)
    (hy : opnd cx env y = some u) (hs : srcV st ie.size u = some more) (hm : more.length = m * ie.size) (h0 : 0 < m) (hbig : m ≤ 1000000) (hby : ie.bytes ≤ 1000000) (hK : K (some (.slc st.length 0 0 m ie.size)) (st ++ [.cells 0 more])) : OpOK cx (bcall .append #[x, y] #[t, t]) ty env st K := by
  intro S σ F N lo o a w hop _ hh hF next Qr hnext
  obtain ⟨d, hu, hd, _⟩ := tyi_under ht
  rw [hk] at hd
  obtain rfl := kind_slice hd
  obtain ⟨inf, hi, hi1, hi2, hi3⟩ := tyi_info he
  obtain ⟨A, m', c, ey, hl, hc⟩ := src_spec hh.str (hh.opnd hy) hs hz
  have hmm : m' = m := Nat.eq_of_mul_eq_mul_right hz (by omega)
  subst hmm
  obtain ⟨b, o', rfl, hcells⟩ := hc h0
  obtain ⟨vs, g1, g2, g3, g4⟩ := hcells.vals
  have hr := hh.opnd hx
  simp only [Rep] at hr
  obtain ⟨B, ex⟩ := hr
  -- the run
  have hbytes : m' * inf.bytes ≤ 281474976710656 := by rw [hi2]; exact Nat.le_trans (Nat.mul_le_mul hbig hby) (by decide)
  have hnc : Builtin.nextslicecap m' 0 * inf.bytes ≤ 281474976710656 := by rw [nextslicecap_zero h0]; exact hbytes
  let nc := grownCap w m' 0 e
  have hge : m' ≤ nc := grownCap_ge w m' 0 e
  have hrun : (execOp a.eval o).run cx.P w = .ok (.value (.slice (some ⟨w.heap.size, 0, none⟩) m' nc)) (w.drew.alloc (.cells (vs.toArray ++ Builtin.zeroCells z.cells (nc - m')) e)) := by
    rw [run_bcall hop]
    have hn : ¬ (m' ≤ 0) := by omega
    have hn' : m' ≠ 0 := by omega
    have h63 : ¬ (9223372036854775807 < (m' : Int)) := by omega
    have h48 : ¬ (281474976710656 < Builtin.nextslicecap m' 0 * inf.bytes) := by omega
    have hf := run_firstCells_some (P := cx.P) w.drew inf.size m' ⟨b, o', none⟩ m' c vs (by rw [g2, hl, hi1]) (fun j x hj => by rw [addr_add]; exact g4 j x hj)
    have hf0 : ∀ C, (Builtin.firstCells inf.size 0 (.slice C 0 0)).run cx.P w.drew = .ok #[] w.drew := by
      intro C; cases C <;> simp [Builtin.firstCells, loadCells, loadCellsFrom]
    simp [builtin, Builtin.append_, run_under hu, sizeOf, typeInfo, hi, ex, ey, Builtin.lenOf, hn', h63, h48, Question.forced, hf, hf0, zeroValue, hi3, hzero, newRow, nc, grownCap]
  have hsz : (vs.toArray ++ Builtin.zeroCells z.cells (nc - m')).size = nc * ie.size := by
    simp only [Array.size_append, List.size_toArray, g2, hl, zeroCells_one, hzl, ← Nat.add_mul]
    congr 1; omega
  have hsame := same_drew_alloc S w (.cells (vs.toArray ++ Builtin.zeroCells z.cells (nc - m')) e) hh.sb.lt
  have hpush : StRep S (σ ++ [⟨w.heap.size, 0, 0, more.length, false⟩]) (st ++ [.cells 0 more]) (w.drew.alloc (.cells (vs.toArray ++ Builtin.zeroCells z.cells (nc - m')) e)) := by
    have hstr : StRep S σ st w.drew := ⟨hh.str.len, hh.str.zero, hh.str.nil, fun id ob s h1 h2 => (hh.str.ob id ob s h1 h2).mono (fun _ h => h) (fun hl2 => (hh.str.own_lt ⟨_, _, _, h1, hl2, h2, rfl⟩).2) (Le.refl _) ⟨fun _ _ => rfl, fun _ _ h => h⟩ (fun _ => rfl), hh.str.inj⟩
    refine hstr.push hh.sb.lt _ _ _ rfl rfl rfl ?_
    simp only [ObRep]
    refine ⟨trivial, trivial, fun hS => by have := hh.sb.lt _ hS; omega, ⟨_, e, heap_new w.drew _, by rw [hsz, hl]; simp; exact Nat.mul_le_mul_right _ hge⟩, ?_⟩
    rw [repCells_iff]
    intro j v hj
    obtain ⟨xv, hxv, hrv⟩ := ((repAll_iff more vs).1 g1).2 j v hj
    have hjlt : j < vs.length := (List.getElem?_eq_some_iff.1 hxv).1
    refine ⟨List.all_eq_true.1 g3 v (List.mem_of_getElem? hj), xv, ?_, Rep.mono (fun _ h => h) (le_push _ _) hsame _ _ hrv⟩
    show (w.drew.alloc _).cell? ⟨w.drew.heap.size, 0 + j, none⟩ = _
    rw [World.cell?_alloc_new, Array.getElem?_append_left (by simp; omega)]
    simpa using hxv
  have hev : Evo S σ st w S (σ ++ [⟨w.heap.size, 0, 0, more.length, false⟩]) (st ++ [.cells 0 more]) (w.drew.alloc (.cells (vs.toArray ++ Builtin.zeroCells z.cells (nc - m')) e)) := by
    have := Evo.push hh.str (w := w) (.cells (vs.toArray ++ Builtin.zeroCells z.cells (nc - m')) e) ⟨w.heap.size, 0, 0, more.length, false⟩ (.cells 0 more) rfl
    exact ⟨rfl, rfl, rfl, this.size, this.shape, this.keep, this.sub, this.new, this.own, this.le⟩
  refine wpIn_value hF (by rw [hop]; intro c h; cases h) hrun (hnext _ _ _ S _ _ hK (fun uu ee => ?_) hpush (hev.sb hh.str hh.sb (fun bb hb => by have := hh.sb.lt bb hb; simp; omega)) hev)
  cases ee
  exact rep_new_slc (s := ⟨w.heap.size, 0, 0, more.length, false⟩) hh.str rfl rfl rfl hz hge (sh := (e, (vs.toArray ++ Builtin.zeroCells z.cells (nc - m')).size)) (shape_new w.drew _ _) (by rw [hsz]; exact Nat.le_refl _) (by simp only [hl]; exact Nat.mul_le_mul_right _ hge)

end
end Go.VL
end

/- The value-level program logic, part 8: append to one's own; make; functions as values; slices of slices; copy. -/
section
set_option linter.unusedVariables false
set_option linter.unusedSimpArgs false
namespace Go.VL
open Go

section
variable {cx : Cx} {env : Env} {st : St} {K : Option V → St → Prop}

theorem shape_setRow (w : World) (g : Nat) (cs old : Array Value) (t : TypeId) (fr : Nat × Nat) (hg : w.heap[g]? = some (.cells old t fr)) (hs : cs.size = old.size) (b : Nat) : (w.setRow g cs).shape? b = w.shape? b := by
  by_cases e : b = g
  · subst e; simp only [World.shape?, setRow_heap w b old cs t fr hg, hg, hs]
  · simp only [World.shape?, setRow_other w g b cs e]

theorem size_setRow (w : World) (g : Nat) (cs : Array Value) : (w.setRow g cs).heap.size = w.heap.size := by simp [World.setRow]

/-- An object that grows. -/
inductive Grows (ver : Nat) (cs more : List V) : Ob → Ob → Prop
  | cells : Grows ver cs more (.cells ver cs) (.cells (ver + 1) (cs ++ more))
  | acc (h : cs ≠ []) : Grows ver cs more (.acc ver cs) (.acc (ver + 1) (cs ++ more))

theorem Grows.live {ver : Nat} {cs more : List V} {ob ob' : Ob} (h : Grows ver cs more ob ob') : ob.live = true := by
  cases h with
  | cells => rfl
  | acc h => cases cs with
    | nil => exact absurd rfl h
    | cons => rfl

theorem Grows.old {ver : Nat} {cs more : List V} {ob ob' : Ob} (h : Grows ver cs more ob ob') {S : Nat → Prop} {σ : List Slot} {w : World} (hst : StRep S σ st w) {id : Nat} {s : Slot} (h1 : st[id]? = some ob) (h2 : σ[id]? = some s) :
    s.ver = ver ∧ s.len = cs.length ∧ ¬ S s.b ∧ (∃ arr t, w.heap[s.b]? = some (.cells arr t (0, 0)) ∧ s.o + cs.length ≤ arr.size) ∧ RepCells S σ w s.b s.o cs ∧ s.nil = false := by
  have hob := hst.ob id _ s h1 h2
  cases h with
  | cells =>
    simp only [ObRep] at hob
    exact ⟨hob.1, hob.2.1, hob.2.2.1, hob.2.2.2.1, hob.2.2.2.2, hst.nil id _ s h1 h2 rfl⟩
  | acc h =>
    simp only [ObRep] at hob
    obtain ⟨a0, a1, a2, a3⟩ := hob.2.2.2 h
    exact ⟨hob.1, hob.2.1, a1, a2, a3, a0⟩

theorem Grows.new {ver : Nat} {cs more : List V} {ob ob' : Ob} (h : Grows ver cs more ob ob') {S : Nat → Prop} {σ : List Slot} {w : World} {s : Slot}
    (g : s.ver = ver + 1 ∧ s.len = (cs ++ more).length ∧ ¬ S s.b ∧ (∃ arr t, w.heap[s.b]? = some (.cells arr t (0, 0)) ∧ s.o + (cs ++ more).length ≤ arr.size) ∧ RepCells S σ w s.b s.o (cs ++ more)) (hn : s.nil = false) : ObRep S σ w s ob' := by
  cases h with
  | cells => simp only [ObRep]; exact g
  | acc h => simp only [ObRep]; exact ⟨g.1, g.2.1, fun e => absurd (List.append_eq_nil_iff.1 e).1 h, fun _ => ⟨hn, g.2.2⟩⟩

/-- Something appended to a whole object of one's own. -/
theorem OpOK.appendGrow {ty t e : TypeId} {x y : Operand} {i ie : TI} {u : V} {cs more : List V} {id ver n m : Nat} {z : Value} {ob ob' : Ob} (ht : tyi cx.P t = some i) (hk : i.kind = .slice e) (he : tyi cx.P e = some ie) (hz : 0 < ie.size) (hzero : ie.zero = some z) (hzl : z.cells.size = ie.size)
    (hx : opnd cx env x = some (.slc id ver 0 n ie.size)) (hst : st[id]? = some ob) (hgr : Grows ver cs more ob ob') (hn : cs.length = n * ie.size)
    (hy : opnd cx env y = some u) (hs : srcV st ie.size u = some more) (hm : more.length = m * ie.size) (h0 : 0 < m) (hbig : n + m ≤ 1000000) (hby : ie.bytes ≤ 1000000) (hK : K (some (.slc id (ver + 1) 0 (n + m) ie.size)) (st.set id ob')) : OpOK cx (bcall .append #[x, y] #[t, t]) ty env st K := by
  intro S σ F N lo o a w hop _ hh hF next Qr hnext
  obtain ⟨d, hu, hd, _⟩ := tyi_under ht
  rw [hk] at hd
  obtain rfl := kind_slice hd
  obtain ⟨inf, hi, hi1, hi2, hi3⟩ := tyi_info he
  obtain ⟨A, m', c, ey, hl, hc⟩ := src_spec hh.str (hh.opnd hy) hs hz
  have hmm : m' = m := Nat.eq_of_mul_eq_mul_right hz (by omega)
  subst hmm
  obtain ⟨b, o', rfl, hcells⟩ := hc h0
  obtain ⟨vs, g1, g2, g3, g4⟩ := hcells.vals
  have hr := hh.opnd hx
  simp only [Rep] at hr
  obtain ⟨_, s, f1, f2, f3⟩ := hr
  have hz0 := hh.str.zero id s f1
  obtain ⟨q1, q2, q3, ⟨arr, t', q4, q5⟩, q6, q7⟩ := hgr.old hh.str hst f1
  obtain ⟨_, ⟨_, hnil, _⟩ | ⟨_, cap, sh, ex, hcap, hsh, hroom, hlen⟩⟩ := f3 q1.symm
  · rw [q7] at hnil; cases hnil
  rw [hz0] at ex q5 q6 hroom
  simp only [Nat.zero_add, Nat.add_zero] at ex q5 hroom hlen
  have hshe : sh = (t', arr.size) := by simp only [World.shape?, q4] at hsh; exact (Option.some.inj hsh).symm
  subst hshe
  simp only at hroom
  obtain ⟨os, p1, p2, p3, p4⟩ := q6.vals
  have hid : id < st.length := (List.getElem?_eq_some_iff.1 hst).1
  have hid' : id < σ.length := by rw [hh.str.len]; exact hid
  have hlt : s.b < w.heap.size := (Array.getElem?_eq_some_iff.1 q4).1
  have hsz3 : (cs ++ more).length = (n + m') * ie.size := by rw [List.length_append, hn, hl, Nat.add_mul]
  by_cases hfit : n + m' ≤ cap
  · -- there is room
    have hcells2 : cs.length + more.length ≤ arr.size := by
      have : (n + m') * ie.size ≤ cap * ie.size := Nat.mul_le_mul_right _ hfit
      rw [hn, hl, ← Nat.add_mul]; omega
    let row := (arr.toList.take (n * inf.size) ++ vs ++ arr.toList.drop (n * inf.size + vs.length)).toArray
    have hrowsz : row.size = arr.size := by
      simp only [row, List.size_toArray, List.length_append, List.length_take, List.length_drop, Array.length_toList, hi1, ← hn, g2]
      omega
    have hone : ∀ uu ∈ vs, uu.oneCell' = true := fun uu huu => by
      obtain ⟨j, hj⟩ := List.getElem?_of_mem huu
      have hjlt : j < more.length := by rw [← g2]; exact (List.getElem?_eq_some_iff.1 hj).1
      obtain ⟨y, hy1, hy2⟩ := ((repAll_iff more vs).1 g1).2 j more[j] (List.getElem?_eq_getElem hjlt)
      rw [hj] at hy1; cases hy1
      exact hy2.one (List.all_eq_true.1 g3 _ (List.getElem_mem hjlt))
    have hrun : (execOp a.eval o).run cx.P w = .ok (.value (.slice (some ⟨s.b, 0, none⟩) (n + m') cap)) (w.setRow s.b row) := by
      rw [run_bcall hop]
      have hf := run_firstCells_some (P := cx.P) w inf.size m' ⟨b, o', none⟩ m' c vs (by rw [g2, hl, hi1]) (fun j x hj => by rw [addr_add]; exact g4 j x hj)
      have hstc := run_storeCells_at cx.P s.b (n * inf.size) t' vs 0 arr w q4 (by rw [hi1, ← hn, g2]; simpa using hcells2) hone
      simp only [Nat.add_zero] at hstc
      simp [builtin, Builtin.append_, run_under hu, sizeOf, typeInfo, hi, ex, ey, Builtin.lenOf, hfit, hf, addr_add, hstc, row]
    have hother : ∀ bb, bb < w.heap.size → bb ≠ s.b → (w.setRow s.b row).heap[bb]? = w.heap[bb]? := fun bb _ hbb => setRow_other w s.b bb row hbb
    have hshape : ∀ bb sh, w.shape? bb = some sh → (w.setRow s.b row).shape? bb = some sh := fun bb sh h => by rw [shape_setRow w s.b row arr t' (0, 0) q4 hrowsz]; exact h
    have hsame : Same S w (w.setRow s.b row) := ⟨fun bb hb => hother bb (hh.sb.lt bb hb) (fun e => q3 (e ▸ hb)), hshape⟩
    let s' : Slot := ⟨s.b, 0, ver + 1, (cs ++ more).length, false⟩
    have hev : Evo S σ st w S (σ.set id s') (st.set id ob') (w.setRow s.b row) :=
      Evo.replace hh.str.len hst f1 rfl rfl rfl (by rw [size_setRow]; exact Nat.le_refl _) (by simp only [s']; omega) (.inl ⟨hgr.live, rfl⟩) hshape (fun bb h1 h2 => hother bb h1 (fun e => by rw [hgr.live] at h2; cases h2 e))
    have hrep : StRep S (σ.set id s') (st.set id ob') (w.setRow s.b row) := by
      refine hh.str.replace hst f1 hsame (fun bb h1 h2 => hother bb h1 (fun e => by rw [hgr.live] at h2; cases h2 e)) rfl rfl (by simp only [s']; omega) (.inl ⟨hgr.live, rfl⟩) ?_
      refine hgr.new ?_ rfl
      simp only [s']
      refine ⟨trivial, trivial, q3, ⟨row, t', setRow_heap w s.b arr row t' _ q4, by rw [hrowsz, List.length_append]; omega⟩, ?_⟩
      rw [repCells_iff]
      intro j v hj
      have hcell : ∀ k, (w.setRow s.b row).cell? ⟨s.b, k, none⟩ = row[k]? := fun k => by simp only [World.cell?, setRow_heap w s.b arr row t' _ q4]; rfl
      simp only [Nat.zero_add, hcell]
      by_cases hjc : j < cs.length
      · rw [List.getElem?_append_left hjc] at hj
        obtain ⟨w1, xv, w2, w3⟩ := q6.get hj
        refine ⟨w1, xv, ?_, Rep.mono (fun _ h => h) hev.le hsame _ _ w3⟩
        simp only [World.cell?, q4, Nat.zero_add] at w2
        simp only [row, hi1, ← hn, List.getElem?_toArray]
        rw [List.append_assoc, List.getElem?_append_left (by simp; omega), List.getElem?_take, if_pos hjc]
        simpa using w2
      · rw [List.getElem?_append_right (by omega)] at hj
        obtain ⟨xv, hxv, hrv⟩ := ((repAll_iff more vs).1 g1).2 _ v hj
        have hjlt : j - cs.length < vs.length := (List.getElem?_eq_some_iff.1 hxv).1
        refine ⟨List.all_eq_true.1 g3 v (List.mem_of_getElem? hj), xv, ?_, Rep.mono (fun _ h => h) hev.le hsame _ _ hrv⟩
        simp only [row, hi1, ← hn, List.getElem?_toArray]
        have hlt2 : (arr.toList.take cs.length).length = cs.length := by simp; omega
        rw [List.append_assoc, List.getElem?_append_right (by omega), hlt2, List.getElem?_append_left hjlt]
        exact hxv
    refine wpIn_value hF (by rw [hop]; intro c h; cases h) hrun (hnext _ _ _ S _ _ hK (fun uu ee => ?_) hrep (hev.sb hh.str hh.sb (fun bb hb => by rw [size_setRow]; exact hh.sb.lt bb hb)) hev)
    cases ee
    simp only [Rep]
    refine ⟨⟨_, _, _, rfl⟩, s', List.getElem?_set_self hid', Nat.le_refl _, fun _ => ⟨hz, .inr ⟨rfl, cap, (t', arr.size), by simp [s'], hfit, hshape _ _ (by simp only [World.shape?, q4, s']), by simp only [s']; omega, ?_⟩⟩⟩
    simp only [s', hsz3, Nat.zero_add]
    exact Nat.mul_le_mul_right _ hfit
  · -- it grows
    have hbytes : (n + m') * inf.bytes ≤ 140737488355328 := by rw [hi2]; exact Nat.le_trans (Nat.mul_le_mul hbig hby) (by decide)
    have hgrow := growslice_fits (need := n + m') (old := cap) (bytes := inf.bytes) (by omega) hbytes
    let nc := grownCap w (n + m') cap e
    have hge : n + m' ≤ nc := grownCap_ge w (n + m') cap e
    have hrun : (execOp a.eval o).run cx.P w = .ok (.value (.slice (some ⟨w.heap.size, 0, none⟩) (n + m') nc)) (w.drew.alloc (.cells (os.toArray ++ vs.toArray ++ Builtin.zeroCells z.cells (nc - (n + m'))) e)) := by
      rw [run_bcall hop]
      have := run_append_grow (P := cx.P) w t o.type e inf z hu hi (by rw [hi3, hzero]) ⟨s.b, 0, none⟩ n cap os (by rw [p2, hn, hi1]) (fun j x hj => by rw [addr_add]; exact p4 j x hj) ⟨b, o', none⟩ m' c vs (by rw [g2, hl, hi1]) (fun j x hj => by rw [addr_add]; exact g4 j x hj) (by omega) (by omega) hgrow
      simp [builtin, ex, ey, this, nc]
    have hsz : (os.toArray ++ vs.toArray ++ Builtin.zeroCells z.cells (nc - (n + m'))).size = nc * ie.size := by
      simp only [Array.size_append, List.size_toArray, p2, hn, g2, hl, zeroCells_one, hzl, ← Nat.add_mul]
      congr 1; omega
    have hsame := same_drew_alloc S w (.cells (os.toArray ++ vs.toArray ++ Builtin.zeroCells z.cells (nc - (n + m'))) e) hh.sb.lt
    let s' : Slot := ⟨w.heap.size, 0, ver + 1, (cs ++ more).length, false⟩
    have hother : ∀ bb, bb < w.heap.size → bb ≠ s.b → (w.drew.alloc (.cells (os.toArray ++ vs.toArray ++ Builtin.zeroCells z.cells (nc - (n + m'))) e)).heap[bb]? = w.heap[bb]? := fun bb hbb _ => RowKit.Below.heap_alloc w.drew _ bb hbb
    have hev : Evo S σ st w S (σ.set id s') (st.set id ob') (w.drew.alloc (.cells (os.toArray ++ vs.toArray ++ Builtin.zeroCells z.cells (nc - (n + m'))) e)) :=
      Evo.replace hh.str.len hst f1 rfl rfl rfl (by simp) (by simp only [s']; omega) (.inr rfl) hsame.shape (fun bb h1 h2 => hother bb h1 (fun e => by rw [hgr.live] at h2; cases h2 e))
    have hrep : StRep S (σ.set id s') (st.set id ob') (w.drew.alloc (.cells (os.toArray ++ vs.toArray ++ Builtin.zeroCells z.cells (nc - (n + m'))) e)) := by
      refine hh.str.replace hst f1 hsame (fun bb h1 h2 => hother bb h1 (fun e => by rw [hgr.live] at h2; cases h2 e)) rfl rfl (by simp only [s']; omega) (.inr rfl) ?_
      refine hgr.new ?_ rfl
      simp only [s']
      refine ⟨trivial, trivial, fun hS => by have := hh.sb.lt _ hS; omega, ⟨_, e, heap_new w.drew _, by rw [hsz, hsz3]; simp; exact Nat.mul_le_mul_right _ hge⟩, ?_⟩
      rw [repCells_iff]
      intro j v hj
      have hcell : ∀ k, (w.drew.alloc (.cells (os.toArray ++ vs.toArray ++ Builtin.zeroCells z.cells (nc - (n + m'))) e)).cell? ⟨w.heap.size, k, none⟩ = (os.toArray ++ vs.toArray ++ Builtin.zeroCells z.cells (nc - (n + m')))[k]? := fun k => World.cell?_alloc_new w.drew _ _ k
      simp only [Nat.zero_add, hcell]
      have hjlt : j < (cs ++ more).length := (List.getElem?_eq_some_iff.1 hj).1
      have hall := repAll_append p1 g1
      obtain ⟨xv, hxv, hrv⟩ := ((repAll_iff _ _).1 hall).2 _ v hj
      have hone : v.one = true := List.all_eq_true.1 (all_append' p3 g3) v (List.mem_of_getElem? hj)
      refine ⟨hone, xv, ?_, Rep.mono (fun _ h => h) hev.le hsame _ _ hrv⟩
      rw [Array.getElem?_append_left (by simp [p2, g2] at hjlt ⊢; omega)]
      have e1 : os.toArray ++ vs.toArray = (os ++ vs).toArray := by simp
      rw [e1, List.getElem?_toArray]
      exact hxv
    refine wpIn_value hF (by rw [hop]; intro c h; cases h) hrun (hnext _ _ _ S _ _ hK (fun uu ee => ?_) hrep (hev.sb hh.str hh.sb (fun bb hb => by have := hh.sb.lt bb hb; simp; omega)) hev)
    cases ee
    simp only [Rep]
    refine ⟨⟨_, _, _, rfl⟩, s', List.getElem?_set_self hid', Nat.le_refl _, fun _ => ⟨hz, .inr ⟨rfl, nc, (e, nc * ie.size), by simp [s'], hge, ?_, by simp only [s']; omega, ?_⟩⟩⟩
    · have := shape_new w.drew (os.toArray ++ vs.toArray ++ Builtin.zeroCells z.cells (nc - (n + m'))) e
      rw [hsz] at this
      exact this
    · simp only [s', hsz3, Nat.zero_add]
      exact Nat.mul_le_mul_right _ hge

/-- Something appended to a whole object of one's own. -/
theorem OpOK.appendOwn {ty t e : TypeId} {x y : Operand} {i ie : TI} {u : V} {cs more : List V} {id ver n m : Nat} {z : Value} (ht : tyi cx.P t = some i) (hk : i.kind = .slice e) (he : tyi cx.P e = some ie) (hz : 0 < ie.size) (hzero : ie.zero = some z) (hzl : z.cells.size = ie.size)
    (hx : opnd cx env x = some (.slc id ver 0 n ie.size)) (hst : st[id]? = some (.cells ver cs)) (hn : cs.length = n * ie.size)
    (hy : opnd cx env y = some u) (hs : srcV st ie.size u = some more) (hm : more.length = m * ie.size) (h0 : 0 < m) (hbig : n + m ≤ 1000000) (hby : ie.bytes ≤ 1000000) (hK : K (some (.slc id (ver + 1) 0 (n + m) ie.size)) (st.set id (.cells (ver + 1) (cs ++ more)))) : OpOK cx (bcall .append #[x, y] #[t, t]) ty env st K :=
  OpOK.appendGrow ht hk he hz hzero hzl hx hst .cells hn hy hs hm h0 hbig hby hK

/-- Something appended to a list that grows, and that may be nil. -/
theorem OpOK.appendAcc {ty t e : TypeId} {x y : Operand} {i ie : TI} {u : V} {cs more : List V} {id ver n m : Nat} {z : Value} (ht : tyi cx.P t = some i) (hk : i.kind = .slice e) (he : tyi cx.P e = some ie) (hz : 0 < ie.size) (hzero : ie.zero = some z) (hzl : z.cells.size = ie.size)
    (hx : opnd cx env x = some (.slc id ver 0 n ie.size)) (hst : st[id]? = some (.acc ver cs)) (hn : cs.length = n * ie.size)
    (hy : opnd cx env y = some u) (hs : srcV st ie.size u = some more) (hm : more.length = m * ie.size) (h0 : 0 < m) (hbig : n + m ≤ 1000000) (hby : ie.bytes ≤ 1000000) (hK : K (some (.slc id (ver + 1) 0 (n + m) ie.size)) (st.set id (.acc (ver + 1) (cs ++ more)))) : OpOK cx (bcall .append #[x, y] #[t, t]) ty env st K := by
  cases cs with
  | cons c cs => exact OpOK.appendGrow ht hk he hz hzero hzl hx hst (.acc (by simp)) hn hy hs hm h0 hbig hby hK
  | nil =>
  have hn0 : n = 0 := by
    rcases Nat.eq_zero_or_pos n with h | h
    · exact h
    · have : 0 < n * ie.size := Nat.mul_pos h hz
      simp at hn; omega
  subst hn0
  intro S σ F N lo o a w hop _ hh hF next Qr hnext
  obtain ⟨d, hu, hd, _⟩ := tyi_under ht
  rw [hk] at hd
  obtain rfl := kind_slice hd
  obtain ⟨inf, hi, hi1, hi2, hi3⟩ := tyi_info he
  obtain ⟨A, m', c, ey, hl, hc⟩ := src_spec hh.str (hh.opnd hy) hs hz
  have hmm : m' = m := Nat.eq_of_mul_eq_mul_right hz (by omega)
  subst hmm
  obtain ⟨b, o', rfl, hcells⟩ := hc h0
  obtain ⟨vs, g1, g2, g3, g4⟩ := hcells.vals
  have hr := hh.opnd hx
  simp only [Rep] at hr
  obtain ⟨_, s, f1, f2, f3⟩ := hr
  have hob := hh.str.ob id _ s hst f1
  simp only [ObRep] at hob
  obtain ⟨q1, q2, q3, _⟩ := hob
  have hnil : s.nil = true := q3 trivial
  have hid' : id < σ.length := (List.getElem?_eq_some_iff.1 f1).1
  obtain ⟨B, ex⟩ : ∃ B, a.eval x = .slice B 0 0 := by
    obtain ⟨_, ⟨_, _, A, ex⟩ | ⟨hf, _⟩⟩ := f3 q1.symm
    · exact ⟨A, ex⟩
    · rw [hnil] at hf; cases hf
  have hbytes : m' * inf.bytes ≤ 281474976710656 := by rw [hi2]; exact Nat.le_trans (Nat.mul_le_mul (by omega : m' ≤ 1000000) hby) (by decide)
  have hnc : Builtin.nextslicecap m' 0 * inf.bytes ≤ 281474976710656 := by rw [nextslicecap_zero h0]; exact hbytes
  let nc := grownCap w m' 0 e
  have hge : m' ≤ nc := grownCap_ge w m' 0 e
  have hrun : (execOp a.eval o).run cx.P w = .ok (.value (.slice (some ⟨w.heap.size, 0, none⟩) m' nc)) (w.drew.alloc (.cells (vs.toArray ++ Builtin.zeroCells z.cells (nc - m')) e)) := by
    rw [run_bcall hop]
    have hn : ¬ (m' ≤ 0) := by omega
    have hn' : m' ≠ 0 := by omega
    have h63 : ¬ (9223372036854775807 < (m' : Int)) := by omega
    have h48 : ¬ (281474976710656 < Builtin.nextslicecap m' 0 * inf.bytes) := by omega
    have hf := run_firstCells_some (P := cx.P) w.drew inf.size m' ⟨b, o', none⟩ m' c vs (by rw [g2, hl, hi1]) (fun j x hj => by rw [addr_add]; exact g4 j x hj)
    have hf0 : ∀ C, (Builtin.firstCells inf.size 0 (.slice C 0 0)).run cx.P w.drew = .ok #[] w.drew := by
      intro C; cases C <;> simp [Builtin.firstCells, loadCells, loadCellsFrom]
    simp [builtin, Builtin.append_, run_under hu, sizeOf, typeInfo, hi, ex, ey, Builtin.lenOf, hn', h63, h48, Question.forced, hf, hf0, zeroValue, hi3, hzero, newRow, nc, grownCap]
  have hsz : (vs.toArray ++ Builtin.zeroCells z.cells (nc - m')).size = nc * ie.size := by
    simp only [Array.size_append, List.size_toArray, g2, hl, zeroCells_one, hzl, ← Nat.add_mul]
    congr 1; omega
  have hsame := same_drew_alloc S w (.cells (vs.toArray ++ Builtin.zeroCells z.cells (nc - m')) e) hh.sb.lt
  let s' : Slot := ⟨w.heap.size, 0, ver + 1, more.length, false⟩
  have hother : ∀ bb, bb < w.heap.size → (bb = s.b → (Ob.acc ver []).live = false) → (w.drew.alloc (.cells (vs.toArray ++ Builtin.zeroCells z.cells (nc - m')) e)).heap[bb]? = w.heap[bb]? := fun bb hbb _ => RowKit.Below.heap_alloc w.drew _ bb hbb
  have hmne : more ≠ [] := by
    intro e0; rw [e0] at hl
    have : 0 < m' * ie.size := Nat.mul_pos h0 hz
    simp at hl; omega
  have hev : Evo S σ st w S (σ.set id s') (st.set id (.acc (ver + 1) ([] ++ more))) (w.drew.alloc (.cells (vs.toArray ++ Builtin.zeroCells z.cells (nc - m')) e)) :=
    Evo.replace hh.str.len hst f1 rfl rfl rfl (by simp) (by simp only [s']; omega) (.inr rfl) hsame.shape hother
  have hrep : StRep S (σ.set id s') (st.set id (.acc (ver + 1) ([] ++ more))) (w.drew.alloc (.cells (vs.toArray ++ Builtin.zeroCells z.cells (nc - m')) e)) := by
    refine hh.str.replace hst f1 hsame hother rfl rfl (by simp only [s']; omega) (.inr rfl) ?_
    simp only [ObRep, s', List.nil_append]
    refine ⟨trivial, trivial, fun h => absurd h hmne, fun _ => ⟨trivial, fun hS => by have := hh.sb.lt _ hS; omega, ⟨_, e, heap_new w.drew _, by rw [hsz, hl]; simp; exact Nat.mul_le_mul_right _ hge⟩, ?_⟩⟩
    rw [repCells_iff]
    intro j v hj
    obtain ⟨xv, hxv, hrv⟩ := ((repAll_iff more vs).1 g1).2 j v hj
    have hjlt : j < vs.length := (List.getElem?_eq_some_iff.1 hxv).1
    refine ⟨List.all_eq_true.1 g3 v (List.mem_of_getElem? hj), xv, ?_, Rep.mono (fun _ h => h) hev.le hsame _ _ hrv⟩
    show (w.drew.alloc _).cell? ⟨w.drew.heap.size, 0 + j, none⟩ = _
    rw [World.cell?_alloc_new, Array.getElem?_append_left (by simp; omega)]
    simpa using hxv
  refine wpIn_value hF (by rw [hop]; intro c h; cases h) hrun (hnext _ _ _ S _ _ hK (fun uu ee => ?_) hrep (hev.sb hh.str hh.sb (fun bb hb => by have := hh.sb.lt bb hb; simp; omega)) hev)
  cases ee
  simp only [Rep, Nat.zero_add]
  refine ⟨⟨_, _, _, rfl⟩, s', List.getElem?_set_self hid', Nat.le_refl _, fun _ => ⟨hz, .inr ⟨rfl, nc, (e, nc * ie.size), by simp [s'], hge, ?_, by simp only [s']; omega, ?_⟩⟩⟩
  · have := shape_new w.drew (vs.toArray ++ Builtin.zeroCells z.cells (nc - m')) e
    rw [hsz] at this
    exact this
  · simp only [s', hl, Nat.zero_add]
    exact Nat.mul_le_mul_right _ hge

end
end Go.VL
end

/- The value-level program logic, part 9: contracts of functions, calls, regions in the order of the text. -/
section
set_option linter.unusedVariables false
set_option linter.unusedSimpArgs false
namespace Go.VL
open Go

def callable (P : Program) (f : FuncId) : Prop := ∃ fn, P.funcs[f]? = some fn ∧ (fn.name == "runtime.NumGoroutine") = false ∧ fn.body.isNone = false

/-- The contract of a function: from values and a store to a value and a store. -/
def VCall (cx : Cx) (f : FuncId) (args : List V) (st : St) (Q : V → St → Prop) : Prop :=
  callable cx.P f ∧ ∀ (S : Nat → Prop) (σ : List Slot) (w : World) (vals : List Value), RepAll S σ w args vals → StRep S σ st w → SB cx S w →
    Calls cx.P f vals.toArray w fun e w' => ∃ v r st' S' σ', e = .returned v ∧ Q r st' ∧ Rep S' σ' w' r v ∧ StRep S' σ' st' w' ∧ SB cx S' w' ∧ Evo S σ st w S' σ' st' w'

section
variable {cx : Cx} {env : Env} {st : St} {K : Option V → St → Prop}

theorem VCall.mono {f : FuncId} {args : List V} {Q Q' : V → St → Prop} (h : VCall cx f args st Q) (hq : ∀ v st, Q v st → Q' v st) : VCall cx f args st Q' :=
  ⟨h.1, fun S σ w vals h1 h2 h3 => (h.2 S σ w vals h1 h2 h3).mono fun e w' ⟨v, r, st', S', σ', e1, q, x⟩ => ⟨v, r, st', S', σ', e1, hq _ _ q, x⟩⟩

theorem run_callFunc {P : Program} {f : FuncId} (h : callable P f) (args : Array Value) (w : World) : (callFunc f args).run P w = .ok (.enter f args) w := by
  obtain ⟨fn, h1, h2, h3⟩ := h
  simp only [callFunc, Sem.run_bind, run_program, Result.andThen_ok, h1]
  rw [if_neg (by rw [h2]; decide), if_neg (by rw [h3]; decide)]
  rfl

/-- A call of a function, or of a function value whose function is known. -/
theorem OpOK.call {ty : TypeId} {x : Operand} {args : Array Operand} {ts : Array TypeId} {f : FuncId} {caps vs : List V} (hx : opnd cx env x = some (.fn (.func f) caps)) (hv : opndL cx env args.toList = some vs)
    (h : VCall cx f (vs ++ caps) st fun r st' => K (some r) st') : OpOK cx (.call { callee := .value x, args := args, argTypes := ts }) ty env st K := by
  intro S σ F N lo o a w hop _ hh hF next Qr hnext
  have hr := hh.opnd hx
  simp only [Rep] at hr
  obtain ⟨cvs, ex, hc⟩ := hr
  have ha := opndL_rep hh hv
  have hall := repAll_append ha hc
  refine wpIn_enter hF (by rw [hop]; intro c hc; cases hc) (w' := w) (f := f) (args := (args.toList.map a.eval ++ cvs).toArray) ?_ ?_
  · simp only [execOp, hop, resolve, ex, Deferred.ofValue, Sem.run_bind, Sem.run_pure, Result.andThen_ok, invoke]
    have e : #[] ++ Array.map a.eval args ++ cvs.toArray = (args.toList.map a.eval ++ cvs).toArray := by
      apply Array.ext'; simp
    rw [e]
    exact run_callFunc h.1 _ w
  · refine (h.2 S σ w _ hall hh.str hh.sb).mono ?_
    rintro e w' ⟨v, r, st', S', σ', rfl, q, h1, h2, h3, h4⟩
    exact ⟨v, rfl, hnext v (some r) st' S' σ' w' q (fun u hu => by cases hu; exact h1) h2 h3 h4⟩

/-! ### Regions -/
def forget (env : Env) (t : Tmp) : Env := env.filter fun p => p.1 != t

theorem look_forget {env : Env} {t u : Nat} {v : V} (h : look (forget env t) u = some v) : u ≠ t ∧ look env u = some v := by
  induction env with
  | nil => cases h
  | cons p r ih =>
    obtain ⟨k, x⟩ := p
    simp only [forget, List.filter_cons] at h
    by_cases hk : k = t
    · subst hk
      simp only [bne_self_eq_false, Bool.false_eq_true, if_false] at h
      obtain ⟨h1, h2⟩ := ih h
      exact ⟨h1, by simp only [look]; rw [if_neg (fun e => h1 e.symm)]; exact h2⟩
    · have hb : (k != t) = true := by simp [hk]
      simp only [hb, if_true, look] at h ⊢
      split at h
      · rename_i e; cases h; subst e; exact ⟨hk, by simp⟩
      · rename_i e
        obtain ⟨h1, h2⟩ := ih h
        exact ⟨h1, by rw [if_neg e]; exact h2⟩

def putE (env : Env) : Option Tmp → Option V → Env
  | some d, some v => (d, v) :: env
  | some d, none => forget env d
  | none, _ => env

def dstOK (N : Nat) : Option Tmp → Bool
  | some d => decide (d < N)
  | none => true

theorem Holds.put {N lo : Nat} {S S' : Nat → Prop} {σ σ' : List Slot} {st' : St} {a : Act} {w w' : World} (h : Holds cx N lo S σ env st a w) (hev : Evo S σ st w S' σ' st' w') (hs : StRep S' σ' st' w') (hb : SB cx S' w') (d : Option Tmp) (hd : dstOK N d = true) (v : Value) (V : Option VL.V) (hv : ∀ u, V = some u → Rep S' σ' w' u v) :
    Holds cx N lo S' σ' (putE env d V) st' (a.put d v) w' := by
  have hold : ∀ t u, look env t = some u → Rep S' σ' w' u (a.tmps.getD t undef) := fun t u hu => hev.rep h.str h.sb.lt (h.rep t u hu)
  cases d with
  | none => exact ⟨h.size, hold, hs, hb, DefOK.mono hev _ h.dfr, Nat.le_trans h.le hev.size⟩
  | some d =>
    have hd' : d < N := by simpa [dstOK] using hd
    refine ⟨by simpa [Act.put] using h.size, ?_, hs, hb, DefOK.mono hev _ h.dfr, Nat.le_trans h.le hev.size⟩
    have hsz := h.size
    cases V with
    | some u =>
      intro t x hx
      simp only [putE, look] at hx
      split at hx
      · rename_i e; cases hx; subst e
        have : (a.put (some d) v).tmps.getD d undef = v := by simp [Act.put, Array.getD_eq_getD_getElem?, hsz, hd']
        rw [this]; exact hv _ rfl
      · rename_i e
        have : (a.put (some d) v).tmps.getD t undef = a.tmps.getD t undef := by simp [Act.put, Array.getD_eq_getD_getElem?, Array.getElem?_setIfInBounds, e]
        rw [this]; exact hold t x hx
    | none =>
      intro t x hx
      obtain ⟨h1, h2⟩ := look_forget hx
      have : (a.put (some d) v).tmps.getD t undef = a.tmps.getD t undef := by simp [Act.put, Array.getD_eq_getD_getElem?, Array.getElem?_setIfInBounds, Ne.symm h1]
      rw [this]; exact hold t x h2

def guardV (all : Array Oper) (env : Env) (j : Nat) : Option Bool :=
  match (all[j]?).bind (·.dst) with
  | some t => match look env t with
    | some (.bool b) => some b
    | _ => none
  | none => none

/-- Operations one behind the other. -/
def OpsOK (cx : Cx) (N : Nat) (all : Array Oper) : List Oper → Env → St → (Env → St → Prop) → Prop
  | [], env, st, Q => Q env st
  | o :: rest, env, st, Q =>
    dstOK N o.dst = true ∧
    match o.guard with
    | none => OpOK cx o.op o.type env st fun v st' => OpsOK cx N all rest (putE env o.dst v) st' Q
    | some (j, want) => ∃ b, guardV all env j = some b ∧
        (b = want → OpOK cx o.op o.type env st fun v st' => OpsOK cx N all rest (putE env o.dst v) st' Q) ∧
        (b ≠ want → OpsOK cx N all rest (putE env o.dst none) st Q)

theorem guard_spec {all : Array Oper} {j : Nat} {b : Bool} (hg : guardV all env j = some b) {N lo : Nat} {S : Nat → Prop} {σ : List Slot} {a : Act} {w : World} (h : Holds cx N lo S σ env st a w) : yielded all a.tmps j = some b := by
  unfold guardV at hg
  split at hg
  · rename_i t ht
    split at hg
    · rename_i b' hl
      cases hg
      have hr := h.rep t _ hl
      simp only [Rep] at hr
      have hlt : t < a.tmps.size := by
        rcases Nat.lt_or_ge t a.tmps.size with h' | h'
        · exact h'
        · rw [Array.getD_eq_getD_getElem?, Array.getElem?_eq_none h'] at hr
          cases hr
      have : a.tmps[t]? = some (.bool b) := by
        rw [Array.getD_eq_getD_getElem?, Array.getElem?_eq_getElem hlt] at hr
        rw [Array.getElem?_eq_getElem hlt]
        simpa using hr
      simp only [yielded, ht, Option.bind_some, this]
    · cases hg
  · cases hg

theorem ops_sound {N lo : Nat} {F : Fence} (hF : FOK F) {all : Array Oper} {Qr : Exit → Act → World → Prop} : ∀ (l : List Oper) (env : Env) (st : St) (Q : Env → St → Prop) (S : Nat → Prop) (σ : List Slot) (a : Act) (w : World),
    OpsOK cx N all l env st Q → Holds cx N lo S σ env st a w →
    (∀ env' st' S' σ' a' w', Q env' st' → Holds cx N lo S' σ' env' st' a' w' → Evo S σ st w S' σ' st' w' → Qr .normal a' w') → wpListIn F 0 cx.P all Qr l a w
  | [], env, st, Q, S, σ, a, w, hq, hh, hk => hk env st S σ a w hq hh (Evo.refl _ _ _ _)
  | o :: rest, env, st, Q, S, σ, a, w, hq, hh, hk => by
    simp only [OpsOK] at hq
    obtain ⟨hd, hq⟩ := hq
    simp only [wpListIn]
    have go : OpOK cx o.op o.type env st (fun v st' => OpsOK cx N all rest (putE env o.dst v) st' Q) → o.wpIn F 0 cx.P a w (wpListIn F 0 cx.P all Qr rest) Qr := fun h =>
      h S σ F N lo o a w rfl rfl hh hF _ Qr fun v V st' S' σ' w' hK hV hs hb hev =>
        ops_sound hF rest (putE env o.dst V) st' Q S' σ' (a.put o.dst v) w' hK (hh.put hev hs hb o.dst hd v V hV) fun env2 st2 S2 σ2 a2 w2 h1 h2 h3 => hk env2 st2 S2 σ2 a2 w2 h1 h2 (hev.trans h3)
    cases hg : o.guard with
    | none =>
      rw [hg] at hq
      rw [if_pos (by simp [Region.wanted, hg])]
      exact go hq
    | some jw =>
      obtain ⟨j, want⟩ := jw
      rw [hg] at hq
      obtain ⟨b, h1, h2, h3⟩ := hq
      have hy := guard_spec h1 hh
      by_cases e : b = want
      · rw [if_pos (by simp [Region.wanted, hg, hy, e])]
        exact go (h2 e)
      · rw [if_neg (by simp [Region.wanted, hg, hy, e])]
        refine ⟨fun f _ => hF.fn f, ?_⟩
        exact ops_sound hF rest (putE env o.dst none) st Q S σ (a.put o.dst undef) w (h3 e) (hh.put (Evo.refl _ _ _ _) hh.str hh.sb o.dst hd undef none (fun u hu => by cases hu)) hk

theorem WP.region {N : Nat} {r : RR} {id : Nat} {ops : Array Oper} {Q : Exit → Env → St → Prop} (h : OpsOK cx N ops ops.toList env st (Q .normal)) : WP cx N r (.region id ops false) Q env st := by
  intro lo S σ F a w hh hF hr
  refine wpIn_region_list ?_
  exact ops_sound hF ops.toList env st (Q .normal) S σ a w h hh fun env' st' S' σ' a' w' h1 h2 h3 => ⟨env', st', S', σ', h1, h2, h3.toW⟩

/-! ### A function's contract out of its body -/
def argEnv : Nat → List V → Env
  | _, [] => []
  | i, v :: vs => (i, v) :: argEnv (i + 1) vs

theorem look_argEnv : ∀ (vs : List V) (i t : Nat) (v : V), look (argEnv i vs) t = some v → i ≤ t ∧ vs[t - i]? = some v
  | [], i, t, v, h => by cases h
  | x :: vs, i, t, v, h => by
    simp only [argEnv, look] at h
    split at h
    · rename_i e; cases h; subst e; simp
    · rename_i e
      obtain ⟨h1, h2⟩ := look_argEnv vs (i + 1) t v h
      refine ⟨by omega, ?_⟩
      rw [show t - i = (t - (i + 1)) + 1 by omega]
      simpa using h2

def ResIs (cx : Cx) (env : Env) (st : St) (v : V) : ResultVar → Prop
  | .tmp t => look env t = some v
  | .cell a t => ∃ id ver off ob cs i, look env a = some (.ptr id ver off) ∧ st[id]? = some ob ∧ ob.read ver = some cs ∧ tyi cx.P t = some i ∧ loadV i.kind.agg i.size cs off = some v

def ResAll (cx : Cx) (env : Env) (st : St) : List ResultVar → List V → Prop
  | [], vs => vs = []
  | r :: rs, vs => ∃ v us, vs = v :: us ∧ ResIs cx env st v r ∧ ResAll cx env st rs us

def pack : List V → V
  | [v] => v
  | vs => .tup vs

theorem run_result {N lo : Nat} {S : Nat → Prop} {σ : List Slot} {a : Act} {w : World} (h : Holds cx N lo S σ env st a w) {w2 : World} (hw : ∀ b o, (S b ∨ Own σ st b) → w2.cell? ⟨b, o, none⟩ = w.cell? ⟨b, o, none⟩) {v : V} {rv : ResultVar} (hr : ResIs cx env st v rv) :
    ∃ x, (match rv with | .tmp t => (Pure.pure (a.tmps.getD t undef) : Sem Value) | .cell c t => do loadVar t (← asAddr (a.tmps.getD c undef))).run cx.P w2 = .ok x w2 ∧ Rep S σ w v x := by
  cases rv with
  | tmp t => exact ⟨_, rfl, h.rep t v hr⟩
  | cell c t =>
    obtain ⟨id, ver, off, ob, cs, i, h1, h2, h3, h4, h5⟩ := hr
    obtain ⟨s, e1, e2, _, e3⟩ := h.str.read h2 h3
    have hp := h.rep c _ h1
    simp only [Rep] at hp
    obtain ⟨_, s', f1, f2, f3⟩ := hp
    rw [e1] at f1; cases f1
    have ex := f3 e2.symm
    obtain ⟨d, hu, hd, ha⟩ := tyi_under h4
    have hb : 0 < cs.length → S s.b ∨ Own σ st s.b := by
      intro hpos
      have := h.str.ob id ob s h2 e1
      cases ob with
      | cells v' cs' => exact .inr ⟨id, _, s, h2, rfl, e1, rfl⟩
      | frozen v' cs' => simp only [ObRep] at this; exact .inl this.2.2.1
      | acc v' cs' =>
        simp only [Ob.read] at h3
        split at h3
        · cases h3
          cases cs with
          | nil => simp at hpos
          | cons => exact .inr ⟨id, _, s, h2, rfl, e1, rfl⟩
        · cases h3
      | _ => cases h3
    -- the load reads cells that are the same in both worlds
    unfold loadV at h5
    cases hag : i.kind.agg with
    | true =>
      rw [hag] at h5
      simp only [if_true] at h5
      split at h5
      · cases h5
        obtain ⟨vs, g1, g2, g3, g4⟩ := (e3.part off i.size).vals
        have hn : vs.length = i.size := by rw [g2]; simp; omega
        refine ⟨.agg vs.toArray, ?_, by simp only [Rep]; exact ⟨vs, rfl, g3, g1⟩⟩
        simp only [ex, asAddr, Sem.run_bind, Sem.run_pure, Result.andThen_ok, loadVar, run_isAgg hu, ha, hag, if_true, run_sizeOf (tyi_size h4)]
        rw [← hn, run_loadCells vs (fun j x hj => (hw _ _ (hb (by have := (List.getElem?_eq_some_iff.1 hj).1; rename_i hle; omega))).trans (g4 j x hj))]
        simp
      · cases h5
    | false =>
      rw [hag] at h5
      simp only [Bool.false_eq_true, if_false] at h5
      obtain ⟨k1, x, k2, k3⟩ := e3.get h5
      refine ⟨x, ?_, k3⟩
      simp [ex, asAddr, loadVar, run_isAgg hu, ha, hag, (hw _ _ (hb (by have := (List.getElem?_eq_some_iff.1 h5).1; omega))).trans k2]

end
end Go.VL
end

/- The value-level program logic, part 10: a function's contract out of its body; leaving objects behind. -/
section
set_option linter.unusedVariables false
set_option linter.unusedSimpArgs false
namespace Go.VL
open Go

section
variable {cx : Cx} {env : Env} {st : St}

def resRun (tmps : Array Value) : ResultVar → Sem Value
  | .tmp t => pure (tmps.getD t undef)
  | .cell a t => do loadVar t (← asAddr (tmps.getD a undef))

theorem run_resAll {N lo : Nat} {S : Nat → Prop} {σ : List Slot} {a : Act} {w : World} (h : Holds cx N lo S σ env st a w) {w2 : World} (hw : ∀ b o, (S b ∨ Own σ st b) → w2.cell? ⟨b, o, none⟩ = w.cell? ⟨b, o, none⟩) :
    ∀ {rs : List ResultVar} {vs : List V}, ResAll cx env st rs vs → ∃ xs, (rs.mapM (resRun a.tmps)).run cx.P w2 = .ok xs w2 ∧ RepAll S σ w vs xs
  | [], vs, hr => by simp only [ResAll] at hr; subst hr; exact ⟨[], by simp, by simp [RepAll]⟩
  | r :: rs, vs, hr => by
    simp only [ResAll] at hr
    obtain ⟨v, us, rfl, h1, h2⟩ := hr
    obtain ⟨x, g1, g2⟩ := run_result h hw h1
    obtain ⟨xs, k1, k2⟩ := run_resAll h hw h2
    refine ⟨x :: xs, ?_, by simp only [RepAll]; exact ⟨x, xs, rfl, g2, k2⟩⟩
    have g1' : (resRun a.tmps r).run cx.P w2 = .ok x w2 := by cases r <;> exact g1
    simp only [List.mapM_cons, Sem.run_bind, g1', Result.andThen_ok, k1, Sem.run_pure]

theorem run_results {N lo : Nat} {S : Nat → Prop} {σ : List Slot} {a : Act} {w : World} (h : Holds cx N lo S σ env st a w) {w2 : World} (hw : ∀ b o, (S b ∨ Own σ st b) → w2.cell? ⟨b, o, none⟩ = w.cell? ⟨b, o, none⟩)
    {fn : Func} {vs : List V} (hr : ResAll cx env st fn.results.toList vs) : ∃ x, (results fn a.tmps).run cx.P w2 = .ok x w2 ∧ Rep S σ w (pack vs) x := by
  obtain ⟨xs, h1, h2⟩ := run_resAll h hw hr
  have hm : (fn.results.mapM (resRun a.tmps)).run cx.P w2 = .ok xs.toArray w2 := by
    rw [Array.mapM_eq_mapM_toList]
    simp only [Sem.run_map, h1, Result.andThen_ok]
  have hres : results fn a.tmps = (fn.results.mapM (resRun a.tmps)) >>= fun vs => pure (if h : vs.size = 1 then vs[0] else .tuple vs) := by
    unfold results
    congr 1
  rw [hres]
  simp only [Sem.run_bind, hm, Result.andThen_ok, Sem.run_pure]
  refine ⟨_, rfl, ?_⟩
  have hl := h2.length
  match vs, xs, hl, h2 with
  | [], [], _, h2 => simp only [pack, Rep]; exact ⟨[], by simp, h2⟩
  | [v], [x], _, h2 => simp only [RepAll] at h2; obtain ⟨y, ys, e, h3, _⟩ := h2; cases e; simpa [pack] using h3
  | v :: v2 :: vs, x :: x2 :: xs, _, h2 => simp only [pack, Rep]; exact ⟨_, by simp, h2⟩

/-- The worlds differ in blocks that nobody knows. -/
theorem StRep.turn {S : Nat → Prop} {σ : List Slot} {w w' : World} (h : StRep S σ st w) (hb : ∀ b, S b ∨ Own σ st b → w'.heap[b]? = w.heap[b]?) (hs : ∀ b sh, w.shape? b = some sh → w'.shape? b = some sh) : StRep S σ st w' :=
  ⟨h.len, h.zero, h.nil, fun id ob s h1 h2 => (h.ob id ob s h1 h2).mono (fun _ h => h) (fun hl2 => (h.own_lt ⟨_, _, _, h1, hl2, h2, rfl⟩).2) (Le.refl _) ⟨fun b hS => hb b (.inl hS), hs⟩ (fun hl2 => hb _ (.inr ⟨_, _, _, h1, hl2, h2, rfl⟩)), h.inj⟩

theorem leave_marks {lo : Nat} {S : Nat → Prop} {σ : List Slot} {st : St} {P : Program} {fn : Func} {tmps : Array Value} {R : Ending → World → Prop} {F : Fence} {n : Nat} : ∀ (ds : List Deferred) (w : World), DefOK lo S σ st w ds →
    (∀ w', (∀ b, (S b ∨ Own σ st b ∨ b < lo) → w'.heap[b]? = w.heap[b]?) → (∀ b sh, w.shape? b = some sh → w'.shape? b = some sh) → w'.os = w.os → w'.tape = w.tape → w'.output = w.output → w'.heap.size = w.heap.size → LeavesInM F n P fn tmps R [] .returning w') →
    LeavesInM F n P fn tmps R ds .returning w
  | [], w, _, h => h w (fun _ _ => rfl) (fun _ _ h => h) rfl rfl rfl rfl
  | d :: ds, w, hd, h => by
    obtain ⟨⟨h1, b, h2, h3, h4, h5, h6, h7⟩, h8⟩ := hd
    refine ⟨(by intro e; cases e), .inl ⟨b, { w with heap := w.heap.setIfInBounds b (.deferred none) }, h2, ?_, ?_⟩⟩
    · simp [Instr.takeDeferred, getObj, setObj, Sem.run, h4]
    · have hne : ∀ b', b' ≠ b → (w.heap.setIfInBounds b (.deferred none))[b']? = w.heap[b']? := fun b' e => by rw [Array.getElem?_setIfInBounds_ne (Ne.symm e)]
      have hshape : ∀ b' sh, w.shape? b' = some sh → ({ w with heap := w.heap.setIfInBounds b (.deferred none) } : World).shape? b' = some sh := by
        intro b' sh hs
        by_cases e : b' = b
        · subst e; simp [World.shape?, h4] at hs
        · simp only [World.shape?, hne b' e]; exact hs
      have hd' : DefOK lo S σ st { w with heap := w.heap.setIfInBounds b (.deferred none) } ds := by
        have : ∀ ds : List Deferred, (∀ d' ∈ ds, d'.target ≠ .collected b) → DefOK lo S σ st w ds → DefOK lo S σ st { w with heap := w.heap.setIfInBounds b (.deferred none) } ds := by
          intro ds
          induction ds with
          | nil => intro _ _; trivial
          | cons d ds ih =>
            rintro hne2 ⟨⟨k1, b2, k2, k3, k4, k5, k6, k7⟩, k8⟩
            have hb2 : b2 ≠ b := fun e => hne2 d (by simp) (e ▸ k2)
            exact ⟨⟨k1, b2, k2, k3, by rw [hne b2 hb2]; exact k4, k5, k6, k7⟩, ih (fun d' hd' => hne2 d' (by simp [hd'])) k8⟩
        exact this ds h7 h8
      refine leave_marks ds _ hd' fun w' g1 g2 g3 g4 g5 g6 => h w' (fun b' hb' => ?_) (fun b' sh hs => g2 b' sh (hshape b' sh hs)) g3 g4 g5 (by simpa using g6)
      have hbb : b' ≠ b := by
        rintro rfl
        rcases hb' with hb' | hb' | hb'
        · exact h5 hb'
        · exact h6 hb'
        · omega
      rw [g1 b' hb']
      exact hne b' hbb

/-- What is asked where a body ends. -/
def Post (cx : Cx) (rs : List ResultVar) (K : V → St → Prop) : Exit → Env → St → Prop
  | .normal, env, st => ∃ vs, ResAll cx env st rs vs ∧ K (pack vs) st
  | .ret, env, st => ∃ vs, ResAll cx env st rs vs ∧ K (pack vs) st
  | _, _, _ => False

theorem VCall.of_WP {f : FuncId} {fn : Func} {c : Code} {args : List V} {K : V → St → Prop} (hf : cx.P.funcs[f]? = some fn) (hb : fn.body = some c) (hn : (fn.name == "runtime.NumGoroutine") = false) (hl : args.length ≤ fn.ntmps)
    (h : WP cx fn.ntmps ⟨none, st.length⟩ c (Post cx fn.results.toList K) (argEnv 0 args) st) : VCall cx f args st K := by
  refine ⟨⟨fn, hf, hn, by rw [hb]; rfl⟩, fun S σ w vals h1 h2 h3 => ?_⟩
  refine (callsIn_wide (n := 0)).1 ?_
  refine callsIn_of_wp_marks hf hb trivial ?_ rfl
  have hvl := h1.length
  have hh : Holds cx fn.ntmps w.heap.size S σ (argEnv 0 args) st { tmps := vals.toArray ++ Array.replicate (fn.ntmps - vals.toArray.size) undef, defers := [] } w := by
    refine ⟨by simp; omega, fun t v hv => ?_, h2, h3, trivial, Nat.le_refl _⟩
    obtain ⟨_, g⟩ := look_argEnv args 0 t v hv
    obtain ⟨x, hx, hr⟩ := ((repAll_iff args vals).1 h1).2 _ v g
    simp only [Nat.sub_zero] at hx
    have hlt : t < vals.length := (List.getElem?_eq_some_iff.1 hx).1
    have : (vals.toArray ++ Array.replicate (fn.ntmps - vals.toArray.size) undef).getD t undef = x := by
      rw [Array.getD_eq_getD_getElem?, Array.getElem?_append_left (by simpa using hlt)]
      simp [hx]
    rw [this]; exact hr
  refine Code.wpIn_mono ?_ (h w.heap.size S σ Fence.wide _ w hh (.inr rfl) ⟨fun _ => rfl, fun _ => rfl⟩)
  rintro e a' w' ⟨env', st', S', σ', q, hh', hev⟩
  have hev := hev.full (Nat.le_of_eq h2.len)
  have fin : (∃ vs, ResAll cx env' st' fn.results.toList vs ∧ K (pack vs) st') → LeavesInM Fence.wide 0 cx.P fn a'.tmps (fun e w' => ∃ v r st' S' σ', e = .returned v ∧ K r st' ∧ Rep S' σ' w' r v ∧ StRep S' σ' st' w' ∧ SB cx S' w' ∧ Evo S σ st w S' σ' st' w') a'.defers .returning w' := by
    rintro ⟨vs, hr, hK⟩
    refine leave_marks (lo := w.heap.size) a'.defers w' hh'.dfr fun w2 g1 g2 g3 g4 g5 g6 => ?_
    have hcell : ∀ b o, (S' b ∨ Own σ' st' b) → w2.cell? ⟨b, o, none⟩ = w'.cell? ⟨b, o, none⟩ := fun b o hb => by
      simp only [World.cell?, g1 b (hb.imp id .inl)]
    obtain ⟨x, k1, k2⟩ := run_results hh' hcell hr
    have hsame : Same S' w' w2 := ⟨fun b hS => g1 b (.inl hS), g2⟩
    refine ⟨x, k1, x, pack vs, st', S', σ', rfl, hK, Rep.mono (fun _ h => h) (Le.refl _) hsame _ _ k2, hh'.str.turn (fun b hb => g1 b (hb.imp id .inl)) g2, ⟨fun b hb => by rw [g6]; exact hh'.sb.lt b hb, fun g cs hg => ⟨(hh'.sb.glob g cs hg).1, RepCells.mono (fun _ h => h) (Le.refl _) hsame g (hh'.sb.glob g cs hg).1 0 cs (hh'.sb.glob g cs hg).2⟩⟩, ?_⟩
    exact ⟨g3.trans hev.os, g4.trans hev.tape, g5.trans hev.output, by rw [g6]; exact hev.size, fun b sh hs => g2 b sh (hev.shape b sh hs), fun b hb ho => (g1 b (.inr (.inr hb))).trans (hev.keep b hb ho), hev.sub, hev.new, hev.own, hev.le⟩
  cases e with
  | normal => exact fin q
  | ret => exact fin q
  | exit id => exact q.elim
  | goto id => exact q.elim
  | panic ch => exact q.elim
  | outgrown => exact q.elim

end
end Go.VL
end

/- The value-level program logic, part 11: make; functions as values; slices of slices; copy; the lesser and the greater. -/
section
set_option linter.unusedVariables false
set_option linter.unusedSimpArgs false
namespace Go.VL
open Go

section
variable {cx : Cx} {env : Env} {st : St} {K : Option V → St → Prop}

theorem madeCells_eq {z : Value} {sz : Nat} (hz : z.cells.size = sz) (h0 : 0 < sz) (n : Nat) : (madeCells z.cells (n * sz)) = (List.replicate n z.cells.toList).flatten.toArray := by
  apply Array.ext'
  have := range_zeros z.cells.toList n (by simp; omega)
  simp only [Array.length_toList, hz] at this
  simpa [madeCells, hz] using this

theorem zeros_length (zs : List V) : ∀ n, (zeros n zs).length = n * zs.length
  | 0 => by simp [zeros]
  | n + 1 => by
    have := zeros_length zs n
    simp only [zeros, List.replicate_succ, List.flatten_cons, List.length_append] at this ⊢
    rw [this, Nat.succ_mul]; omega

theorem OpOK.makeSlice {ty t e : TypeId} {x y : Operand} {i ie : TI} {kx ky : IntKind} {n : Int} {z : Value} {zs : List V} (ht : tyi cx.P t = some i) (hk : i.kind = .slice e) (he : tyi cx.P e = some ie) (hsz : 0 < ie.size) (hz : ie.zero = some z) (hzs : ofConsts z.cells.toList = some zs) (hzl : zs.length = ie.size)
    (hx : opnd cx env x = some (.int kx n)) (hy : opnd cx env y = some (.int ky n)) (h0 : 0 ≤ n) (hbig : n ≤ 1000000) (hby : ie.bytes ≤ 1000000) (hK : K (some (.slc st.length 0 0 n.toNat ie.size)) (st ++ [.cells 0 (zeros n.toNat zs)])) : OpOK cx (.makeSlice t x y) ty env st K := by
  intro S σ F N lo o a w hop _ hh hF next Qr hnext
  obtain ⟨d, hu, hd, _⟩ := tyi_under ht
  rw [hk] at hd
  obtain rfl := kind_slice hd
  obtain ⟨inf, hi, hi1, hi2, hi3⟩ := tyi_info he
  have ex := rep_int.1 (hh.opnd hx)
  have ey := rep_int.1 (hh.opnd hy)
  obtain ⟨r1, r2⟩ := ofConsts_rep (S := S) (σ := σ) (w := w) hzs
  have hxl : z.cells.size = ie.size := by have := r1.length; rw [Array.length_toList] at this; omega
  obtain ⟨q1, q2⟩ := zeros_rep r1 r2 n.toNat
  obtain ⟨g1, g2, g3⟩ := alloc1 (cx := cx) hh.str hh.sb q1 q2 e
  have hlen : (zeros n.toNat zs).length = n.toNat * ie.size := by rw [zeros_length, hzl]
  have hb : (inf.bytes : Int) * n ≤ 281474976710656 := by
    obtain ⟨m, rfl⟩ := Int.eq_ofNat_of_zero_le h0
    have h1 : inf.bytes * m ≤ 1000000000000 := Nat.le_trans (Nat.mul_le_mul (show inf.bytes ≤ 1000000 by omega) (show m ≤ 1000000 by omega)) (by decide)
    have h2 : ((inf.bytes * m : Nat) : Int) ≤ ((1000000000000 : Nat) : Int) := Int.ofNat_le.2 h1
    have h3 : ((inf.bytes * m : Nat) : Int) = (inf.bytes : Int) * ((m : Nat) : Int) := Int.natCast_mul _ _
    rw [h3] at h2
    omega
  have hrun := run_make (P := cx.P) w t e inf z hu hi (by rw [hi3, hz]) kx ky n n h0 (Int.le_refl _) hb (by omega)
  rw [hi1, madeCells_eq hxl hsz] at hrun
  refine wpIn_value hF (by rw [hop]; intro c h; cases h) (w' := w.alloc (.cells (List.replicate n.toNat z.cells.toList).flatten.toArray e)) (v := .slice (some ⟨w.heap.size, 0, none⟩) n.toNat n.toNat) ?_
    (hnext _ _ _ S _ _ hK (fun u ee => ?_) g1 g2 g3)
  · simp only [execOp, hop, ex, ey, Sem.run_bind, hrun, Result.andThen_ok, Sem.run_pure]
  · cases ee
    have hs2 : (List.replicate n.toNat z.cells.toList).flatten.toArray.size = n.toNat * ie.size := by have := q1.length; rw [List.size_toArray]; omega
    exact rep_new_slc (s := ⟨w.heap.size, 0, 0, (zeros n.toNat zs).length, false⟩) hh.str rfl rfl rfl hsz (Nat.le_refl _) (sh := (e, n.toNat * ie.size)) (by have := shape_new w (List.replicate n.toNat z.cells.toList).flatten.toArray e; rw [hs2] at this; exact this) (Nat.le_refl _) (by simp only [hlen]; exact Nat.le_refl _)

theorem OpOK.makeFunc {ty : TypeId} {f : Fn} {first caps : Array Operand} {vs : List V} (hf : first = #[]) (hv : opndL cx env caps.toList = some vs) (hK : K (some (.fn f vs)) st) : OpOK cx (.makeFunc f first caps) ty env st K := by
  refine OpOK.pure (by intro c h; cases h) (fun S σ N lo a w o hop _ hh => ?_) hK
  subst hf
  refine ⟨.func f #[] (caps.map a.eval), by simp [execOp, hop, Instr.makeFunc], ?_⟩
  simp only [Rep]
  exact ⟨caps.toList.map a.eval, congrArg (Value.func f #[]) (Array.ext' (by simp)), opndL_rep hh hv⟩

theorem OpOK.makeMap {ty t : TypeId} (hK : K (some (.map st.length)) (st ++ [.map []])) : OpOK cx (.makeMap t none) ty env st K := by
  intro S σ F N lo o a w hop _ hh hF next Qr hnext
  have hp : StRep S (σ ++ [⟨w.heap.size, 0, 0, 0, false⟩]) (st ++ [.map []]) (w.alloc (.map #[] 0)) := by
    refine hh.str.push hh.sb.lt _ _ _ rfl rfl rfl ?_
    simp only [ObRep]
    exact ⟨trivial, fun hS => by have := hh.sb.lt _ hS; omega, #[], 0, heap_new _ _, by simp [RepEnts], by simp, by simp, by simp⟩
  refine wpIn_value hF (by rw [hop]; intro c h; cases h) (w' := w.alloc (.map #[] 0)) (v := .map (some w.heap.size)) ?_ (hnext _ _ _ S _ _ hK (fun u ee => ?_) hp (hh.sb.push _) (Evo.push hh.str _ _ _ rfl))
  · simp [execOp, hop, Instr.makeMap]
  · cases ee
    simp only [Rep]
    exact ⟨⟨_, rfl⟩, _, slot_new hh.str _, fun _ => rfl⟩

/-! ### A slice of a slice -/
theorem run_bounds {P : Program} {w : World} {isS : Bool} {n cap : Nat} {l h : Option Int} (a b : Int) (hl : a = l.getD 0) (hh : b = h.getD n) (h0 : 0 ≤ a) (h1 : a ≤ b) (h2 : b ≤ cap) (k : IntKind) (hn : n ≤ cap) :
    (Instr.sliceBounds isS n cap (l.map (Value.int k)) (h.map (Value.int k)) none).run P w = .ok (a.toNat, b.toNat, cap) w := by
  subst hl hh
  cases l <;> cases h <;> simp only [Option.getD_none, Option.getD_some, Option.map_none, Option.map_some] at h0 h1 h2 ⊢ <;>
    simp only [Instr.sliceBounds, Sem.run_bind, Sem.run_pure, Result.andThen_ok, Instr.sliceBound, asIntOf] <;> (try rw [if_pos ⟨by omega, by omega⟩]) <;> (try simp only [Sem.run_pure, Result.andThen_ok]) <;> (try rw [if_pos ⟨by omega, by omega⟩]) <;> simp

/-- A bound that is there, or not. -/
def bound (cx : Cx) (env : Env) : Option Operand → Option (Option Int)
  | none => some none
  | some x => match opnd cx env x with
    | some (.int .i64 n) => some (some n)
    | _ => none

theorem bound_spec {N lo : Nat} {S : Nat → Prop} {σ : List Slot} {a : Act} {w : World} (h : Holds cx N lo S σ env st a w) {x : Option Operand} {l : Option Int} (hb : bound cx env x = some l) : x.map a.eval = l.map (Value.int .i64) := by
  cases x with
  | none => cases hb; rfl
  | some x =>
    simp only [bound] at hb
    split at hb
    · rename_i n hx
      cases hb
      simp [rep_int.1 (h.opnd hx)]
    · cases hb

theorem OpOK.sliceL {ty t e : TypeId} {x : Operand} {lo hi : Option Operand} {i ie : TI} {sz n : Nat} {cs : List V} {l h : Option Int} (ht : tyi cx.P t = some i) (hk : i.kind = .slice e) (he : tyi cx.P e = some ie) (hs : ie.size = sz)
    (hx : opnd cx env x = some (.lst sz cs)) (hn : cs.length = n * sz) (hl : bound cx env lo = some l) (hh' : bound cx env hi = some h) (h0 : 0 ≤ l.getD 0) (h1 : l.getD 0 ≤ h.getD n) (h2 : h.getD n ≤ n)
    (hK : K (some (.lst sz ((cs.drop ((l.getD 0).toNat * sz)).take (((h.getD n).toNat - (l.getD 0).toNat) * sz)))) st) : OpOK cx (.slice t x lo hi none) ty env st K := by
  refine OpOK.pure (by intro c h; cases h) (fun S σ N lo' a w o hop _ hh => ?_) hK
  obtain ⟨d, hu, hd, _⟩ := tyi_under ht
  rw [hk] at hd
  obtain rfl := kind_slice hd
  have hr := hh.opnd hx
  simp only [Rep] at hr
  obtain ⟨A, m, cap, ex, hc, hlen, hz, hcs⟩ := hr
  have hmn : m = n := Nat.eq_of_mul_eq_mul_right hz (by omega)
  subst hmn
  have e1 := bound_spec hh hl
  have e2 := bound_spec hh hh'
  have hb := run_bounds (P := cx.P) (w := w) (isS := true) (n := m) (cap := cap) (l := l) (h := h) _ _ rfl rfl h0 h1 (by omega) .i64 hc
  refine ⟨.slice (if cap = (l.getD 0).toNat then A else A.map (·.add ((l.getD 0).toNat * sz))) ((h.getD m).toNat - (l.getD 0).toNat) (cap - (l.getD 0).toNat), ?_, ?_⟩
  · simp only [execOp, hop, ex, e1, e2, Option.map_none, Instr.sliceAt, Instr.slice, Sem.run_bind, run_under hu, Result.andThen_ok, hb, run_sizeOf (tyi_size he), Sem.run_pure, hs]
  · simp only [Rep]
    refine ⟨_, _, _, rfl, by omega, ?_, hz, fun hlt => ?_⟩
    · simp only [List.length_take, List.length_drop, hlen, ← Nat.sub_mul]
      have : ((h.getD m).toNat - (l.getD 0).toNat) * sz ≤ (m - (l.getD 0).toNat) * sz := Nat.mul_le_mul_right _ (by omega)
      omega
    · obtain ⟨b, o', rfl, hS, hcells⟩ := hcs (by omega)
      rw [if_neg (by omega)]
      exact ⟨b, o' + (l.getD 0).toNat * sz, by simp [addr_add], hS, hcells.part _ _⟩

theorem OpOK.sliceS {ty t e : TypeId} {x : Operand} {lo hi : Option Operand} {i ie : TI} {id ver off n sz : Nat} {ob : Ob} {cs : List V} {l h : Option Int} (ht : tyi cx.P t = some i) (hk : i.kind = .slice e) (he : tyi cx.P e = some ie) (hs : ie.size = sz)
    (hx : opnd cx env x = some (.slc id ver off n sz)) (ho : st[id]? = some ob) (hc : ob.read ver = some cs) (hl : bound cx env lo = some l) (hh' : bound cx env hi = some h) (h0 : 0 ≤ l.getD 0) (h1 : l.getD 0 ≤ h.getD n) (h2 : h.getD n ≤ n) (hlt : l.getD 0 < n ∨ l.getD 0 = 0)
    (hK : K (some (.slc id ver (off + (l.getD 0).toNat * sz) ((h.getD n).toNat - (l.getD 0).toNat) sz)) st) : OpOK cx (.slice t x lo hi none) ty env st K := by
  refine OpOK.pure (by intro c h; cases h) (fun S σ N lo' a w o hop _ hh => ?_) hK
  obtain ⟨d, hu, hd, _⟩ := tyi_under ht
  rw [hk] at hd
  obtain rfl := kind_slice hd
  obtain ⟨s, q1, q2, _, q3⟩ := hh.str.read ho hc
  have hr := hh.opnd hx
  simp only [Rep] at hr
  obtain ⟨_, s', f1, f2, f3⟩ := hr
  rw [q1] at f1; cases f1
  obtain ⟨hz, hcase⟩ := f3 q2.symm
  have e1 := bound_spec hh hl
  have e2 := bound_spec hh hh'
  rcases hcase with ⟨rfl, hnil, A, ex⟩ | ⟨hnil, cap, sh, ex, hcap, hsh, hr1, hr2⟩
  · have hb := run_bounds (P := cx.P) (w := w) (isS := true) (n := 0) (cap := 0) (l := l) (h := h) _ _ rfl rfl h0 h1 (by omega) .i64 (Nat.le_refl _)
    refine ⟨.slice (if 0 = (l.getD 0).toNat then A else A.map (·.add ((l.getD 0).toNat * sz))) ((h.getD (0 : Nat)).toNat - (l.getD 0).toNat) (0 - (l.getD 0).toNat), ?_, ?_⟩
    · simp only [execOp, hop, ex, e1, e2, Option.map_none, Instr.sliceAt, Instr.slice, Sem.run_bind, run_under hu, Result.andThen_ok, hb, run_sizeOf (tyi_size he), Sem.run_pure, hs]
    · have z1 : (h.getD (0 : Nat)).toNat - (l.getD 0).toNat = 0 := by omega
      simp only [Rep, z1]
      refine ⟨⟨_, _, _, rfl⟩, s, q1, f2, fun _ => ⟨hz, .inl ⟨trivial, hnil, A, ?_⟩⟩⟩
      have z2 : (l.getD 0).toNat = 0 := by
        rcases hlt with h' | h' <;> simp only [Int.natCast_zero, Int.ofNat_zero] at * <;> omega
      simp [z2]
  have hb := run_bounds (P := cx.P) (w := w) (isS := true) (n := n) (cap := cap) (l := l) (h := h) _ _ rfl rfl h0 h1 (by omega) .i64 hcap
  refine ⟨.slice (if cap = (l.getD 0).toNat then some ⟨s.b, s.o + off, none⟩ else (some (⟨s.b, s.o + off, none⟩ : Addr)).map (·.add ((l.getD 0).toNat * sz))) ((h.getD n).toNat - (l.getD 0).toNat) (cap - (l.getD 0).toNat), ?_, ?_⟩
  · simp only [execOp, hop, ex, e1, e2, Option.map_none, Instr.sliceAt, Instr.slice, Sem.run_bind, run_under hu, Result.andThen_ok, hb, run_sizeOf (tyi_size he), Sem.run_pure, hs]
  · simp only [Rep]
    refine ⟨⟨_, _, _, rfl⟩, s, q1, f2, fun _ => ⟨hz, .inr ⟨hnil, cap - (l.getD 0).toNat, sh, ?_, by omega, hsh, ?_, ?_⟩⟩⟩
    · by_cases e : cap = (l.getD 0).toNat
      · rw [if_pos e]
        have : (l.getD 0).toNat = 0 := by omega
        simp [this]
      · rw [if_neg e]; simp [addr_add, Nat.add_assoc]
    · have h3 : (l.getD 0).toNat * sz ≤ cap * sz := Nat.mul_le_mul_right _ (by omega)
      rw [Nat.sub_mul]; omega
    · have h3 : (l.getD 0).toNat * sz ≤ cap * sz := Nat.mul_le_mul_right _ (by omega)
      rw [Nat.sub_mul]; omega

/-- The lesser, the greater of two integers. -/
theorem OpOK.min2 {ty : TypeId} {ts : Array TypeId} {x y : Operand} {k j : IntKind} {a b : Int} (hx : opnd cx env x = some (.int k a)) (hy : opnd cx env y = some (.int j b)) (hK : K (some (.int k (if b < a then b else a))) st) : OpOK cx (bcall .min #[x, y] ts) ty env st K := by
  refine OpOK.pure (by intro c h; cases h) (fun S σ N lo ac w o hop _ hh => ?_) hK
  have ex := rep_int.1 (hh.opnd hx)
  have ey := rep_int.1 (hh.opnd hy)
  refine ⟨.int k (if b < a then b else a), ?_, by simp [Rep]⟩
  rw [run_bcall hop]
  simp [builtin, Builtin.min_, Builtin.min2, ex, ey]

theorem OpOK.max2 {ty : TypeId} {ts : Array TypeId} {x y : Operand} {k j : IntKind} {a b : Int} (hx : opnd cx env x = some (.int k a)) (hy : opnd cx env y = some (.int j b)) (hK : K (some (.int k (if b > a then b else a))) st) : OpOK cx (bcall .max #[x, y] ts) ty env st K := by
  refine OpOK.pure (by intro c h; cases h) (fun S σ N lo ac w o hop _ hh => ?_) hK
  have ex := rep_int.1 (hh.opnd hx)
  have ey := rep_int.1 (hh.opnd hy)
  refine ⟨.int k (if b > a then b else a), ?_, by simp [Rep]⟩
  rw [run_bcall hop]
  simp [builtin, Builtin.max_, Builtin.max2, ex, ey]

end
end Go.VL
end

/- The value-level program logic: maps. -/
section
set_option linter.unusedVariables false
set_option linter.unusedSimpArgs false
namespace Go.VL
open Go

theorem Key.value_inj : ∀ {x y : Key}, x.value = y.value → x = y := by
  intro x y h
  cases x <;> cases y <;> simp only [Key.value] at h <;> first | (cases h; done) | skip
  · cases h; rfl
  · cases h; rfl
  · rename_i l m
    have e : l.map (fun p => Value.int p.1 p.2) = m.map (fun p => Value.int p.1 p.2) := by
      have := (Value.agg.inj h)
      simpa using this
    congr 1
    clear h
    induction l generalizing m with
    | nil => cases m with
      | nil => rfl
      | cons a m => simp at e
    | cons a l ih => cases m with
      | nil => simp at e
      | cons b m =>
        simp only [List.map_cons, List.cons.injEq, Value.int.injEq] at e
        obtain ⟨⟨h1, h2⟩, h3⟩ := e
        rw [ih m h3]
        congr 1
        exact Prod.ext h1 h2

/-- What is asked of the keys of a map's type. -/
structure KeyT (P : Program) (k : TypeId) (ok : Key → Prop) : Prop where
  check : ∀ (w : World) (em : Bool) {x : Key}, ok x → (Instr.checkKey em 10000 k x.value).run P w = .ok () w
  find : ∀ (w : World) {x : Key}, ok x → ∀ es : List MapEntry, (∀ e ∈ es, ∃ y, ok y ∧ e.key = Key.value y) →
    ((Instr.findKey k x.value es).run P w = .ok none w ∧ ∀ e ∈ es, e.key ≠ x.value) ∨ ∃ (j : Nat) (e : MapEntry), (Instr.findKey k x.value es).run P w = .ok (some (j, e.val)) w ∧ es[j]? = some e ∧ e.key = x.value
  stays : ∀ (w : World) {x : Key}, ok x → (Instr.keyThatStays x.value x.value).run P w = .ok x.value w

def wideT (P : Program) (k : TypeId) : Bool := match P.underlying k with | some (.array _ _) | some (.struct _) => true | _ => false

/-- The types of keys that are covered. -/
def kgood (P : Program) (k : TypeId) : Bool := match P.underlying k with
  | some (.int _) | some .string => true
  | _ => P.keyTypeAt 3 k && P.tiled 3 k && wideT P k

def okKey (P : Program) (k : TypeId) (x : Key) : Prop := match P.underlying k, x with
  | some (.int j), .int j' _ => j' = j
  | some .string, .str _ => True
  | some (.int _), _ => False
  | some .string, _ => False
  | _, x => ∃ l, keyOf P k x.value = some l

theorem kgood_spec {P : Program} {k : TypeId} (h : kgood P k = true) : KeyT P k (okKey P k) := by
  cases hu : P.underlying k with
  | none => simp [kgood, hu, wideT] at h
  | some d =>
    have simple : (∀ x : Key, okKey P k x → MapKept.IsKey d x.value) → KeyT P k (okKey P k) := by
      intro hk
      refine ⟨fun w em x hx => MapKept.run_checkKey hu (hk x hx) em 9999, fun w x hx es hes => ?_, fun w x hx => MapKept.run_keyThatStays (hk x hx)⟩
      rcases MapKept.findNow_spec (hk x hx) es 0 (fun e he => by obtain ⟨y, hy, ey⟩ := hes e he; rw [ey]; exact hk y hy) with ⟨h1, h2⟩ | ⟨j, e, h1, h2, h3⟩
      · exact .inl ⟨MapKept.run_findKey hu h1, h2⟩
      · exact .inr ⟨j, e, by simpa using MapKept.run_findKey (w := w) hu h1, h2, h3⟩
    have wide : wideT P k = true → P.keyTypeAt 3 k = true → P.tiled 3 k = true → (∀ x, okKey P k x → ∃ l, keyOf P k x.value = some l) → KeyT P k (okKey P k) := by
      intro hw h1 h2 hk
      have law := Go.deep_law (P := P) (m := 3) (by omega) h1 h2 (by unfold wideT at hw; cases hu2 : P.underlying k with | none => simp [hu2] at hw | some d2 => cases d2 <;> simp [hu2] at hw ⊢)
      refine ⟨fun w em x hx => by obtain ⟨l, hl⟩ := hk x hx; exact law.check w em hl, fun w x hx es hes => ?_, fun w x hx => by obtain ⟨l, hl⟩ := hk x hx; exact law.stays w hl⟩
      obtain ⟨l, hl⟩ := hk x hx
      exact law.find w hl es (fun e he => by obtain ⟨y, hy, ey⟩ := hes e he; rw [ey]; exact hk y hy)
    cases d
    case int j =>
      refine simple fun x hx => ?_
      simp only [okKey, hu] at hx
      cases x <;> simp_all [MapKept.IsKey, Key.value]
    case string =>
      refine simple fun x hx => ?_
      simp only [okKey, hu] at hx
      cases x <;> simp_all [MapKept.IsKey, Key.value]
    all_goals
      simp only [kgood, hu, Bool.and_eq_true] at h
      exact wide h.2 h.1.1 h.1.2 (fun x hx => by simpa only [okKey, hu] using hx)


def intsOf : List V → Option (List (IntKind × Int))
  | [] => some []
  | .int k n :: r => (intsOf r).map ((k, n) :: ·)
  | _ => none

/-- A value as a key. -/
def keyV : V → Option Key
  | .int k n => some (.int k n)
  | .str s => some (.str s)
  | .agg cs => (intsOf cs).map .cells
  | _ => none

theorem intsOf_map (l : List (IntKind × Int)) : intsOf (l.map fun p => V.int p.1 p.2) = some l := by
  induction l with
  | nil => rfl
  | cons p l ih => simp [intsOf, ih]

theorem intsOf_rep {S : Nat → Prop} {σ : List Slot} {w : World} : ∀ {cs : List V} {l : List (IntKind × Int)} {vs : List Value}, intsOf cs = some l → RepAll S σ w cs vs → vs = l.map fun p => Value.int p.1 p.2
  | [], l, vs, h, hr => by cases h; simpa [RepAll] using hr
  | c :: cs, l, vs, h, hr => by
    cases c <;> simp only [intsOf] at h <;> try cases h
    simp only [Option.map_eq_some_iff] at h
    obtain ⟨l', h1, rfl⟩ := h
    simp only [RepAll, Rep] at hr
    obtain ⟨x, xs, rfl, rfl, h3⟩ := hr
    rw [intsOf_rep h1 h3]
    rfl

theorem keyV_rep {S : Nat → Prop} {σ : List Slot} {w : World} {v : V} {x : Value} {k : Key} (h : keyV v = some k) (hr : Rep S σ w v x) : x = k.value := by
  cases v <;> simp only [keyV] at h <;> try cases h
  case int => simpa [Rep, Key.value] using hr
  case str => simpa [Rep, Key.value] using hr
  case agg cs =>
    simp only [Option.map_eq_some_iff] at h
    obtain ⟨l, h1, rfl⟩ := h
    simp only [Rep] at hr
    obtain ⟨vs, rfl, _, hr⟩ := hr
    rw [intsOf_rep h1 hr]; rfl

/-- The zero value of a map's elements. -/
def zv (P : Program) (t : TypeId) : Option V := ((tyi P t).bind (·.zero)).bind fun z => match z with
  | .agg cs => (ofConsts cs.toList).map .agg
  | z => ofConst z

theorem zv_spec {P : Program} {t : TypeId} {v : V} (h : zv P t = some v) : ∃ z, zeroIs P t z ∧ ∀ S σ w, Rep S σ w v z := by
  simp only [zv, Option.bind_eq_some_iff] at h
  obtain ⟨z, ⟨i, h1, h2⟩, h3⟩ := h
  refine ⟨z, tyi_zero h1 h2, fun S σ w => ?_⟩
  split at h3
  · rename_i cs
    simp only [Option.map_eq_some_iff] at h3
    obtain ⟨vs, h4, rfl⟩ := h3
    obtain ⟨h5, h6⟩ := ofConsts_rep (S := S) (σ := σ) (w := w) h4
    simp only [Rep]
    exact ⟨cs.toList, by simp, h6, h5⟩
  · exact ofConst_rep h3

theorem RepEnts.get {S : Nat → Prop} {σ : List Slot} {w : World} : ∀ {es : List (Key × V)} {ents : List MapEntry}, RepEnts S σ w es ents → ents.length = es.length ∧ ∀ (j : Nat) (e : MapEntry), ents[j]? = some e → ∃ p, es[j]? = some p ∧ e.key = p.1.value ∧ Rep S σ w p.2 e.val
  | [], ents, h => by simp only [RepEnts] at h; subst h; simp
  | (k, v) :: r, ents, h => by
    simp only [RepEnts] at h
    obtain ⟨e, t, rfl, h1, h2, h3⟩ := h
    obtain ⟨h4, h5⟩ := RepEnts.get h3
    refine ⟨by simp [h4], fun j e' he => ?_⟩
    cases j with
    | zero => simp at he; subst he; exact ⟨(k, v), rfl, h1, h2⟩
    | succ j => simpa using h5 j e' (by simpa using he)

theorem RepEnts.push {S : Nat → Prop} {σ : List Slot} {w : World} {e : MapEntry} {k : Key} {v : V} (he : e.key = k.value) (hv : Rep S σ w v e.val) : ∀ {es : List (Key × V)} {ents : List MapEntry}, RepEnts S σ w es ents → RepEnts S σ w (es ++ [(k, v)]) (ents ++ [e])
  | [], ents, h => by simp only [RepEnts] at h; subst h; exact ⟨e, [], rfl, he, hv, rfl⟩
  | (k', v') :: r, ents, h => by
    simp only [RepEnts, List.cons_append] at h ⊢
    obtain ⟨e', t, rfl, h1, h2, h3⟩ := h
    exact ⟨e', t ++ [e], rfl, h1, h2, RepEnts.push he hv h3⟩

theorem RepEnts.set {S : Nat → Prop} {σ : List Slot} {w : World} {f : MapEntry → MapEntry} {k : Key} {v : V} (he : ∀ e, (f e).key = k.value) (hv : ∀ e, Rep S σ w v (f e).val) : ∀ {es : List (Key × V)} {ents : List MapEntry} {j : Nat}, RepEnts S σ w es ents → RepEnts S σ w (es.set j (k, v)) (ents.modify j f)
  | [], ents, j, h => by simp only [RepEnts] at h; subst h; cases j <;> rfl
  | (k', v') :: r, ents, 0, h => by
    simp only [RepEnts] at h
    obtain ⟨e', t, rfl, h1, h2, h3⟩ := h
    exact ⟨f e', t, rfl, he _, hv _, h3⟩
  | (k', v') :: r, ents, j + 1, h => by
    simp only [RepEnts] at h
    obtain ⟨e', t, rfl, h1, h2, h3⟩ := h
    exact ⟨e', t.modify j f, rfl, h1, h2, RepEnts.set he hv h3⟩

theorem RepEnts.mono {S S' : Nat → Prop} {σ σ' : List Slot} {w w' : World} (hS : ∀ b, S b → S' b) (hσ : Le σ σ') (hw : Same S w w') : ∀ {es : List (Key × V)} {ents : List MapEntry}, RepEnts S σ w es ents → RepEnts S' σ' w' es ents
  | [], ents, h => by simpa [RepEnts] using h
  | (k, v) :: r, ents, h => by
    simp only [RepEnts] at h ⊢
    obtain ⟨e, t, rfl, h1, h2, h3⟩ := h
    exact ⟨e, t, rfl, h1, Rep.mono hS hσ hw _ _ h2, RepEnts.mono hS hσ hw h3⟩

/-- A value is put under a key. -/
def putK : List (Key × V) → Key → V → List (Key × V)
  | [], k, v => [(k, v)]
  | (k', v') :: r, k, v => if k' = k then (k, v) :: r else (k', v') :: putK r k v

/-- The place of a key, or the length. -/
def idxK : List (Key × V) → Key → Nat
  | [], _ => 0
  | (k', _) :: r, k => if k' = k then 0 else idxK r k + 1

def lookK : List (Key × V) → Key → Option V
  | [], _ => none
  | (k', v) :: r, k => if k' = k then some v else lookK r k

theorem lookK_none {es : List (Key × V)} {k : Key} (h : ∀ p ∈ es, p.1 ≠ k) : lookK es k = none ∧ idxK es k = es.length ∧ ∀ v, putK es k v = es ++ [(k, v)] := by
  induction es with
  | nil => exact ⟨rfl, rfl, fun _ => rfl⟩
  | cons p r ih =>
    obtain ⟨k', v'⟩ := p
    have h1 := h (k', v') (by simp)
    obtain ⟨i1, i2, i3⟩ := ih (fun p hp => h p (by simp [hp]))
    refine ⟨by simp only [lookK]; rw [if_neg h1]; exact i1, by simp only [idxK]; rw [if_neg h1, i2]; rfl, fun v => by simp only [putK]; rw [if_neg h1, i3]; rfl⟩

theorem lookK_at {es : List (Key × V)} {k : Key} (hn : (es.map Prod.fst).Nodup) {j : Nat} {v : V} (h : es[j]? = some (k, v)) : lookK es k = some v ∧ idxK es k = j ∧ ∀ u, putK es k u = es.set j (k, u) := by
  induction es generalizing j with
  | nil => simp at h
  | cons p r ih =>
    obtain ⟨k', v'⟩ := p
    simp only [List.map_cons, List.nodup_cons] at hn
    cases j with
    | zero =>
      simp at h
      obtain ⟨rfl, rfl⟩ := h
      exact ⟨by simp [lookK], by simp [idxK], fun u => by simp [putK]⟩
    | succ j =>
      have h' : r[j]? = some (k, v) := by simpa using h
      have hne : k' ≠ k := fun e => hn.1 (by rw [e]; exact List.mem_map.2 ⟨(k, v), List.mem_of_getElem? h', rfl⟩)
      obtain ⟨i1, i2, i3⟩ := ih hn.2 h'
      exact ⟨by simp only [lookK]; rw [if_neg hne]; exact i1, by simp only [idxK]; rw [if_neg hne, i2], fun u => by simp only [putK]; rw [if_neg hne, i3]; rfl⟩

theorem lookK_putK (es : List (Key × V)) (k : Key) (v : V) : lookK (putK es k v) k = some v := by
  induction es with
  | nil => simp [putK, lookK]
  | cons p r ih =>
    obtain ⟨k', v'⟩ := p
    simp only [putK]
    split
    · simp [lookK]
    · rename_i h; simp only [lookK]; rw [if_neg h]; exact ih

theorem get_putK (es : List (Key × V)) (k : Key) (v : V) : (putK es k v)[idxK es k]? = some (k, v) := by
  induction es with
  | nil => simp [putK, idxK]
  | cons p r ih =>
    obtain ⟨k', v'⟩ := p
    simp only [putK, idxK]
    split
    · simp
    · simpa using ih

theorem idx_putK (es : List (Key × V)) (k : Key) (v : V) : idxK es k < (putK es k v).length := (List.getElem?_eq_some_iff.1 (get_putK es k v)).1

theorem set_putK (es : List (Key × V)) (k : Key) (u v : V) : (putK es k u).set (idxK es k) (k, v) = putK es k v := by
  induction es with
  | nil => simp [putK, idxK]
  | cons p r ih =>
    obtain ⟨k', v'⟩ := p
    simp only [putK, idxK]
    split
    · simp
    · simpa using ih

theorem mem_putK {es : List (Key × V)} {k : Key} {v : V} {p : Key × V} (h : p ∈ putK es k v) : p ∈ es ∨ p = (k, v) := by
  induction es with
  | nil => simp [putK] at h; exact .inr h
  | cons q r ih =>
    obtain ⟨k', v'⟩ := q
    simp only [putK] at h
    split at h
    · rcases List.mem_cons.1 h with h | h
      · exact .inr h
      · exact .inl (List.mem_cons_of_mem _ h)
    · rcases List.mem_cons.1 h with h | h
      · exact .inl (by rw [h]; exact List.mem_cons_self)
      · rcases ih h with h | h
        · exact .inl (List.mem_cons_of_mem _ h)
        · exact .inr h

section
variable {cx : Cx} {env : Env} {st : St} {K : Option V → St → Prop}

/-- What the model finds under a key. -/
theorem find_spec {S : Nat → Prop} {σ : List Slot} {w : World} {P : Program} {kt : TypeId} {es : List (Key × V)} {ents : Array MapEntry} {k : Key} (hg : kgood P kt = true) (hr : RepEnts S σ w es ents.toList) (hn : (es.map Prod.fst).Nodup) (hes : ∀ p ∈ es, okKey P kt p.1) (hk : okKey P kt k) :
    ((Instr.findKey kt k.value ents.toList).run P w = .ok none w ∧ lookK es k = none ∧ idxK es k = ents.size ∧ (∀ v, putK es k v = es ++ [(k, v)]) ∧ ∀ p ∈ es, p.1 ≠ k) ∨
    ∃ (j : Nat) (e : MapEntry) (v : V), (Instr.findKey kt k.value ents.toList).run P w = .ok (some (j, e.val)) w ∧ ents[j]? = some e ∧ e.key = k.value ∧ Rep S σ w v e.val ∧ lookK es k = some v ∧ idxK es k = j ∧ (∀ u, putK es k u = es.set j (k, u)) ∧ es[j]? = some (k, v) := by
  obtain ⟨hl, hget⟩ := hr.get
  have hall : ∀ e ∈ ents.toList, ∃ y, okKey P kt y ∧ e.key = Key.value y := by
    intro e he
    obtain ⟨j, hj⟩ := List.getElem?_of_mem he
    obtain ⟨p, hp, h1, _⟩ := hget j e hj
    exact ⟨p.1, hes p (List.mem_of_getElem? hp), h1⟩
  rcases (kgood_spec hg).find w hk ents.toList hall with ⟨h1, h2⟩ | ⟨j, e, h1, h2, h3⟩
  · have hno : ∀ p ∈ es, p.1 ≠ k := by
      intro p hp e
      obtain ⟨j, hj⟩ := List.getElem?_of_mem hp
      have hlt : j < ents.toList.length := by rw [hl]; exact (List.getElem?_eq_some_iff.1 hj).1
      obtain ⟨q, hq, g1, _⟩ := hget j _ (List.getElem?_eq_getElem hlt)
      rw [hj] at hq; cases hq
      exact h2 _ (List.getElem_mem hlt) (by rw [g1, e])
    obtain ⟨i1, i2, i3⟩ := lookK_none hno
    exact .inl ⟨h1, i1, by rw [i2]; simpa using hl.symm, i3, hno⟩
  · obtain ⟨p, hp, g1, g2⟩ := hget j e h2
    have : p.1 = k := Key.value_inj (by rw [← g1, h3])
    obtain ⟨pk, pv⟩ := p
    simp only at this; subst this
    obtain ⟨i1, i2, i3⟩ := lookK_at hn hp
    exact .inr ⟨j, e, pv, h1, by simpa using h2, h3, g2, i1, i2, i3, hp⟩

/-- A map's block is turned. -/
theorem map_set {S : Nat → Prop} {σ : List Slot} {w : World} (h : StRep S σ st w) (hsb : SB cx S w) {id : Nat} {es es' : List (Key × V)} {s : Slot} (ho : st[id]? = some (.map es)) (hs : σ[id]? = some s) {ents ents' : Array MapEntry} {clock : Nat} (hb : w.heap[s.b]? = some (.map ents clock))
    (hR : RepEnts S σ w es' ents'.toList) (hborn : ents'.toList.map (·.born) = List.range ents'.size) (hnd : (es'.map Prod.fst).Nodup) :
    StRep S σ (st.set id (.map es')) { w with heap := w.heap.setIfInBounds s.b (.map ents' ents'.size) } ∧ SB cx S { w with heap := w.heap.setIfInBounds s.b (.map ents' ents'.size) } ∧
    Evo S σ st w S σ (st.set id (.map es')) { w with heap := w.heap.setIfInBounds s.b (.map ents' ents'.size) } := by
  have hob := h.ob id _ s ho hs
  simp only [ObRep] at hob
  obtain ⟨hver, hS, _⟩ := hob
  have hlt : s.b < w.heap.size := (Array.getElem?_eq_some_iff.1 hb).1
  have hother : ∀ b, b ≠ s.b → (w.heap.setIfInBounds s.b (.map ents' ents'.size))[b]? = w.heap[b]? := fun b e => Array.getElem?_setIfInBounds_ne (Ne.symm e)
  have hshape : ∀ b sh, w.shape? b = some sh → ({ w with heap := w.heap.setIfInBounds s.b (.map ents' ents'.size) } : World).shape? b = some sh := by
    intro b sh hsh
    by_cases e : b = s.b
    · subst e; simp [World.shape?, hb] at hsh
    · simp only [World.shape?, hother b e]; exact hsh
  have same : Same S w { w with heap := w.heap.setIfInBounds s.b (.map ents' ents'.size) } := ⟨fun b hSb => hother b (fun e => hS (e ▸ hSb)), hshape⟩
  have ev : Evo S σ st w S σ (st.set id (.map es')) { w with heap := w.heap.setIfInBounds s.b (.map ents' ents'.size) } := Evo.update ho hs rfl rfl rfl rfl (by simp) hshape (fun b _ => hother b)
  refine ⟨h.update ho hs rfl same hother (fun _ _ e => by cases e) ?_, ev.sb h hsb (fun b hSb => by simpa using hsb.lt b hSb), ev⟩
  simp only [ObRep]
  exact ⟨hver, hS, ents', ents'.size, by simp [hlt], hR.mono (fun _ h => h) (Le.refl _) same, rfl, hborn, hnd⟩

theorem map_block {S : Nat → Prop} {σ : List Slot} {w : World} (h : StRep S σ st w) {id : Nat} {es : List (Key × V)} (ho : st[id]? = some (.map es)) {x : Value} (hr : Rep S σ w (.map id) x) :
    ∃ s ents, x = .map (some s.b) ∧ σ[id]? = some s ∧ w.heap[s.b]? = some (.map ents ents.size) ∧ RepEnts S σ w es ents.toList ∧ ents.toList.map (·.born) = List.range ents.size ∧ (es.map Prod.fst).Nodup := by
  simp only [Rep] at hr
  obtain ⟨_, s, f1, f2⟩ := hr
  have hob := h.ob id _ s ho f1
  simp only [ObRep] at hob
  obtain ⟨hver, hS, ents, clock, hb, hR, rfl, hborn, hnd⟩ := hob
  exact ⟨s, ents, f2 hver, f1, hb, hR, hborn, hnd⟩


theorem OpOK.lookup {ty t : TypeId} {x y : Operand} {ok : Bool} {i : TI} {kt et : TypeId} {id : Nat} {kv z : V} {k : Key} {es : List (Key × V)} (ht : tyi cx.P t = some i) (hi : i.kind = .map kt et) (hx : opnd cx env x = some (.map id)) (hy : opnd cx env y = some kv) (hk : keyV kv = some k)
    (hg : kgood cx.P kt = true) (hz : zv cx.P et = some z) (ho : st[id]? = some (.map es)) (hes : ∀ p ∈ es, okKey cx.P kt p.1) (hok : okKey cx.P kt k)
    (hK : K (some (if ok then .tup [(lookK es k).getD z, .bool (lookK es k).isSome] else (lookK es k).getD z)) st) : OpOK cx (.lookup t x y ok) ty env st K := by
  refine OpOK.pure (by intro c h; cases h) (fun S σ N lo a w o hop _ hh => ?_) hK
  obtain ⟨d, hu, hd, _⟩ := tyi_under ht
  rw [hi] at hd
  obtain rfl := kind_map hd
  obtain ⟨s, ents, ex, f1, hb, hR, hborn, hnd⟩ := map_block hh.str ho (hh.opnd hx)
  have ey := keyV_rep hk (hh.opnd hy)
  obtain ⟨zval, hz1, hz2⟩ := zv_spec hz
  have chk := (kgood_spec hg).check w ents.isEmpty hok
  rcases find_spec (P := cx.P) hg hR hnd hes hok with ⟨h1, h2, _⟩ | ⟨j, e, v, h1, h2, h3, h4, h5, _⟩
  · rw [h2]
    cases ok with
    | true =>
      refine ⟨.tuple #[zval, .bool false], ?_, ?_⟩
      · simp [execOp, hop, Instr.lookup, run_under hu, ex, ey, MapKept.run_getObj_map hb, chk, h1, run_zeroValue hz1]
      · simp only [if_true, Rep, Option.getD_none, Option.isSome_none]
        exact ⟨[zval, .bool false], rfl, zval, _, rfl, hz2 _ _ _, by simp [RepAll, Rep]⟩
    | false =>
      refine ⟨zval, ?_, ?_⟩
      · simp [execOp, hop, Instr.lookup, run_under hu, ex, ey, MapKept.run_getObj_map hb, chk, h1, run_zeroValue hz1]
      · exact hz2 _ _ _
  · rw [h5]
    cases ok with
    | true =>
      refine ⟨.tuple #[e.val, .bool true], ?_, ?_⟩
      · simp [execOp, hop, Instr.lookup, run_under hu, ex, ey, MapKept.run_getObj_map hb, chk, h1]
      · simp only [if_true, Rep, Option.getD_some, Option.isSome_some]
        exact ⟨[e.val, .bool true], rfl, e.val, _, rfl, h4, by simp [RepAll, Rep]⟩
    | false =>
      refine ⟨e.val, ?_, h4⟩
      simp [execOp, hop, Instr.lookup, run_under hu, ex, ey, MapKept.run_getObj_map hb, chk, h1]

theorem born_push {ents : Array MapEntry} {e : MapEntry} (h : ents.toList.map (·.born) = List.range ents.size) (he : e.born = ents.size) : (ents.push e).toList.map (·.born) = List.range (ents.push e).size := by
  simp [h, he, List.range_succ]

theorem born_modify {ents : Array MapEntry} {j : Nat} {f : MapEntry → MapEntry} (h : ents.toList.map (·.born) = List.range ents.size) (hf : ∀ e, (f e).born = e.born) : (ents.modify j f).toList.map (·.born) = List.range (ents.modify j f).size := by
  rw [Array.size_modify, ← h]
  apply List.ext_getElem?
  intro i
  simp only [List.getElem?_map, Array.getElem?_toList, Array.getElem?_modify]
  split
  · cases ents[i]? <;> simp [hf]
  · rfl

theorem nodup_push {es : List (Key × V)} {k : Key} {v : V} (h : (es.map Prod.fst).Nodup) (hn : ∀ p ∈ es, p.1 ≠ k) : ((es ++ [(k, v)]).map Prod.fst).Nodup := by
  rw [List.map_append, List.nodup_append]
  refine ⟨h, by simp, fun a ha b hb => ?_⟩
  obtain ⟨p, hp, rfl⟩ := List.mem_map.1 ha
  simp only [List.map_cons, List.map_nil, List.mem_singleton] at hb
  subst hb; exact hn p hp

theorem keys_set {es : List (Key × V)} {k : Key} {v u : V} {j : Nat} (hj : es[j]? = some (k, v)) : (es.set j (k, u)).map Prod.fst = es.map Prod.fst := by
  apply List.ext_getElem?
  intro i
  simp only [List.getElem?_map, List.getElem?_set]
  split
  · rename_i e; subst e
    rw [hj]
    rw [if_pos (List.getElem?_eq_some_iff.1 hj).1]; rfl
  · rfl

theorem OpOK.mapUpdate {ty t : TypeId} {x y u : Operand} {i : TI} {kt et : TypeId} {id : Nat} {kv v : V} {k : Key} {es : List (Key × V)} (ht : tyi cx.P t = some i) (hi : i.kind = .map kt et) (hx : opnd cx env x = some (.map id)) (hy : opnd cx env y = some kv) (hu' : opnd cx env u = some v) (hk : keyV kv = some k)
    (hg : kgood cx.P kt = true) (ho : st[id]? = some (.map es)) (hes : ∀ p ∈ es, okKey cx.P kt p.1) (hok : okKey cx.P kt k)
    (hK : K none (st.set id (.map (putK es k v)))) : OpOK cx (.mapUpdate t x y u) ty env st K := by
  intro S σ F N lo o a w hop _ hh hF next Qr hnext
  obtain ⟨d, hu, hd, _⟩ := tyi_under ht
  rw [hi] at hd
  obtain rfl := kind_map hd
  obtain ⟨s, ents, ex, f1, hb, hR, hborn, hnd⟩ := map_block hh.str ho (hh.opnd hx)
  have ey := keyV_rep hk (hh.opnd hy)
  have hv := hh.opnd hu'
  have chk := (kgood_spec hg).check w false hok
  rcases find_spec (P := cx.P) hg hR hnd hes hok with ⟨h1, h2, _, h3, h4⟩ | ⟨j, e, v0, h1, h2, h3, h4, h5, _, h6, h7⟩
  · obtain ⟨m1, m2, m3⟩ := map_set hh.str hh.sb (es' := es ++ [(k, v)]) ho f1 hb (ents' := ents.push { key := k.value, val := a.eval u, born := ents.size }) (by simpa using hR.push rfl hv) (born_push hborn rfl) (nodup_push hnd h4)
    rw [h3] at hK
    refine wpIn_skip' hF (by rw [hop]; intro c h; cases h) (w' := { w with heap := w.heap.setIfInBounds s.b (.map (ents.push { key := k.value, val := a.eval u, born := ents.size }) (ents.push { key := k.value, val := a.eval u, born := ents.size }).size) }) ?_ (hnext undef none _ S σ _ hK (fun u e => by cases e) m1 m2 m3)
    simp [execOp, hop, Instr.mapUpdate, run_under hu, ex, ey, MapKept.run_getObj_map hb, chk, h1, MapKept.run_setObj_map _ hb]
  · obtain ⟨m1, m2, m3⟩ := map_set hh.str hh.sb (es' := es.set j (k, v)) ho f1 hb (ents' := ents.modify j fun e => { e with key := k.value, val := a.eval u }) (by simpa using RepEnts.set (j := j) (f := fun e => { e with key := k.value, val := a.eval u }) (fun _ => rfl) (fun _ => hv) hR) (born_modify hborn fun _ => rfl) (by rw [keys_set h7]; exact hnd)
    rw [h6] at hK
    refine wpIn_skip' hF (by rw [hop]; intro c h; cases h) (w' := { w with heap := w.heap.setIfInBounds s.b (.map (ents.modify j fun e => { e with key := k.value, val := a.eval u }) (ents.modify j fun e => { e with key := k.value, val := a.eval u }).size) }) ?_ (hnext undef none _ S σ _ hK (fun u e => by cases e) m1 m2 m3)
    simp [execOp, hop, Instr.mapUpdate, run_under hu, ex, ey, MapKept.run_getObj_map hb, chk, h1, h2, h3, (kgood_spec hg).stays w hok, MapKept.run_setObj_map _ hb]

/-- The entry is there; a new one has the zero value. -/
def entK (es : List (Key × V)) (k : Key) (z : V) : List (Key × V) := putK es k ((lookK es k).getD z)

theorem OpOK.mapEntry {ty t : TypeId} {x y : Operand} {i : TI} {kt et : TypeId} {id : Nat} {kv z : V} {k : Key} {es : List (Key × V)} (ht : tyi cx.P t = some i) (hi : i.kind = .map kt et) (hx : opnd cx env x = some (.map id)) (hy : opnd cx env y = some kv) (hk : keyV kv = some k)
    (hg : kgood cx.P kt = true) (hz : zv cx.P et = some z) (ho : st[id]? = some (.map es)) (hes : ∀ p ∈ es, okKey cx.P kt p.1) (hok : okKey cx.P kt k)
    (hK : K (some (.tup [(lookK es k).getD z, .int .i64 (idxK es k)])) (st.set id (.map (entK es k z)))) : OpOK cx (.mapEntry t x y) ty env st K := by
  intro S σ F N lo o a w hop _ hh hF next Qr hnext
  obtain ⟨d, hu, hd, _⟩ := tyi_under ht
  rw [hi] at hd
  obtain rfl := kind_map hd
  obtain ⟨s, ents, ex, f1, hb, hR, hborn, hnd⟩ := map_block hh.str ho (hh.opnd hx)
  have ey := keyV_rep hk (hh.opnd hy)
  obtain ⟨zval, hz1, hz2⟩ := zv_spec hz
  have chk := (kgood_spec hg).check w false hok
  rcases find_spec (P := cx.P) hg hR hnd hes hok with ⟨h1, h2, h2', h3, h4⟩ | ⟨j, e, v0, h1, h2, h3, h4, h5, h5', h6, h7⟩
  · obtain ⟨m1, m2, m3⟩ := map_set hh.str hh.sb (es' := es ++ [(k, z)]) ho f1 hb (ents' := ents.push { key := k.value, val := zval, born := ents.size }) (by simpa using hR.push rfl (hz2 _ _ _)) (born_push hborn rfl) (nodup_push hnd h4)
    rw [h2, h2'] at hK
    simp only [entK, h2, Option.getD_none, h3] at hK
    refine wpIn_value hF (by rw [hop]; intro c h; cases h) (w' := { w with heap := w.heap.setIfInBounds s.b (.map (ents.push { key := k.value, val := zval, born := ents.size }) (ents.push { key := k.value, val := zval, born := ents.size }).size) }) (v := .tuple #[zval, goInt ents.size]) ?_ (hnext _ _ _ S σ _ hK (fun u e => ?_) m1 m2 m3)
    · simp [execOp, hop, Instr.mapEntry, run_under hu, ex, ey, MapKept.run_getObj_map hb, chk, h1, MapKept.run_setObj_map _ hb, run_zeroValue hz1]
    · cases e
      simp only [Rep, Option.getD_none]
      exact ⟨[zval, goInt ents.size], rfl, zval, _, rfl, hz2 _ _ _, by simp [RepAll, Rep, goInt]⟩
  · have hjs : j < es.length := (List.getElem?_eq_some_iff.1 h7).1
    have hbj : e.born = j := by
      have : (ents.toList.map (·.born))[j]? = some e.born := by simp [h2]
      rw [hborn] at this
      rw [List.getElem?_range (by have := (Array.getElem?_eq_some_iff.1 h2).1; exact this)] at this
      exact (Option.some.inj this).symm
    have hsame : es.set j (k, v0) = es := by
      apply List.ext_getElem?
      intro i
      rw [List.getElem?_set]
      split
      · rename_i e; subst e; exact h7.symm
      · rfl
    have hRR : RepEnts S σ w (es.set j (k, v0)) (ents.modify j fun e => { e with key := k.value }).toList := by
      rw [hsame]
      have : ∀ {es : List (Key × V)} {l : List MapEntry} {j : Nat}, RepEnts S σ w es l → (∀ e, l[j]? = some e → e.key = k.value) → RepEnts S σ w es (l.modify j fun e => { e with key := k.value }) := by
        intro es
        induction es with
        | nil => intro l j h _; simp only [RepEnts] at h; subst h; cases j <;> rfl
        | cons p r ih =>
          intro l j h hj
          obtain ⟨k', v'⟩ := p
          simp only [RepEnts] at h
          obtain ⟨e', t, rfl, g1, g2, g3⟩ := h
          cases j with
          | zero => exact ⟨_, t, rfl, by rw [← g1]; exact (hj e' rfl).symm, g2, g3⟩
          | succ j => exact ⟨e', _, rfl, g1, g2, ih g3 (fun e he => hj e (by simpa using he))⟩
      simpa using this hR (fun e' he' => by rw [Array.getElem?_toList, h2] at he'; cases he'; exact h3)
    obtain ⟨m1, m2, m3⟩ := map_set hh.str hh.sb (es' := es.set j (k, v0)) ho f1 hb (ents' := ents.modify j fun e => { e with key := k.value }) hRR (born_modify hborn fun _ => rfl) (by rw [keys_set h7]; exact hnd)
    rw [h5, h5'] at hK
    simp only [entK, h5, Option.getD_some, h6] at hK
    refine wpIn_value hF (by rw [hop]; intro c h; cases h) (w' := { w with heap := w.heap.setIfInBounds s.b (.map (ents.modify j fun e => { e with key := k.value }) (ents.modify j fun e => { e with key := k.value }).size) }) (v := .tuple #[e.val, goInt j]) ?_ (hnext _ _ _ S σ _ hK (fun u ee => ?_) m1 m2 m3)
    · simp [execOp, hop, Instr.mapEntry, run_under hu, ex, ey, MapKept.run_getObj_map hb, chk, h1, h2, h3, hbj, (kgood_spec hg).stays w hok, MapKept.run_setObj_map _ hb]
    · cases ee
      simp only [Rep, Option.getD_some]
      refine ⟨[e.val, goInt j], rfl, e.val, _, rfl, ?_, by simp [RepAll, Rep, goInt]⟩
      exact m3.rep hh.str hh.sb.lt h4

theorem OpOK.entryStore {ty t : TypeId} {x y u : Operand} {id j : Nat} {v v0 : V} {k : Key} {es : List (Key × V)} (hx : opnd cx env x = some (.map id)) (hy : opnd cx env y = some (.int .i64 j)) (hu' : opnd cx env u = some v) (ho : st[id]? = some (.map es)) (hj : es[j]? = some (k, v0))
    (hK : K none (st.set id (.map (es.set j (k, v))))) : OpOK cx (.entryStore t x y u) ty env st K := by
  intro S σ F N lo o a w hop _ hh hF next Qr hnext
  obtain ⟨s, ents, ex, f1, hb, hR, hborn, hnd⟩ := map_block hh.str ho (hh.opnd hx)
  have ey : a.eval y = .int .i64 j := by simpa [Rep] using hh.opnd hy
  have hv := hh.opnd hu'
  obtain ⟨hl, hget⟩ := hR.get
  have hjl : j < ents.size := by have := (List.getElem?_eq_some_iff.1 hj).1; simp at hl; omega
  have hbs : ∀ i (hi : i < ents.size), (ents[i]'hi).born = i := by
    intro i hi
    have : (ents.toList.map (·.born))[i]? = some (ents[i]'hi).born := by simp [hi]
    rw [hborn, List.getElem?_range hi] at this
    exact (Option.some.inj this).symm
  have hfind : ents.findIdx? (fun e => (e.born : Int) == (j : Int)) = some j := by
    rw [Array.findIdx?_eq_some_iff_getElem]
    refine ⟨hjl, by simp [hbs j hjl], fun i hi => ?_⟩
    have := hbs i (by omega)
    simp only [this]
    simp; omega
  obtain ⟨p, hp, g1, g2⟩ := hget j _ (by rw [Array.getElem?_toList]; exact Array.getElem?_eq_getElem hjl)
  rw [hj] at hp; cases hp
  have hRR : RepEnts S σ w (es.set j (k, v)) (ents.modify j fun e => { e with val := a.eval u }).toList := by
    have : ∀ {es : List (Key × V)} {l : List MapEntry} {j : Nat}, RepEnts S σ w es l → es[j]? = some (k, v0) → RepEnts S σ w (es.set j (k, v)) (l.modify j fun e => { e with val := a.eval u }) := by
      intro es
      induction es with
      | nil => intro l j h hj; simp at hj
      | cons p r ih =>
        intro l j h hj
        obtain ⟨k', v'⟩ := p
        simp only [RepEnts] at h
        obtain ⟨e', t, rfl, q1, q2, q3⟩ := h
        cases j with
        | zero => simp at hj; obtain ⟨rfl, rfl⟩ := hj; exact ⟨_, t, rfl, q1, hv, q3⟩
        | succ j => exact ⟨e', _, rfl, q1, q2, ih q3 (by simpa using hj)⟩
    simpa using this hR hj
  obtain ⟨m1, m2, m3⟩ := map_set hh.str hh.sb (es' := es.set j (k, v)) ho f1 hb (ents' := ents.modify j fun e => { e with val := a.eval u }) hRR (born_modify hborn fun _ => rfl) (by rw [keys_set hj]; exact hnd)
  refine wpIn_skip' hF (by rw [hop]; intro c h; cases h) (w' := { w with heap := w.heap.setIfInBounds s.b (.map (ents.modify j fun e => { e with val := a.eval u }) (ents.modify j fun e => { e with val := a.eval u }).size) }) ?_ (hnext undef none _ S σ _ hK (fun u e => by cases e) m1 m2 m3)
  simp [execOp, hop, Instr.entryStore, ex, ey, MapKept.run_getObj_map hb, asInt, asIntOf, hfind, MapKept.run_setObj_map _ hb]

theorem OpOK.lenMap {ty t : TypeId} {x : Operand} {i : TI} {kt et : TypeId} {id : Nat} {es : List (Key × V)} (ht : tyi cx.P t = some i) (hi : i.kind = .map kt et) (hx : opnd cx env x = some (.map id)) (ho : st[id]? = some (.map es))
    (hK : K (some (.int .i64 es.length)) st) : OpOK cx (bcall .len #[x] #[t]) ty env st K := by
  refine OpOK.pure (by intro c h; cases h) (fun S σ N lo a w o hop _ hh => ?_) hK
  obtain ⟨d, hu, hd, _⟩ := tyi_under ht
  rw [hi] at hd
  obtain rfl := kind_map hd
  obtain ⟨s, ents, ex, f1, hb, hR, hborn, hnd⟩ := map_block hh.str ho (hh.opnd hx)
  refine ⟨.int .i64 es.length, ?_, by simp [Rep]⟩
  rw [run_bcall hop]
  have hl := hR.get.1
  simp at hl
  simp [builtin, Builtin.len_, run_under hu, ex, goInt, MapKept.run_getObj_map hb, hl]

end
end Go.VL
end

