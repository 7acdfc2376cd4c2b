/- Joined by program (merge.py): the parts VL12, VL13, VL14, VL15, VL16, VL17, VL18, VL19, VL20, VL21, VL22, VL23, VLS. -/
import Derived.RangeFuncIn
import Derived.Maps.RangeRun
import Derived.Test.YteicmeojabemhaaDoorX00
/- The value-level program logic, part 12: code carried out over values, as a proposition that computes. -/
section
set_option linter.unusedVariables false
set_option linter.unusedSimpArgs false
namespace Go.VL
open Go

/-- The cells of a type's zero value. -/
def tzs (P : Program) (t : TypeId) : Option (List V) := ((tyi P t).bind (·.zero)).bind fun z => ofConsts z.cells.toList

theorem tzs_spec {P : Program} {t : TypeId} {i : TI} {zs : List V} (h : tyi P t = some i) (hz : tzs P t = some zs) : ∃ z, i.zero = some z ∧ ofConsts z.cells.toList = some zs ∧ z.cells.size = zs.length := by
  simp only [tzs, h, Option.bind_some, Option.bind_eq_some_iff] at hz
  obtain ⟨z, h1, h2⟩ := hz
  refine ⟨z, h1, h2, ?_⟩
  have := (ofConsts_rep (S := fun _ => False) (σ := []) (w := default) h2).1.length
  rw [Array.length_toList] at this
  exact this

abbrev R3 := Prop × Option V × St
def bad : R3 := (False, none, [])

def loadR (agg : Bool) (n : Nat) (cs : List V) (off : Nat) (st : St) : R3 :=
  if agg then (off + n ≤ cs.length, some (.agg ((cs.drop off).take n)), st) else (off < cs.length, some ((cs[off]?).getD .dead), st)

theorem loadR_spec {agg : Bool} {n : Nat} {cs : List V} {off : Nat} {st : St} (h : (loadR agg n cs off st).1) : ∃ v, loadV agg n cs off = some v ∧ (loadR agg n cs off st).2 = (some v, st) := by
  unfold loadR at h ⊢
  unfold loadV
  cases agg with
  | true => simp only [if_true] at h ⊢; exact ⟨_, if_pos h, rfl⟩
  | false =>
    simp only [Bool.false_eq_true, if_false] at h ⊢
    refine ⟨(cs[off]?).getD .dead, ?_, rfl⟩
    rw [List.getElem?_eq_getElem h]; rfl

def binR (op : BinOp) (k j : IntKind) (a b : Int) (st : St) : R3 :=
  match op with
  | .shl => (0 ≤ b, some (.int k (k.wrap (a * 2 ^ (min b.toNat k.bits)))), st)
  | .shr => (0 ≤ b, some (.int k (a.fdiv (2 ^ (min b.toNat k.bits)))), st)
  | .quo => (k = j ∧ b ≠ 0, some (.int k (k.wrap (a.tdiv b))), st)
  | .rem => (k = j ∧ b ≠ 0, some (.int k (a.tmod b)), st)
  | op => match intOp op k a b with
    | some v => (k = j, some v, st)
    | none => bad

/-- Something may be appended to this. -/
def baseOK (st : St) : V → Prop
  | .e0 => True
  | .lst _ _ => True
  | .slc id ver _ _ _ => ((st[id]?).bind (Ob.read ver)).isSome = true
  | _ => False

/-- All keys are of the type. -/
def keysOK (P : Program) (kt : TypeId) (es : List (Key × V)) : Prop := ∀ p ∈ es, okKey P kt p.1

/-- One operation of the plain kind. -/
def opR (cx : Cx) (env : Env) (st : St) : Op → R3
  | .move x => match opnd cx env x with | some v => (True, some v, st) | none => bad
  | .assign x => match opnd cx env x with | some v => (True, some v, st) | none => bad
  | .pick c x y => match opnd cx env c with
    | some (.bool true) => (match opnd cx env x with | some v => (True, some v, st) | none => bad)
    | some (.bool false) => (match opnd cx env y with | some v => (True, some v, st) | none => bad)
    | _ => bad
  | .alloc t => match tzs cx.P t with | some zs => (True, some (.ptr st.length 0 0), st ++ [.cells 0 zs]) | none => bad
  | .box t x => match opnd cx env x with | some v => (v.plain = true, some (.ptr st.length 0 0), st ++ [.cells 0 v.cells]) | none => bad
  | .build t parts => match tyi cx.P t, tzs cx.P t, opnds cx env parts.toList with
    | some i, some zs, some vs => (match i.kind with
      | .struct pl => (match fillV (fun j => pl[j]?.map fun p => (p.1, p.2.1)) zs vs with | some cs => (True, some (.agg cs), st) | none => bad)
      | .array n e => (match tyi cx.P e with
        | some ie => (match fillV (fun j => some (j * ie.size, ie.size)) zs vs with | some cs => (True, some (.agg cs), st) | none => bad)
        | none => bad)
      | _ => bad)
    | _, _, _ => bad
  | .buildSlice t len parts => match tyi cx.P t with
    | some i => (match i.kind with
      | .slice e => (match tyi cx.P e, tzs cx.P e with
        | some ie, some zs => (match len with
          | 0 => (parts.size = 0, some .e0, st)
          | len + 1 => (match opnds cx env parts.toList with
            | some vs => (match fillV (fun j => some (j * ie.size, ie.size)) (zeros (len + 1) zs) vs with
              | some cs => (0 < ie.size ∧ zs.length = ie.size ∧ (len + 1) * ie.size ≤ 16777216 ∧ cs.length = (len + 1) * ie.size, some (.slc st.length 0 0 (len + 1) ie.size), st ++ [.cells 0 cs])
              | none => bad)
            | none => bad))
        | _, _ => bad)
      | _ => bad)
    | none => bad
  | .load t x => match opnd cx env x, tyi cx.P t with
    | some (.ptr id ver off), some i => (match (st[id]?).bind (Ob.read ver) with | some cs => loadR i.kind.agg i.size cs off st | none => bad)
    | some (.pptr cs off), some i => loadR i.kind.agg i.size cs off st
    | _, _ => bad
  | .store t x y => match opnd cx env x, opnd cx env y, tyi cx.P t with
    | some (.ptr id ver off), some v, some i => (match st[id]? with
      | some (.cells ver' cs) => (ver' = ver ∧ v.plain = true ∧ v.cells.length = i.size ∧ off + i.size ≤ cs.length, none, st.set id (.cells ver (setMany cs off v.cells)))
      | _ => bad)
    | _, _, _ => bad
  | .nilCheck x => match opnd cx env x with
    | some (.fn (.func f) cs) => (True, some (.fn (.func f) cs), st)
    | some (.fn (.yield l) cs) => (True, some (.fn (.yield l) cs), st)
    | some (.ptr id ver off) => (((st[id]?).bind (Ob.read ver)).isSome = true, some (.ptr id ver off), st)
    | some (.pptr cs off) => (True, some (.pptr cs off), st)
    | _ => bad
  | .binOp op t x y _ => match opnd cx env x, opnd cx env y with
    | some (.int k a), some (.int j b) => binR op k j a b st
    | some (.bool a), some (.bool b) => (match op, tyi cx.P t with
      | .eql, some ⟨.bool, _, _, _⟩ => (True, some (.bool (a == b)), st)
      | .neq, some ⟨.bool, _, _, _⟩ => (True, some (.bool (!(a == b))), st)
      | _, _ => bad)
    | _, _ => bad
  | .unOp op _ x => match op, opnd cx env x with
    | .not, some (.bool b) => (True, some (.bool (!b)), st)
    | .neg, some (.int k n) => (True, some (.int k (k.wrap (0 - n))), st)
    | _, _ => bad
  | .convert s d x => match opnd cx env x, tyi cx.P s, tyi cx.P d with
    | some (.int k n), some _, some ⟨.int j, _, _, _⟩ => (True, some (.int j (j.wrap n)), st)
    | _, _, _ => bad
  | .makeFunc f first caps => match opndL cx env caps.toList with | some vs => (first.size = 0, some (.fn f vs), st) | none => bad
  | .makeMap _ none => (True, some (.map st.length), st ++ [.map []])
  | .lookup t x y ok => match tyi cx.P t, opnd cx env x, opnd cx env y with
    | some ⟨.map kt et, _, _, _⟩, some (.map id), some kv => (match st[id]?, keyV kv, zv cx.P et with
      | some (.map es), some k, some z => (kgood cx.P kt = true ∧ keysOK cx.P kt es ∧ okKey cx.P kt k, some (if ok then .tup [(lookK es k).getD z, .bool (lookK es k).isSome] else (lookK es k).getD z), st)
      | _, _, _ => bad)
    | _, _, _ => bad
  | .mapUpdate t x y u => match tyi cx.P t, opnd cx env x, opnd cx env y, opnd cx env u with
    | some ⟨.map kt et, _, _, _⟩, some (.map id), some kv, some v => (match st[id]?, keyV kv with
      | some (.map es), some k => (kgood cx.P kt = true ∧ keysOK cx.P kt es ∧ okKey cx.P kt k, none, st.set id (.map (putK es k v)))
      | _, _ => bad)
    | _, _, _, _ => bad
  | .mapEntry t x y => match tyi cx.P t, opnd cx env x, opnd cx env y with
    | some ⟨.map kt et, _, _, _⟩, some (.map id), some kv => (match st[id]?, keyV kv, zv cx.P et with
      | some (.map es), some k, some z => (kgood cx.P kt = true ∧ keysOK cx.P kt es ∧ okKey cx.P kt k, some (.tup [(lookK es k).getD z, .int .i64 (idxK es k)]), st.set id (.map (entK es k z)))
      | _, _, _ => bad)
    | _, _, _ => bad
  | .entryStore _ x y u => match opnd cx env x, opnd cx env y, opnd cx env u with
    | some (.map id), some (.int .i64 j), some v => (match st[id]? with
      | some (.map es) => (0 ≤ j ∧ j.toNat < es.length, none, st.set id (.map (es.set j.toNat (((es[j.toNat]?).map Prod.fst).getD (.int .i64 0), v))))
      | _ => bad)
    | _, _, _ => bad
  | .makeSlice t x y => match opnd cx env x, opnd cx env y, tyi cx.P t with
    | some (.int kx n), some (.int ky m), some i => (match i.kind with
      | .slice e => (match tyi cx.P e, tzs cx.P e with
        | some ie, some zs => (n = m ∧ 0 ≤ n ∧ n ≤ 1000000 ∧ 0 < ie.size ∧ zs.length = ie.size ∧ ie.bytes ≤ 1000000, some (.slc st.length 0 0 n.toNat ie.size), st ++ [.cells 0 (zeros n.toNat zs)])
        | _, _ => bad)
      | _ => bad)
    | _, _, _ => bad
  | .slice t x lo hi none => match opnd cx env x, tyi cx.P t, bound cx env lo, bound cx env hi with
    | some (.lst sz cs), some i, some l, some h => (match i.kind with
      | .slice e => (match tyi cx.P e with
        | some ie => (ie.size = sz ∧ cs.length = (cs.length / sz) * sz ∧ 0 ≤ l.getD 0 ∧ l.getD 0 ≤ h.getD (cs.length / sz : Nat) ∧ h.getD (cs.length / sz : Nat) ≤ (cs.length / sz : Nat),
            some (.lst sz ((cs.drop ((l.getD 0).toNat * sz)).take (((h.getD (cs.length / sz : Nat)).toNat - (l.getD 0).toNat) * sz))), st)
        | none => bad)
      | _ => bad)
    | some (.slc id ver off n sz), some i, some l, some h => (match i.kind with
      | .slice e => (match tyi cx.P e with
        | some ie => (ie.size = sz ∧ ((st[id]?).bind (Ob.read ver)).isSome = true ∧ 0 ≤ l.getD 0 ∧ l.getD 0 ≤ h.getD n ∧ h.getD n ≤ n ∧ (l.getD 0 < n ∨ l.getD 0 = 0), some (.slc id ver (off + (l.getD 0).toNat * sz) ((h.getD n).toNat - (l.getD 0).toNat) sz), st)
        | none => bad)
      | _ => bad)
    | _, _, _, _ => bad
  | .fieldAddr t x f => match opnd cx env x, tyi cx.P t with
    | some (.ptr id ver off), some ⟨.struct pl, _, _, _⟩ => (match pl[f]? with
      | some p => (0 < p.2.1 ∧ ((st[id]?).bind (Ob.read ver)).isSome = true, some (.ptr id ver (off + p.1)), st)
      | none => bad)
    | some (.pptr cs off), some ⟨.struct pl, _, _, _⟩ => (match pl[f]? with
      | some p => (0 < p.2.1, some (.pptr cs (off + p.1)), st)
      | none => bad)
    | _, _ => bad
  | .field t x f => match opnd cx env x, tyi cx.P t with
    | some (.agg cs), some ⟨.struct pl, _, _, _⟩ => (match pl[f]? with
      | some p => (match tyi cx.P p.2.2 with | some ie => loadR ie.kind.agg ie.size cs p.1 st | none => bad)
      | none => bad)
    | _, _ => bad
  | .indexAddr t x y => match opnd cx env x, opnd cx env y, tyi cx.P t with
    | some (.slc id ver off n sz), some (.int k j), some ⟨.slice e, _, _, _⟩ => (match tyi cx.P e with
      | some ie => (ie.size = sz ∧ ((st[id]?).bind (Ob.read ver)).isSome = true ∧ 0 ≤ j ∧ j < n, some (.ptr id ver (off + j.toNat * sz)), st)
      | none => bad)
    | some (.lst sz cs), some (.int k j), some ⟨.slice e, _, _, _⟩ => (match tyi cx.P e with
      | some ie => (match sz with
        | 1 => (ie.size = 1 ∧ 0 ≤ j ∧ j < cs.length, some (.pptr [(cs[j.toNat]?).getD .dead] 0), st)
        | sz => (ie.size = sz ∧ 0 ≤ j ∧ (j.toNat + 1) * sz ≤ cs.length, some (.pptr ((cs.drop (j.toNat * sz)).take sz) 0), st))
      | none => bad)
    | some (.ptr id ver off), some (.int k j), some ⟨.array n e, _, _, _⟩ => (match tyi cx.P e with
      | some ie => (((st[id]?).bind (Ob.read ver)).isSome = true ∧ 0 ≤ j ∧ j < n, some (.ptr id ver (off + j.toNat * ie.size)), st)
      | none => bad)
    | some (.pptr cs off), some (.int k j), some ⟨.array n e, _, _, _⟩ => (match tyi cx.P e with
      | some ie => (0 ≤ j ∧ j < n, some (.pptr cs (off + j.toNat * ie.size)), st)
      | none => bad)
    | _, _, _ => bad
  | .index t x y => match opnd cx env x, opnd cx env y, tyi cx.P t with
    | some (.agg cs), some (.int k j), some ⟨.array n e, _, _, _⟩ => (match tyi cx.P e with
      | some ie => (0 ≤ j ∧ j < n ∧ (loadR ie.kind.agg ie.size cs (j.toNat * ie.size) st).1, (loadR ie.kind.agg ie.size cs (j.toNat * ie.size) st).2)
      | none => bad)
    | some (.str s), some (.int k j), some ⟨.str, _, _, _⟩ => (0 ≤ j ∧ j.toNat < s.size, some (.int .u8 (((s[j.toNat]?).map fun b => b.toNat).getD 0 : Nat)), st)
    | _, _, _ => bad
  | .extract x j => match opnd cx env x with
    | some (.tup cs) => (j < cs.length, some ((cs[j]?).getD .dead), st)
    | _ => bad
  | .call { callee := .builtin .len, args := args, argTypes := ts } => match args.toList, ts.toList with
    | [x], [t] => (match opnd cx env x, tyi cx.P t with
      | some v, some ⟨.slice _, _, _, _⟩ => (match v with
        | .str _ => bad
        | v => (match lenV st v with | some n => (True, some (.int .i64 n), st) | none => bad))
      | some (.str s), some ⟨.str, _, _, _⟩ => (True, some (.int .i64 s.size), st)
      | some (.map id), some ⟨.map _ _, _, _, _⟩ => (match st[id]? with
        | some (.map es) => (True, some (.int .i64 es.length), st)
        | _ => bad)
      | _, _ => bad)
    | _, _ => bad
  | .call { callee := .builtin .append, args := args, argTypes := ts } => match args.toList, ts.toList with
    | [x, y], [t, u] => (match opnd cx env x, opnd cx env y, tyi cx.P t with
      | some v, some .e0, some ⟨.slice e, _, _, _⟩ => (match tyi cx.P e with
        | some ie => (t = u ∧ 0 < ie.size ∧ baseOK st v, some v, st)
        | _ => bad)
      | some v, some src, some ⟨.slice e, _, _, _⟩ => (match tyi cx.P e, tzs cx.P e with
        | some ie, some zs => (match srcV st ie.size src with
          | some more => (match v with
            | .e0 => (t = u ∧ 0 < ie.size ∧ zs.length = ie.size ∧ 0 < more.length ∧ more.length = (more.length / ie.size) * ie.size ∧ more.length / ie.size ≤ 1000000 ∧ ie.bytes ≤ 1000000, some (.slc st.length 0 0 (more.length / ie.size) ie.size), st ++ [.cells 0 more])
            | .slc id ver 0 n sz => (match st[id]? with
              | some (.cells ver' cs) => (t = u ∧ ver' = ver ∧ sz = ie.size ∧ cs.length = n * ie.size ∧ 0 < ie.size ∧ zs.length = ie.size ∧ 0 < more.length ∧ more.length = (more.length / ie.size) * ie.size ∧ n + more.length / ie.size ≤ 1000000 ∧ ie.bytes ≤ 1000000,
                  some (.slc id (ver + 1) 0 (n + more.length / ie.size) ie.size), st.set id (.cells (ver + 1) (cs ++ more)))
              | some (.acc ver' cs) => (t = u ∧ ver' = ver ∧ sz = ie.size ∧ cs.length = n * ie.size ∧ 0 < ie.size ∧ zs.length = ie.size ∧ 0 < more.length ∧ more.length = (more.length / ie.size) * ie.size ∧ n + more.length / ie.size ≤ 1000000 ∧ ie.bytes ≤ 1000000,
                  some (.slc id (ver + 1) 0 (n + more.length / ie.size) ie.size), st.set id (.acc (ver + 1) (cs ++ more)))
              | _ => bad)
            | _ => bad)
          | none => bad)
        | _, _ => bad)
      | _, _, _ => bad)
    | _, _ => bad
  | .call { callee := .builtin .min, args := args, argTypes := ts } => match args.toList with
    | [x, y] => (match opnd cx env x, opnd cx env y with
      | some (.int k a), some (.int j b) => (True, some (.int k (if b < a then b else a)), st)
      | _, _ => bad)
    | _ => bad
  | .call { callee := .builtin .max, args := args, argTypes := ts } => match args.toList with
    | [x, y] => (match opnd cx env x, opnd cx env y with
      | some (.int k a), some (.int j b) => (True, some (.int k (if b > a then b else a)), st)
      | _, _ => bad)
    | _ => bad
  | _ => bad

end Go.VL
end

/- The value-level program logic, part 13: what is carried out over values holds of the model. -/
section
set_option linter.unusedVariables false
set_option linter.unusedSimpArgs false
namespace Go.VL
open Go

section
variable {cx : Cx} {env : Env} {st : St} {K : Option V → St → Prop} {ty : TypeId}

theorem bad_no {h : R3} (e : bad = h) (h1 : h.1) : False := by subst e; exact h1

theorem read_of {id ver : Nat} {cs : List V} (h : (st[id]?).bind (Ob.read ver) = some cs) : ∃ ob, st[id]? = some ob ∧ ob.read ver = some cs := by
  simpa [Option.bind_eq_some_iff] using h

theorem read_some {id ver : Nat} (h : ((st[id]?).bind (Ob.read ver)).isSome = true) : ∃ ob cs, st[id]? = some ob ∧ ob.read ver = some cs := by
  obtain ⟨cs, h⟩ := Option.isSome_iff_exists.1 h
  obtain ⟨ob, h1, h2⟩ := read_of h
  exact ⟨ob, cs, h1, h2⟩

theorem load_sound {t : TypeId} {x : Operand} {R : R3} (hR : opR cx env st (.load t x) = R) (h : R.1) (hK : K R.2.1 R.2.2) : OpOK cx (.load t x) ty env st K := by
  simp only [opR] at hR
  split at hR
  · rename_i id ver off i hx ht
    split at hR
    · rename_i cs hc
      obtain ⟨ob, h1, h2⟩ := read_of hc
      subst hR
      obtain ⟨v, hv, e⟩ := loadR_spec h
      rw [e] at hK
      obtain ⟨d, hu, _, ha⟩ := tyi_under ht
      exact OpOK.load hx hu (tyi_size ht) h1 h2 (by rw [ha]; exact hv) hK
    · exact (bad_no hR h).elim
  · rename_i cs off i hx ht
    subst hR
    obtain ⟨v, hv, e⟩ := loadR_spec h
    rw [e] at hK
    obtain ⟨d, hu, _, ha⟩ := tyi_under ht
    exact OpOK.loadP hx hu (tyi_size ht) (by rw [ha]; exact hv) hK
  · exact (bad_no hR h).elim

theorem binOp_sound {op : BinOp} {t u : TypeId} {x y : Operand} {R : R3} (hR : opR cx env st (.binOp op t x y u) = R) (h : R.1) (hK : K R.2.1 R.2.2) : OpOK cx (.binOp op t x y u) ty env st K := by
  simp only [opR] at hR
  split at hR
  · rename_i k a j b hx hy
    unfold binR at hR
    split at hR
    · subst hR
      exact OpOK.shift hx hy (by unfold shiftOp; rw [if_neg (by simp only at h; omega)]) hK
    · subst hR
      exact OpOK.shift hx hy (by unfold shiftOp; rw [if_neg (by simp only at h; omega)]) hK
    · subst hR
      obtain ⟨rfl, hb⟩ := h
      exact OpOK.int hx hy (by simp only [intOp]; exact if_neg hb) hK
    · subst hR
      obtain ⟨rfl, hb⟩ := h
      exact OpOK.int hx hy (by simp only [intOp]; exact if_neg hb) hK
    · split at hR
      · rename_i v hv
        subst hR
        simp only at h
        subst h
        exact OpOK.int hx hy hv hK
      · exact (bad_no hR h).elim
  · rename_i a b hx hy
    split at hR
    · rename_i ht
      subst hR
      obtain ⟨d, hu, hd, _⟩ := tyi_under ht
      obtain rfl := kind_bool hd
      exact OpOK.boolEq hu hx hy (.inl rfl) (by simpa using hK)
    · rename_i ht
      subst hR
      obtain ⟨d, hu, hd, _⟩ := tyi_under ht
      obtain rfl := kind_bool hd
      exact OpOK.boolEq hu hx hy (.inr rfl) (by simpa using hK)
    · exact (bad_no hR h).elim
  · exact (bad_no hR h).elim

theorem build_sound {t : TypeId} {parts : Array (Nat × Operand)} {R : R3} (hR : opR cx env st (.build t parts) = R) (h : R.1) (hK : K R.2.1 R.2.2) : OpOK cx (.build t parts) ty env st K := by
  simp only [opR] at hR
  split at hR
  · rename_i i zs vs ht hz hv
    obtain ⟨z, z1, z2, z3⟩ := tzs_spec ht hz
    split at hR
    · rename_i pl hk
      split at hR
      · rename_i cs hf
        subst hR
        exact OpOK.buildStruct ht hk z1 z2 hv hf hK
      · exact (bad_no hR h).elim
    · rename_i n e hk
      split at hR
      · rename_i ie he
        split at hR
        · rename_i cs hf
          subst hR
          exact OpOK.buildArray ht hk he z1 z2 hv hf hK
        · exact (bad_no hR h).elim
      · exact (bad_no hR h).elim
    · exact (bad_no hR h).elim
  · exact (bad_no hR h).elim

theorem buildSlice_sound {t : TypeId} {len : Nat} {parts : Array (Nat × Operand)} {R : R3} (hR : opR cx env st (.buildSlice t len parts) = R) (h : R.1) (hK : K R.2.1 R.2.2) : OpOK cx (.buildSlice t len parts) ty env st K := by
  simp only [opR] at hR
  split at hR
  · rename_i i ht
    split at hR
    · rename_i e hk
      split at hR
      · rename_i ie zs he hz
        obtain ⟨z, z1, z2, z3⟩ := tzs_spec he hz
        split at hR
        · subst hR
          simp only at h
          exact OpOK.buildNone ht hk he (Array.eq_empty_of_size_eq_zero h) hK
        · rename_i len
          split at hR
          · rename_i vs hv
            split at hR
            · rename_i cs hf
              subst hR
              obtain ⟨h1, h2, h3, h4⟩ := h
              exact OpOK.buildSlice ht hk he z1 z2 h1 h2 (by omega) h3 hv hf h4 hK
            · exact (bad_no hR h).elim
          · exact (bad_no hR h).elim
      · exact (bad_no hR h).elim
    · exact (bad_no hR h).elim
  · exact (bad_no hR h).elim

theorem fieldAddr_sound {t : TypeId} {x : Operand} {f : Nat} {R : R3} (hR : opR cx env st (.fieldAddr t x f) = R) (h : R.1) (hK : K R.2.1 R.2.2) : OpOK cx (.fieldAddr t x f) ty env st K := by
  simp only [opR] at hR
  split at hR
  · rename_i id ver off pl s1 s2 s3 hx ht
    split at hR
    · rename_i p hp
      subst hR
      obtain ⟨h1, h2⟩ := h
      obtain ⟨ob, cs, h3, h4⟩ := read_some h2
      exact OpOK.fieldAddr ht rfl hp h1 hx h3 h4 hK
    · exact (bad_no hR h).elim
  · rename_i cs off pl s1 s2 s3 hx ht
    split at hR
    · rename_i p hp
      subst hR
      exact OpOK.fieldAddrP ht rfl hp h hx hK
    · exact (bad_no hR h).elim
  · exact (bad_no hR h).elim

theorem field_sound {t : TypeId} {x : Operand} {f : Nat} {R : R3} (hR : opR cx env st (.field t x f) = R) (h : R.1) (hK : K R.2.1 R.2.2) : OpOK cx (.field t x f) ty env st K := by
  simp only [opR] at hR
  split at hR
  · rename_i cs pl s1 s2 s3 hx ht
    split at hR
    · rename_i p hp
      split at hR
      · rename_i ie he
        subst hR
        obtain ⟨v, hv, e⟩ := loadR_spec h
        rw [e] at hK
        exact OpOK.field ht rfl hp he hx hv hK
      · exact (bad_no hR h).elim
    · exact (bad_no hR h).elim
  · exact (bad_no hR h).elim

theorem indexAddr_sound {t : TypeId} {x y : Operand} {R : R3} (hR : opR cx env st (.indexAddr t x y) = R) (h : R.1) (hK : K R.2.1 R.2.2) : OpOK cx (.indexAddr t x y) ty env st K := by
  simp only [opR] at hR
  split at hR
  · rename_i id ver off n sz k j e s1 s2 s3 hx hy ht
    split at hR
    · rename_i ie he
      subst hR
      obtain ⟨h1, h2, h3, h4⟩ := h
      obtain ⟨ob, cs, h5, h6⟩ := read_some h2
      exact OpOK.indexS ht rfl he h1 hx hy h5 h6 h3 h4 hK
    · exact (bad_no hR h).elim
  · rename_i sz cs k j e s1 s2 s3 hx hy ht
    split at hR
    · rename_i ie he
      split at hR
      · subst hR
        obtain ⟨h1, h2, h3⟩ := h
        have hlt : j.toNat < cs.length := by omega
        have e1 : (cs.drop (j.toNat * 1)).take 1 = [(cs[j.toNat]?).getD .dead] := by
          rw [Nat.mul_one, List.getElem?_eq_getElem hlt, List.drop_eq_getElem_cons hlt]; rfl
        exact OpOK.indexL ht rfl he h1 hx hy h2 (by omega) (by rw [e1]; exact hK)
      · subst hR
        obtain ⟨h1, h2, h3⟩ := h
        exact OpOK.indexL ht rfl he h1 hx hy h2 h3 hK
    · exact (bad_no hR h).elim
  · rename_i id ver off k j n e s1 s2 s3 hx hy ht
    split at hR
    · rename_i ie he
      subst hR
      obtain ⟨h2, h3, h4⟩ := h
      obtain ⟨ob, cs, h5, h6⟩ := read_some h2
      exact OpOK.indexA ht rfl he hx hy h5 h6 h3 h4 hK
    · exact (bad_no hR h).elim
  · rename_i cs off k j n e s1 s2 s3 hx hy ht
    split at hR
    · rename_i ie he
      subst hR
      obtain ⟨h3, h4⟩ := h
      exact OpOK.indexAP ht rfl he hx hy h3 h4 hK
    · exact (bad_no hR h).elim
  · exact (bad_no hR h).elim

theorem OpOK.indexStr {t : TypeId} {x y : Operand} {i : TI} {s : ByteArray} {k : IntKind} {j : Int} {b : UInt8} (ht : tyi cx.P t = some i) (hk : i.kind = .str) (hx : opnd cx env x = some (.str s)) (hy : opnd cx env y = some (.int k j)) (h0 : 0 ≤ j) (h1 : s[j.toNat]? = some b)
    (hK : K (some (.int .u8 b.toNat)) st) : OpOK cx (.index t x y) ty env st K := by
  refine OpOK.pure (by intro c h; cases h) (fun S σ N lo a w o hop _ hh => ?_) hK
  have hr := hh.opnd hx
  simp only [Rep] at hr
  have ey := rep_int.1 (hh.opnd hy)
  obtain ⟨d, hu, hd, _⟩ := tyi_under ht
  rw [hk] at hd
  have hd' : d = .string := by cases d <;> simp [kindOf] at hd <;> rfl
  subst hd'
  exact ⟨.int .u8 b.toNat, by simp [execOp, hop, hr, ey, Instr.index, run_under hu, asIntOf, h0, h1], by simp [Rep]⟩

theorem index_sound {t : TypeId} {x y : Operand} {R : R3} (hR : opR cx env st (.index t x y) = R) (h : R.1) (hK : K R.2.1 R.2.2) : OpOK cx (.index t x y) ty env st K := by
  simp only [opR] at hR
  split at hR
  · rename_i cs k j n e s1 s2 s3 hx hy ht
    split at hR
    · rename_i ie he
      subst hR
      obtain ⟨h1, h2, h3⟩ := h
      obtain ⟨v, hv, e⟩ := loadR_spec h3
      simp only [e] at hK
      exact OpOK.index ht rfl he hx hy h1 h2 hv hK
    · exact (bad_no hR h).elim
  · rename_i s k j s1 s2 s3 hx hy ht
    subst hR
    obtain ⟨h1, h2⟩ := h
    have hb : s[j.toNat]? = some s[j.toNat] := getElem?_pos s j.toNat h2
    simp only [hb, Option.map_some, Option.getD_some] at hK
    exact OpOK.indexStr ht rfl hx hy h1 hb hK
  · exact (bad_no hR h).elim

theorem slice_sound {t : TypeId} {x : Operand} {lo hi : Option Operand} {R : R3} (hR : opR cx env st (.slice t x lo hi none) = R) (h : R.1) (hK : K R.2.1 R.2.2) : OpOK cx (.slice t x lo hi none) ty env st K := by
  simp only [opR] at hR
  split at hR
  · rename_i sz cs i l hh hx ht hl hhi
    split at hR
    · rename_i e hk
      split at hR
      · rename_i ie he
        subst hR
        obtain ⟨h1, h2, h3, h4, h5⟩ := h
        exact OpOK.sliceL ht hk he h1 hx h2 hl hhi h3 h4 h5 hK
      · exact (bad_no hR h).elim
    · exact (bad_no hR h).elim
  · rename_i id ver off n sz i l hh hx ht hl hhi
    split at hR
    · rename_i e hk
      split at hR
      · rename_i ie he
        subst hR
        obtain ⟨h1, h2, h3, h4, h5, h6⟩ := h
        obtain ⟨ob, cs, h7, h8⟩ := read_some h2
        exact OpOK.sliceS ht hk he h1 hx h7 h8 hl hhi h3 h4 h5 h6 hK
      · exact (bad_no hR h).elim
    · exact (bad_no hR h).elim
  · exact (bad_no hR h).elim

theorem makeSlice_sound {t : TypeId} {x y : Operand} {R : R3} (hR : opR cx env st (.makeSlice t x y) = R) (h : R.1) (hK : K R.2.1 R.2.2) : OpOK cx (.makeSlice t x y) ty env st K := by
  simp only [opR] at hR
  split at hR
  · rename_i kx n ky m i hx hy ht
    split at hR
    · rename_i e hk
      split at hR
      · rename_i ie zs he hz
        obtain ⟨z, z1, z2, z3⟩ := tzs_spec he hz
        subst hR
        obtain ⟨rfl, h1, h2, h3, h4, h5⟩ := h
        exact OpOK.makeSlice ht hk he h3 z1 z2 h4 hx hy h1 h2 h5 hK
      · exact (bad_no hR h).elim
    · exact (bad_no hR h).elim
  · exact (bad_no hR h).elim

theorem arr1 {α : Type} {a : Array α} {x : α} (h : a.toList = [x]) : a = #[x] := by
  apply Array.ext'; simpa using h
theorem arr2 {α : Type} {a : Array α} {x y : α} (h : a.toList = [x, y]) : a = #[x, y] := by
  apply Array.ext'; simpa using h

theorem len_sound {args : Array Operand} {ts : Array TypeId} {R : R3} (hR : opR cx env st (bcall .len args ts) = R) (h : R.1) (hK : K R.2.1 R.2.2) : OpOK cx (bcall .len args ts) ty env st K := by
  simp only [opR] at hR
  split at hR
  · rename_i x t ha ht'
    obtain rfl := arr1 ha
    obtain rfl := arr1 ht'
    split at hR
    · rename_i v e s1 s2 s3 hx ht
      split at hR
      · exact (bad_no hR h).elim
      · rename_i hns
        split at hR
        · rename_i n hv
          subst hR
          exact OpOK.len ht (.inl ⟨e, rfl⟩) hx (fun s hs => (hns s hs).elim) hv hK
        · exact (bad_no hR h).elim
    · rename_i s s1 s2 s3 hx ht
      subst hR
      exact OpOK.len ht (.inr ⟨rfl, s, rfl⟩) hx (fun _ _ => rfl) rfl hK
    · rename_i id kt et s1 s2 s3 hx ht
      split at hR
      · rename_i es ho
        subst hR
        exact OpOK.lenMap ht rfl hx ho hK
      · exact (bad_no hR h).elim
    · exact (bad_no hR h).elim
  · exact (bad_no hR h).elim

theorem append_sound {args : Array Operand} {ts : Array TypeId} {R : R3} (hR : opR cx env st (bcall .append args ts) = R) (h : R.1) (hK : K R.2.1 R.2.2) : OpOK cx (bcall .append args ts) ty env st K := by
  simp only [opR] at hR
  split at hR
  · rename_i x y t u ha ht'
    obtain rfl := arr2 ha
    obtain rfl := arr2 ht'
    split at hR
    · rename_i v e s1 s2 s3 hx hy ht
      split at hR
      · rename_i ie he
        subst hR
        obtain ⟨rfl, h1, h2⟩ := h
        refine OpOK.appendNone ht rfl he h1 hx ?_ hy rfl hK
        cases v <;> simp only [baseOK] at h2 <;> try exact h2.elim
        · exact .inl rfl
        · exact .inr (.inl ⟨_, _, rfl⟩)
        · obtain ⟨ob, cs, h3, h4⟩ := read_some h2
          exact .inr (.inr ⟨_, _, _, _, _, ob, cs, rfl, h3, h4⟩)
      · exact (bad_no hR h).elim
    · rename_i v src e s1 s2 s3 hnn hx hy ht
      split at hR
      · rename_i ie zs he hz
        obtain ⟨z, z1, z2, z3⟩ := tzs_spec he hz
        split at hR
        · rename_i more hs
          split at hR
          · subst hR
            obtain ⟨rfl, h1, h2, h3, h4, h5, h6⟩ := h
            exact OpOK.appendNew ht rfl he h1 z1 (by omega) hx hy hs h4 (by
              rcases Nat.eq_zero_or_pos (more.length / ie.size) with e | e
              · rw [e] at h4; omega
              · exact e) h5 h6 hK
          · rename_i id ver n sz
            split at hR
            · rename_i ver' cs ho
              subst hR
              obtain ⟨rfl, rfl, rfl, h1, h2, h3, h4, h5, h6, h7⟩ := h
              exact OpOK.appendOwn ht rfl he h2 z1 (by omega) hx ho h1 hy hs h5 (by
                rcases Nat.eq_zero_or_pos (more.length / ie.size) with e | e
                · rw [e] at h5; omega
                · exact e) h6 h7 hK
            · rename_i ver' cs ho
              subst hR
              obtain ⟨rfl, rfl, rfl, h1, h2, h3, h4, h5, h6, h7⟩ := h
              exact OpOK.appendAcc ht rfl he h2 z1 (by omega) hx ho h1 hy hs h5 (by
                rcases Nat.eq_zero_or_pos (more.length / ie.size) with e | e
                · rw [e] at h5; omega
                · exact e) h6 h7 hK
            · exact (bad_no hR h).elim
          · exact (bad_no hR h).elim
        · exact (bad_no hR h).elim
      · exact (bad_no hR h).elim
    · exact (bad_no hR h).elim
  · exact (bad_no hR h).elim

theorem lookup_sound {t : TypeId} {x y : Operand} {ok : Bool} {R : R3} (hR : opR cx env st (.lookup t x y ok) = R) (h : R.1) (hK : K R.2.1 R.2.2) : OpOK cx (.lookup t x y ok) ty env st K := by
  simp only [opR] at hR
  split at hR
  · rename_i kt et s1 s2 s3 id kv ht hx hy
    split at hR
    · rename_i es k z ho hk hz
      subst hR
      exact OpOK.lookup ht rfl hx hy hk h.1 hz ho h.2.1 h.2.2 hK
    · exact (bad_no hR h).elim
  · exact (bad_no hR h).elim

theorem mapUpdate_sound {t : TypeId} {x y u : Operand} {R : R3} (hR : opR cx env st (.mapUpdate t x y u) = R) (h : R.1) (hK : K R.2.1 R.2.2) : OpOK cx (.mapUpdate t x y u) ty env st K := by
  simp only [opR] at hR
  split at hR
  · rename_i kt et s1 s2 s3 id kv v ht hx hy hu
    split at hR
    · rename_i es k ho hk
      subst hR
      exact OpOK.mapUpdate ht rfl hx hy hu hk h.1 ho h.2.1 h.2.2 hK
    · exact (bad_no hR h).elim
  · exact (bad_no hR h).elim

theorem mapEntry_sound {t : TypeId} {x y : Operand} {R : R3} (hR : opR cx env st (.mapEntry t x y) = R) (h : R.1) (hK : K R.2.1 R.2.2) : OpOK cx (.mapEntry t x y) ty env st K := by
  simp only [opR] at hR
  split at hR
  · rename_i kt et s1 s2 s3 id kv ht hx hy
    split at hR
    · rename_i es k z ho hk hz
      subst hR
      exact OpOK.mapEntry ht rfl hx hy hk h.1 hz ho h.2.1 h.2.2 hK
    · exact (bad_no hR h).elim
  · exact (bad_no hR h).elim

theorem entryStore_sound {t : TypeId} {x y u : Operand} {R : R3} (hR : opR cx env st (.entryStore t x y u) = R) (h : R.1) (hK : K R.2.1 R.2.2) : OpOK cx (.entryStore t x y u) ty env st K := by
  simp only [opR] at hR
  split at hR
  · rename_i id j v hx hy hu
    split at hR
    · rename_i es ho
      subst hR
      obtain ⟨h1, h2⟩ := h
      obtain ⟨n, rfl⟩ := Int.eq_ofNat_of_zero_le h1
      simp only [Int.toNat_natCast] at h2 hK ⊢
      have hj : es[n]? = some ((es[n]'h2).1, (es[n]'h2).2) := List.getElem?_eq_getElem h2
      refine OpOK.entryStore hx hy hu ho hj ?_
      simpa [hj] using hK
    · exact (bad_no hR h).elim
  · exact (bad_no hR h).elim

theorem opR_sound {op : Op} {R : R3} (hR : opR cx env st op = R) (h : R.1) (hK : K R.2.1 R.2.2) : OpOK cx op ty env st K := by
  cases op
  case move x =>
    simp only [opR] at hR
    split at hR
    · rename_i v hx; subst hR; exact OpOK.move hx hK
    · exact (bad_no hR h).elim
  case assign x =>
    simp only [opR] at hR
    split at hR
    · rename_i v hx; subst hR; exact OpOK.assign hx hK
    · exact (bad_no hR h).elim
  case pick c x y =>
    simp only [opR] at hR
    split at hR
    · rename_i hc
      split at hR
      · rename_i v hx; subst hR; exact OpOK.pick_true hc hx hK
      · exact (bad_no hR h).elim
    · rename_i hc
      split at hR
      · rename_i v hx; subst hR; exact OpOK.pick_false hc hx hK
      · exact (bad_no hR h).elim
    · exact (bad_no hR h).elim
  case alloc t =>
    simp only [opR] at hR
    split at hR
    · rename_i zs hz
      subst hR
      cases ht : tyi cx.P t with
      | none => simp [tzs, ht] at hz
      | some i =>
        obtain ⟨z, z1, z2, _⟩ := tzs_spec ht hz
        exact OpOK.alloc (tyi_zero ht z1) z2 hK
    · exact (bad_no hR h).elim
  case box t x =>
    simp only [opR] at hR
    split at hR
    · rename_i v hx; subst hR; exact OpOK.box hx h hK
    · exact (bad_no hR h).elim
  case build t parts => exact build_sound hR h hK
  case buildSlice t len parts => exact buildSlice_sound hR h hK
  case load t x => exact load_sound hR h hK
  case store t x y =>
    simp only [opR] at hR
    split at hR
    · rename_i id ver off v i hx hy ht
      split at hR
      · rename_i ver' cs ho
        subst hR
        obtain ⟨rfl, h1, h2, h3⟩ := h
        exact OpOK.store hx hy (tyi_size ht) h1 h2 ho h3 hK
      · exact (bad_no hR h).elim
    · exact (bad_no hR h).elim
  case nilCheck x =>
    simp only [opR] at hR
    split at hR
    · rename_i hx; subst hR; exact OpOK.nilCheckFn hx hK
    · rename_i hx; subst hR; exact OpOK.nilCheckYield hx hK
    · rename_i hx
      subst hR
      obtain ⟨ob, cs, h1, h2⟩ := read_some h
      exact OpOK.nilCheckPtr hx h1 h2 hK
    · rename_i hx; subst hR; exact OpOK.nilCheckP hx hK
    · exact (bad_no hR h).elim
  case binOp op t x y u => exact binOp_sound hR h hK
  case unOp op t x =>
    simp only [opR] at hR
    split at hR
    · rename_i hx; subst hR; exact OpOK.not hx hK
    · rename_i hx; subst hR; exact OpOK.neg hx hK
    · exact (bad_no hR h).elim
  case convert s d x =>
    simp only [opR] at hR
    split at hR
    · rename_i k n i j s1 s2 s3 hx hs ht
      subst hR
      obtain ⟨du, hu, hd, _⟩ := tyi_under ht
      obtain rfl := kind_int hd
      obtain ⟨su, hsu, _⟩ := tyi_under hs
      exact OpOK.convInt ⟨su, hsu⟩ hu hx hK
    · exact (bad_no hR h).elim
  case makeFunc f first caps =>
    simp only [opR] at hR
    split at hR
    · rename_i vs hv; subst hR; exact OpOK.makeFunc (Array.eq_empty_of_size_eq_zero h) hv hK
    · exact (bad_no hR h).elim
  case makeMap t r =>
    cases r with
    | none => simp only [opR] at hR; subst hR; exact OpOK.makeMap hK
    | some r => simp only [opR] at hR; exact (bad_no hR h).elim
  case lookup t x y ok => exact lookup_sound hR h hK
  case mapUpdate t x y u => exact mapUpdate_sound hR h hK
  case mapEntry t x y => exact mapEntry_sound hR h hK
  case entryStore t x y u => exact entryStore_sound hR h hK
  case makeSlice t x y => exact makeSlice_sound hR h hK
  case slice t x lo hi mx =>
    cases mx with
    | none => exact slice_sound hR h hK
    | some m => simp only [opR] at hR; exact (bad_no hR h).elim
  case fieldAddr t x f => exact fieldAddr_sound hR h hK
  case field t x f => exact field_sound hR h hK
  case indexAddr t x y => exact indexAddr_sound hR h hK
  case index t x y => exact index_sound hR h hK
  case extract x j =>
    simp only [opR] at hR
    split at hR
    · rename_i cs hx
      subst hR
      exact OpOK.extract hx (by rw [List.getElem?_eq_getElem h]; rfl) hK
    · exact (bad_no hR h).elim
  case call c =>
    obtain ⟨callee, args, ts⟩ := c
    cases callee with
    | builtin b =>
      cases b
      case len => exact len_sound hR h hK
      case append => exact append_sound hR h hK
      case min =>
        simp only [opR] at hR
        split at hR
        · rename_i x y ha
          obtain rfl := arr2 ha
          split at hR
          · rename_i k a j b hx hy; subst hR; exact OpOK.min2 hx hy hK
          · exact (bad_no hR h).elim
        · exact (bad_no hR h).elim
      case max =>
        simp only [opR] at hR
        split at hR
        · rename_i x y ha
          obtain rfl := arr2 ha
          split at hR
          · rename_i k a j b hx hy; subst hR; exact OpOK.max2 hx hy hK
          · exact (bad_no hR h).elim
        · exact (bad_no hR h).elim
      all_goals (simp only [opR] at hR; exact (bad_no hR h).elim)
    | value f => simp only [opR] at hR; exact (bad_no hR h).elim
    | invoke r m => simp only [opR] at hR; exact (bad_no hR h).elim
  all_goals (simp only [opR] at hR; exact (bad_no hR h).elim)

end
end Go.VL
end

/- The value-level program logic, part 14: regions and code as propositions that compute. -/
section
set_option linter.unusedVariables false
set_option linter.unusedSimpArgs false
namespace Go.VL
open Go

/-- Operations that are not carried out by 'opR': calls, maps. -/
def isSp : Op → Bool
  | .call { callee := .builtin .len, argTypes := ts, .. } => false
  | .call { callee := .builtin .append, .. } | .call { callee := .builtin .min, .. } | .call { callee := .builtin .max, .. } => false
  | .call _ | .range .. | .next .. | .entry .. | .typeAssert .. | .makeInterface .. | .panic _ => true
  | _ => false

/-- An operation that is taken by a rule of its own, and what comes behind it. -/
def Sp (cx : Cx) (op : Op) (ty : TypeId) (env : Env) (st : St) (K : Option V → St → Prop) : Prop := OpOK cx op ty env st K

def OpsF (cx : Cx) (N : Nat) (all : Array Oper) : List Oper → Env → St → (Env → St → Prop) → Prop
  | [], env, st, Q => Q env st
  | o :: rest, env, st, Q =>
    dstOK N o.dst = true ∧
    match o.guard with
    | none => if isSp o.op then Sp cx o.op o.type env st (fun v st' => OpsF cx N all rest (putE env o.dst v) st' Q)
        else (opR cx env st o.op).1 ∧ OpsF cx N all rest (putE env o.dst (opR cx env st o.op).2.1) (opR cx env st o.op).2.2 Q
    | some (j, want) => match guardV all env j with
      | some b => (b = want → (if isSp o.op then Sp cx o.op o.type env st (fun v st' => OpsF cx N all rest (putE env o.dst v) st' Q)
          else (opR cx env st o.op).1 ∧ OpsF cx N all rest (putE env o.dst (opR cx env st o.op).2.1) (opR cx env st o.op).2.2 Q)) ∧
          (b ≠ want → OpsF cx N all rest (putE env o.dst none) st Q)
      | none => False

/-- What comes behind an operation of its own rule. -/
def Kop (cx : Cx) (N : Nat) (all : Array Oper) (rest : List Oper) (env : Env) (dst : Option Tmp) (Q : Env → St → Prop) : Option V → St → Prop :=
  fun v st' => OpsF cx N all rest (putE env dst v) st' Q

theorem OpsF.ok {cx : Cx} {N : Nat} {all : Array Oper} : ∀ {l : List Oper} {env : Env} {st : St} {Q : Env → St → Prop}, OpsF cx N all l env st Q → OpsOK cx N all l env st Q
  | [], env, st, Q, h => h
  | o :: rest, env, st, Q, h => by
    simp only [OpsF] at h
    obtain ⟨hd, h⟩ := h
    have go : (if isSp o.op then Sp cx o.op o.type env st (fun v st' => OpsF cx N all rest (putE env o.dst v) st' Q)
        else (opR cx env st o.op).1 ∧ OpsF cx N all rest (putE env o.dst (opR cx env st o.op).2.1) (opR cx env st o.op).2.2 Q) → OpOK cx o.op o.type env st (fun v st' => OpsOK cx N all rest (putE env o.dst v) st' Q) := by
      intro h
      split at h
      · exact OpOK.mono h (fun v st' hk => OpsF.ok hk)
      · exact opR_sound rfl h.1 (OpsF.ok h.2)
    refine ⟨hd, ?_⟩
    cases hg : o.guard with
    | none => rw [hg] at h; exact go h
    | some jw =>
      obtain ⟨j, want⟩ := jw
      rw [hg] at h
      simp only at h ⊢
      split at h
      · rename_i b hb
        exact ⟨b, hb, fun e => go (h.1 e), fun e => OpsF.ok (h.2 e)⟩
      · exact h.elim

section
variable {cx : Cx} {N : Nat} {r : RR} {all : Array Oper} {rest : List Oper} {env : Env} {st : St} {QQ : Env → St → Prop} {Q : Exit → Env → St → Prop}

theorem OpsF_nil : OpsF cx N all [] env st QQ = QQ env st := rfl
theorem OpsF_op {dst : Option Tmp} {op : Op} {ty : TypeId} {pos : String} {after : Array Edge} : OpsF cx N all ({ dst := dst, op := op, type := ty, pos := pos, after := after, guard := none } :: rest) env st QQ =
    (dstOK N dst = true ∧ if isSp op then Sp cx op ty env st (Kop cx N all rest env dst QQ) else (opR cx env st op).1 ∧ OpsF cx N all rest (putE env dst (opR cx env st op).2.1) (opR cx env st op).2.2 QQ) := rfl
/-- A guarded operation, by the value of its guard. -/
def OpsG (cx : Cx) (N : Nat) (all : Array Oper) (dst : Option Tmp) (op : Op) (ty : TypeId) (rest : List Oper) (env : Env) (st : St) (QQ : Env → St → Prop) (b want : Bool) : Prop :=
  (b = want → (if isSp op then Sp cx op ty env st (fun v st' => OpsF cx N all rest (putE env dst v) st' QQ) else (opR cx env st op).1 ∧ OpsF cx N all rest (putE env dst (opR cx env st op).2.1) (opR cx env st op).2.2 QQ)) ∧
  (b ≠ want → OpsF cx N all rest (putE env dst none) st QQ)
theorem OpsF_guard {dst : Option Tmp} {op : Op} {ty : TypeId} {pos : String} {after : Array Edge} {j : Nat} {want : Bool} : OpsF cx N all ({ dst := dst, op := op, type := ty, pos := pos, after := after, guard := some (j, want) } :: rest) env st QQ =
    (dstOK N dst = true ∧ match guardV all env j with
      | some b => OpsG cx N all dst op ty rest env st QQ b want
      | none => False) := rfl
theorem OpsG_tt {dst : Option Tmp} {op : Op} {ty : TypeId} : OpsG cx N all dst op ty rest env st QQ true true = (if isSp op then Sp cx op ty env st (Kop cx N all rest env dst QQ) else (opR cx env st op).1 ∧ OpsF cx N all rest (putE env dst (opR cx env st op).2.1) (opR cx env st op).2.2 QQ) := by
  simp only [OpsG, true_imp_iff, ne_eq, not_true_eq_false, false_imp_iff, and_true]; rfl
theorem OpsG_ff {dst : Option Tmp} {op : Op} {ty : TypeId} : OpsG cx N all dst op ty rest env st QQ false false = (if isSp op then Sp cx op ty env st (Kop cx N all rest env dst QQ) else (opR cx env st op).1 ∧ OpsF cx N all rest (putE env dst (opR cx env st op).2.1) (opR cx env st op).2.2 QQ) := by
  simp only [OpsG, true_imp_iff, ne_eq, not_true_eq_false, false_imp_iff, and_true]; rfl
theorem OpsG_tf {dst : Option Tmp} {op : Op} {ty : TypeId} : OpsG cx N all dst op ty rest env st QQ true false = OpsF cx N all rest (putE env dst none) st QQ := by
  simp [OpsG]
theorem OpsG_ft {dst : Option Tmp} {op : Op} {ty : TypeId} : OpsG cx N all dst op ty rest env st QQ false true = OpsF cx N all rest (putE env dst none) st QQ := by
  simp [OpsG]
theorem OpsG.intro {dst : Option Tmp} {op : Op} {ty : TypeId} {b want : Bool} (h1 : b = true → OpsG cx N all dst op ty rest env st QQ true want) (h2 : b = false → OpsG cx N all dst op ty rest env st QQ false want) : OpsG cx N all dst op ty rest env st QQ b want := by
  cases b
  · exact h2 rfl
  · exact h1 rfl
theorem Kop_eq {v : Option V} {dst : Option Tmp} : Kop cx N all rest env dst QQ v st = OpsF cx N all rest (putE env dst v) st QQ := rfl

/-- Code, carried out. -/
def wpF (cx : Cx) (N : Nat) (r : RR) : Code → (Exit → Env → St → Prop) → Env → St → Prop
  | .skip, Q, env, st => Q .normal env st
  | .label _, Q, env, st => Q .normal env st
  | .region _ ops false, Q, env, st => OpsF cx N ops ops.toList env st (Q .normal)
  | .seq x y, Q, env, st => wpF cx N r x (Then (fun _ env st => wpF cx N r y Q env st) Q) env st
  | .cond c x y, Q, env, st => match opnd cx env c with | some (.bool b) => (b = true → wpF cx N r x Q env st) ∧ (b = false → wpF cx N r y Q env st) | _ => False
  | .block id c, Q, env, st => wpF cx N r c (InBlock id Q) env st
  | .exit id, Q, env, st => Q (.exit id) env st
  | .goto id, Q, env, st => Q (.goto id) env st
  | .ret, Q, env, st => Q .ret env st
  | c, Q, env, st => WP cx N r c Q env st

/-- A branch. -/
def Br (cx : Cx) (N : Nat) (r : RR) (b : Bool) (x y : Code) (Q : Exit → Env → St → Prop) (env : Env) (st : St) : Prop := (b = true → wpF cx N r x Q env st) ∧ (b = false → wpF cx N r y Q env st)

theorem Br.intro {b : Bool} {x y : Code} (h1 : b = true → wpF cx N r x Q env st) (h2 : b = false → wpF cx N r y Q env st) : Br cx N r b x y Q env st := ⟨h1, h2⟩
theorem Br_true {x y : Code} : Br cx N r true x y Q env st = wpF cx N r x Q env st := by simp [Br]
theorem Br_false {x y : Code} : Br cx N r false x y Q env st = wpF cx N r y Q env st := by simp [Br]

/-- Behind the first of two pieces, the second by name. -/
def Ks (cx : Cx) (N : Nat) (r : RR) (y : Code) (Q : Exit → Env → St → Prop) : Exit → Env → St → Prop := Then (fun _ env st => wpF cx N r y Q env st) Q
def Kb (id : Nat) (Q : Exit → Env → St → Prop) : Exit → Env → St → Prop := InBlock id Q

theorem Ks_normal {y : Code} : Ks cx N r y Q .normal env st = wpF cx N r y Q env st := rfl
theorem Ks_exit {y : Code} {i : Nat} : Ks cx N r y Q (.exit i) env st = Q (.exit i) env st := rfl
theorem Ks_goto {y : Code} {i : Nat} : Ks cx N r y Q (.goto i) env st = Q (.goto i) env st := rfl
theorem Ks_ret {y : Code} : Ks cx N r y Q .ret env st = Q .ret env st := rfl
theorem Kb_normal {id : Nat} : Kb id Q .normal env st = Q .normal env st := rfl
theorem Kb_exit {id i : Nat} : Kb id Q (.exit i) env st = if i = id then Q .normal env st else Q (.exit i) env st := by
  simp only [Kb, InBlock]; split <;> rfl
theorem Kb_goto {id i : Nat} : Kb id Q (.goto i) env st = Q (.goto i) env st := rfl
theorem Kb_ret {id : Nat} : Kb id Q .ret env st = Q .ret env st := rfl

theorem wpF_sound : ∀ {c : Code} {Q : Exit → Env → St → Prop} {env : Env} {st : St}, wpF cx N r c Q env st → WP cx N r c Q env st
  | .skip, Q, env, st, h => WP.skip h
  | .label _, Q, env, st, h => WP.label h
  | .region _ ops false, Q, env, st, h => WP.region (OpsF.ok h)
  | .region _ ops true, Q, env, st, h => h
  | .seq x y, Q, env, st, h => WP.seq (WP.mono (wpF_sound h) fun e env st q => by cases e <;> first | exact wpF_sound q | exact q)
  | .cond c x y, Q, env, st, h => by
    simp only [wpF] at h
    split at h
    · rename_i b hc; exact WP.cond hc (fun e => wpF_sound (h.1 e)) (fun e => wpF_sound (h.2 e))
    · exact h.elim
  | .block id c, Q, env, st, h => WP.block (wpF_sound h)
  | .exit id, Q, env, st, h => WP.exit h
  | .goto id, Q, env, st, h => WP.goto h
  | .ret, Q, env, st, h => WP.ret h
  | .loop c, Q, env, st, h => h
  | .rangeFunc f ps a b, Q, env, st, h => h
  | .scope c, Q, env, st, h => h
  | .refuse w, Q, env, st, h => h

theorem wpF_skip : wpF cx N r .skip Q env st = Q .normal env st := rfl
theorem wpF_region {id : Nat} {l : List Oper} : wpF cx N r (.region id l.toArray false) Q env st = OpsF cx N l.toArray l env st (Q .normal) := rfl
theorem wpF_seq {x y : Code} : wpF cx N r (.seq x y) Q env st = wpF cx N r x (Ks cx N r y Q) env st := rfl
theorem wpF_cond {c : Operand} {x y : Code} : wpF cx N r (.cond c x y) Q env st = match opnd cx env c with | some (.bool b) => Br cx N r b x y Q env st | _ => False := rfl
theorem wpF_block {id : Nat} {c : Code} : wpF cx N r (.block id c) Q env st = wpF cx N r c (Kb id Q) env st := rfl
theorem wpF_exit {id : Nat} : wpF cx N r (.exit id) Q env st = Q (.exit id) env st := rfl
theorem wpF_goto {id : Nat} : wpF cx N r (.goto id) Q env st = Q (.goto id) env st := rfl
theorem wpF_ret : wpF cx N r .ret Q env st = Q .ret env st := rfl
theorem wpF_loop {c : Code} : wpF cx N r (.loop c) Q env st = WP cx N r (.loop c) Q env st := rfl
theorem wpF_rangeFunc {f : Operand} {ps : Array Tmp} {a b : Code} : wpF cx N r (.rangeFunc f ps a b) Q env st = WP cx N r (.rangeFunc f ps a b) Q env st := rfl
theorem wpF_draw {id : Nat} {ops : Array Oper} : wpF cx N r (.region id ops true) Q env st = WP cx N r (.region id ops true) Q env st := rfl

/-! ### Stores of objects by places -/
theorem st_len (s l : St) : (s ++ l).length = s.length + l.length := List.length_append
theorem st_get0 (s l : St) : (s ++ l)[s.length]? = l[0]? := by rw [List.getElem?_append_right (Nat.le_refl _)]; simp
theorem st_get (s l : St) (k : Nat) : (s ++ l)[s.length + k]? = l[k]? := by rw [List.getElem?_append_right (by omega)]; congr 1; omega
theorem st_old {s l : St} {i : Nat} {o : Ob} (h : s[i]? = some o) : (s ++ l)[i]? = some o := by rw [List.getElem?_append_left (List.getElem?_eq_some_iff.1 h).1]; exact h
theorem st_set0 (s l : St) (o : Ob) : (s ++ l).set s.length o = s ++ l.set 0 o := by rw [List.set_append_right _ _ (Nat.le_refl _)]; simp
theorem st_set (s l : St) (k : Nat) (o : Ob) : (s ++ l).set (s.length + k) o = s ++ l.set k o := by rw [List.set_append_right _ _ (by omega)]; congr 2; omega
end
end Go.VL
end

/- The value-level program logic, part 15: loops, calls and results by name; objects left behind. -/
section
set_option linter.unusedVariables false
set_option linter.unusedSimpArgs false
namespace Go.VL
open Go

section
variable {cx : Cx} {N : Nat} {r : RR} {env : Env} {st : St} {Q : Exit → Env → St → Prop}

/-- What a round of a loop has to come to. -/
def Kl {ι : Type} (E : ι → Env) (T : ι → St) (I : ι → Prop) (μ : ι → Nat) (i : ι) (Q : Exit → Env → St → Prop) : Exit → Env → St → Prop :=
  Then (fun _ env' st' => ∃ j, I j ∧ μ j < μ i ∧ Sub env' (E j) ∧ st' = T j) Q

section
variable {ι : Type} {E : ι → Env} {T : ι → St} {I : ι → Prop} {μ : ι → Nat} {i : ι}
theorem Kl_normal : Kl E T I μ i Q .normal env st = ∃ j, I j ∧ μ j < μ i ∧ Sub env (E j) ∧ st = T j := rfl
theorem Kl_exit {k : Nat} : Kl E T I μ i Q (.exit k) env st = Q (.exit k) env st := rfl
theorem Kl_goto {k : Nat} : Kl E T I μ i Q (.goto k) env st = Q (.goto k) env st := rfl
theorem Kl_ret : Kl E T I μ i Q .ret env st = Q .ret env st := rfl

theorem Kl.next (j : ι) (h1 : I j) (h2 : μ j < μ i) (h3 : Sub env (E j)) (h4 : st = T j) : Kl E T I μ i Q .normal env st := ⟨j, h1, h2, h3, h4⟩

theorem WP.loopF {c : Code} (E : ι → Env) (T : ι → St) (I : ι → Prop) (μ : ι → Nat) (i0 : ι) (h0 : I i0) (hE : Sub env (E i0)) (hst : st = T i0)
    (step : ∀ i, I i → wpF cx N r c (Kl E T I μ i Q) (E i) (T i)) : WP cx N r (.loop c) Q env st :=
  WP.loop E T I μ i0 h0 hE hst fun i hi => wpF_sound (step i hi)
end

theorem Sp.call {ty : TypeId} {x : Operand} {args : Array Operand} {ts : Array TypeId} {f : FuncId} {caps vs : List V} {K : Option V → St → Prop} (hx : opnd cx env x = some (.fn (.func f) caps)) (hv : opndL cx env args.toList = some vs)
    (h : VCall cx f (vs ++ caps) st fun r st' => K (some r) st') : Sp cx (.call { callee := .value x, args := args, argTypes := ts }) ty env st K := OpOK.call hx hv h

theorem wrapI {n : Int} (h0 : -9223372036854775808 ≤ n) (h1 : n ≤ 9223372036854775807) : IntKind.i64.wrap n = n := by
  rw [IntKind.wrap_i64]; omega

theorem Post_ret {rs : List ResultVar} {K : V → St → Prop} : Post cx rs K .ret env st = ∃ vs, ResAll cx env st rs vs ∧ K (pack vs) st := rfl
theorem Post_normal {rs : List ResultVar} {K : V → St → Prop} : Post cx rs K .normal env st = ∃ vs, ResAll cx env st rs vs ∧ K (pack vs) st := rfl

theorem res0 {K : V → St → Prop} (h : K (.tup []) st) : ∃ vs, ResAll cx env st [] vs ∧ K (pack vs) st := ⟨[], rfl, h⟩
theorem res1 {t : Tmp} {v : V} {K : V → St → Prop} (hv : look env t = some v) (h : K v st) : ∃ vs, ResAll cx env st [.tmp t] vs ∧ K (pack vs) st :=
  ⟨[v], ⟨v, [], rfl, hv, rfl⟩, h⟩
theorem res2 {t u : Tmp} {v x : V} {K : V → St → Prop} (hv : look env t = some v) (hx : look env u = some x) (h : K (.tup [v, x]) st) : ∃ vs, ResAll cx env st [.tmp t, .tmp u] vs ∧ K (pack vs) st :=
  ⟨[v, x], ⟨v, [x], rfl, hv, x, [], rfl, hx, rfl⟩, h⟩

/-- What a result in a cell is. -/
def cellRes (cx : Cx) (env : Env) (st : St) (a : Tmp) (t : TypeId) : Option V :=
  match look env a, tyi cx.P t with
  | some (.ptr id ver off), some i => (match (st[id]?).bind (Ob.read ver) with
    | some cs => loadV i.kind.agg i.size cs off
    | none => none)
  | _, _ => none

theorem cellRes_spec {a : Tmp} {t : TypeId} {v : V} (h : cellRes cx env st a t = some v) : ResIs cx env st v (.cell a t) := by
  unfold cellRes at h
  split at h
  · rename_i id ver off i hl ht
    split at h
    · rename_i cs hc
      obtain ⟨ob, h1, h2⟩ := read_of hc
      exact ⟨id, ver, off, ob, cs, i, hl, h1, h2, ht, h⟩
    · cases h
  · cases h

theorem resC {a : Tmp} {t : TypeId} {v : V} {K : V → St → Prop} (hv : cellRes cx env st a t = some v) (h : K v st) : ∃ vs, ResAll cx env st [.cell a t] vs ∧ K (pack vs) st :=
  ⟨[v], ⟨v, [], rfl, cellRes_spec hv, rfl⟩, h⟩
theorem resCT {a u : Tmp} {t : TypeId} {v x : V} {K : V → St → Prop} (hv : cellRes cx env st a t = some v) (hx : look env u = some x) (h : K (.tup [v, x]) st) : ∃ vs, ResAll cx env st [.cell a t, .tmp u] vs ∧ K (pack vs) st :=
  ⟨[v, x], ⟨v, [x], rfl, cellRes_spec hv, x, [], rfl, hx, rfl⟩, h⟩

theorem Post.r0 {K : V → St → Prop} (h : K (.tup []) st) : Post cx [] K .ret env st := res0 h
theorem Post.n0 {K : V → St → Prop} (h : K (.tup []) st) : Post cx [] K .normal env st := res0 h
theorem Post.r1 {t : Tmp} {v : V} {K : V → St → Prop} (hv : look env t = some v) (h : K v st) : Post cx [.tmp t] K .ret env st := res1 hv h
theorem Post.r2 {t u : Tmp} {v x : V} {K : V → St → Prop} (hv : look env t = some v) (hx : look env u = some x) (h : K (.tup [v, x]) st) : Post cx [.tmp t, .tmp u] K .ret env st := res2 hv hx h
theorem Post.rc {a : Tmp} {t : TypeId} {v : V} {K : V → St → Prop} (hv : cellRes cx env st a t = some v) (h : K v st) : Post cx [.cell a t] K .ret env st := resC hv h
theorem Post.rct {a u : Tmp} {t : TypeId} {v x : V} {K : V → St → Prop} (hv : cellRes cx env st a t = some v) (hx : look env u = some x) (h : K (.tup [v, x]) st) : Post cx [.cell a t, .tmp u] K .ret env st := resCT hv hx h

end
end Go.VL
end

/- The value-level program logic, part 16: what a function leaves behind. -/
section
set_option linter.unusedVariables false
set_option linter.unusedSimpArgs false
namespace Go.VL
open Go

mutual
/-- Every object that is named has a lesser number. -/
def V.bdd (n : Nat) : V → Bool
  | .ptr id _ _ => decide (id < n)
  | .slc id _ _ _ _ => decide (id < n)
  | .map id => decide (id < n)
  | .yld id => decide (id < n)
  | .lst _ cs => bddL n cs
  | .agg cs => bddL n cs
  | .tup cs => bddL n cs
  | .fn _ cs => bddL n cs
  | .pptr cs _ => bddL n cs
  | .iface _ v => v.bdd n
  | _ => true
def bddL (n : Nat) : List V → Bool
  | [] => true
  | c :: cs => c.bdd n && bddL n cs
end

theorem bddL_iff {n : Nat} : ∀ {cs : List V}, bddL n cs = true ↔ ∀ c ∈ cs, c.bdd n = true
  | [] => by simp [bddL]
  | c :: cs => by simp only [bddL, Bool.and_eq_true, bddL_iff (cs := cs), List.mem_cons, forall_eq_or_imp]

mutual
/-- The table may be cut behind what is named. -/
theorem Rep.cut {S : Nat → Prop} {σ : List Slot} {w : World} {n : Nat} {σ2 : List Slot} (hσ : ∀ id, id < n → σ2[id]? = σ[id]?) : ∀ (v : V) (x : Value), v.bdd n = true → Rep S σ w v x → Rep S σ2 w v x
  | .int k m, x, _, h => by simpa [Rep] using h
  | .bool b, x, _, h => by simpa [Rep] using h
  | .str s, x, _, h => by simpa [Rep] using h
  | .raw y, x, _, h => by simpa [Rep] using h
  | .dead, x, _, h => by simpa [Rep] using h
  | .e0, x, _, h => by simpa [Rep] using h
  | .lst sz cs, x, hb, h => by
    simp only [Rep, V.bdd] at h hb ⊢
    obtain ⟨A, m, cap, h1, h2, h3, h4, h5⟩ := h
    refine ⟨A, m, cap, h1, h2, h3, h4, fun hn => ?_⟩
    obtain ⟨b, o, e, hS, hc⟩ := h5 hn
    exact ⟨b, o, e, hS, RepCells.cut hσ b o cs hb hc⟩
  | .agg cs, x, hb, h => by
    simp only [Rep, V.bdd] at h hb ⊢
    obtain ⟨vs, h1, h2, h3⟩ := h
    exact ⟨vs, h1, h2, RepAll.cut hσ cs vs hb h3⟩
  | .tup cs, x, hb, h => by
    simp only [Rep, V.bdd] at h hb ⊢
    obtain ⟨vs, h1, h3⟩ := h
    exact ⟨vs, h1, RepAll.cut hσ cs vs hb h3⟩
  | .ptr id ver off, x, hb, h => by
    simp only [Rep, V.bdd, decide_eq_true_eq] at h hb ⊢
    rw [hσ id hb]; exact h
  | .slc id ver off m sz, x, hb, h => by
    simp only [Rep, V.bdd, decide_eq_true_eq] at h hb ⊢
    rw [hσ id hb]; exact h
  | .map id, x, hb, h => by
    simp only [Rep, V.bdd, decide_eq_true_eq] at h hb ⊢
    rw [hσ id hb]; exact h
  | .yld id, x, hb, h => by
    simp only [Rep, V.bdd, decide_eq_true_eq] at h hb ⊢
    rw [hσ id hb]; exact h
  | .fn f cs, x, hb, h => by
    simp only [Rep, V.bdd] at h hb ⊢
    obtain ⟨vs, h1, h3⟩ := h
    exact ⟨vs, h1, RepAll.cut hσ cs vs hb h3⟩
  | .pptr cs off, x, hb, h => by
    simp only [Rep, V.bdd] at h hb ⊢
    obtain ⟨b, o, h1, h2, h3⟩ := h
    exact ⟨b, o, h1, h2, RepCells.cut hσ b o cs hb h3⟩
  | .iface t y, x, hb, h => by
    simp only [Rep, V.bdd] at h hb ⊢
    obtain ⟨u, h1, h2⟩ := h
    exact ⟨u, h1, Rep.cut hσ y u hb h2⟩
theorem RepAll.cut {S : Nat → Prop} {σ : List Slot} {w : World} {n : Nat} {σ2 : List Slot} (hσ : ∀ id, id < n → σ2[id]? = σ[id]?) : ∀ (cs : List V) (xs : List Value), bddL n cs = true → RepAll S σ w cs xs → RepAll S σ2 w cs xs
  | [], xs, _, h => by simpa [RepAll] using h
  | c :: cs, xs, hb, h => by
    simp only [RepAll, bddL, Bool.and_eq_true] at h hb ⊢
    obtain ⟨y, ys, h1, h2, h3⟩ := h
    exact ⟨y, ys, h1, Rep.cut hσ c y hb.1 h2, RepAll.cut hσ cs ys hb.2 h3⟩
theorem RepCells.cut {S : Nat → Prop} {σ : List Slot} {w : World} {n : Nat} {σ2 : List Slot} (hσ : ∀ id, id < n → σ2[id]? = σ[id]?) : ∀ (b o : Nat) (cs : List V), bddL n cs = true → RepCells S σ w b o cs → RepCells S σ2 w b o cs
  | b, o, [], _, h => by simp [RepCells]
  | b, o, c :: cs, hb, h => by
    simp only [RepCells, bddL, Bool.and_eq_true] at h hb ⊢
    obtain ⟨⟨h1, x, h2, h3⟩, h4⟩ := h
    exact ⟨⟨h1, x, h2, Rep.cut hσ c x hb.1 h3⟩, RepCells.cut hσ b (o + 1) cs hb.2 h4⟩
end

mutual
theorem Rep.bounded {S : Nat → Prop} {σ : List Slot} {w : World} : ∀ (v : V) (x : Value), Rep S σ w v x → (∀ sz cs, v = .lst sz cs → cs = [] ∨ ∃ c ds, cs = c :: ds) → v.bdd σ.length = true
  | .int k m, x, h, _ => rfl
  | .bool b, x, h, _ => rfl
  | .str s, x, h, _ => rfl
  | .raw y, x, h, _ => rfl
  | .dead, x, h, _ => rfl
  | .e0, x, h, _ => rfl
  | .lst sz [], x, h, _ => rfl
  | .lst sz (c :: cs), x, h, _ => by
    simp only [Rep, V.bdd] at h ⊢
    obtain ⟨A, m, cap, h1, h2, h3, h4, h5⟩ := h
    have hm : 0 < m := by
      rcases Nat.eq_zero_or_pos m with e | e
      · subst e; simp at h3
      · exact e
    obtain ⟨b, o, e, hS, hc⟩ := h5 hm
    exact RepCells.bounded b o (c :: cs) hc
  | .agg cs, x, h, _ => by
    simp only [Rep, V.bdd] at h ⊢
    obtain ⟨vs, h1, h2, h3⟩ := h
    exact RepAll.bounded cs vs h3
  | .tup cs, x, h, _ => by
    simp only [Rep, V.bdd] at h ⊢
    obtain ⟨vs, h1, h3⟩ := h
    exact RepAll.bounded cs vs h3
  | .ptr id ver off, x, h, _ => by
    simp only [Rep, V.bdd, decide_eq_true_eq] at h ⊢
    obtain ⟨_, s, hs, _⟩ := h
    exact (List.getElem?_eq_some_iff.1 hs).1
  | .slc id ver off m sz, x, h, _ => by
    simp only [Rep, V.bdd, decide_eq_true_eq] at h ⊢
    obtain ⟨_, s, hs, _⟩ := h
    exact (List.getElem?_eq_some_iff.1 hs).1
  | .map id, x, h, _ => by
    simp only [Rep, V.bdd, decide_eq_true_eq] at h ⊢
    obtain ⟨_, s, hs, _⟩ := h
    exact (List.getElem?_eq_some_iff.1 hs).1
  | .yld id, x, h, _ => by
    simp only [Rep, V.bdd, decide_eq_true_eq] at h ⊢
    obtain ⟨_, s, hs, _⟩ := h
    exact (List.getElem?_eq_some_iff.1 hs).1
  | .fn f cs, x, h, _ => by
    simp only [Rep, V.bdd] at h ⊢
    obtain ⟨vs, h1, h3⟩ := h
    exact RepAll.bounded cs vs h3
  | .pptr cs off, x, h, _ => by
    simp only [Rep, V.bdd] at h ⊢
    obtain ⟨b, o, h1, h2, h3⟩ := h
    exact RepCells.bounded b o cs h3
  | .iface t y, x, h, _ => by
    simp only [Rep, V.bdd] at h ⊢
    obtain ⟨u, h1, h2⟩ := h
    exact Rep.bounded y u h2 (fun sz cs _ => by cases cs <;> simp)
theorem RepAll.bounded {S : Nat → Prop} {σ : List Slot} {w : World} : ∀ (cs : List V) (xs : List Value), RepAll S σ w cs xs → bddL σ.length cs = true
  | [], xs, h => rfl
  | c :: cs, xs, h => by
    simp only [RepAll, bddL, Bool.and_eq_true] at h ⊢
    obtain ⟨y, ys, h1, h2, h3⟩ := h
    exact ⟨Rep.bounded c y h2 (fun sz cs _ => by cases cs <;> simp), RepAll.bounded cs ys h3⟩
theorem RepCells.bounded {S : Nat → Prop} {σ : List Slot} {w : World} : ∀ (b o : Nat) (cs : List V), RepCells S σ w b o cs → bddL σ.length cs = true
  | b, o, [], h => rfl
  | b, o, c :: cs, h => by
    simp only [RepCells, bddL, Bool.and_eq_true] at h ⊢
    obtain ⟨⟨h1, x, h2, h3⟩, h4⟩ := h
    exact ⟨Rep.bounded c x h3 (fun sz cs _ => by cases cs <;> simp), RepCells.bounded b (o + 1) cs h4⟩
end

theorem Rep.bdd' {S : Nat → Prop} {σ : List Slot} {w : World} {v : V} {x : Value} (h : Rep S σ w v x) : v.bdd σ.length = true := Rep.bounded v x h (fun sz cs _ => by cases cs <;> simp)

def entsBdd (n : Nat) : List (Key × V) → Bool
  | [] => true
  | (_, v) :: r => v.bdd n && entsBdd n r

/-- An object that names lesser numbers alone. -/
def Ob.bdd (n : Nat) : Ob → Prop
  | .cells _ cs | .frozen _ cs | .acc _ cs => bddL n cs = true
  | .map es => entsBdd n es = true
  | .iter m _ _ => m < n
  | .loop _ _ tm _ _ _ _ _ => ∀ t v, look tm t = some v → v.bdd n = true
  | .dead => True

theorem RepEnts.bounded {S : Nat → Prop} {σ : List Slot} {w : World} : ∀ {es : List (Key × V)} {ents : List MapEntry}, RepEnts S σ w es ents → entsBdd σ.length es = true
  | [], _, _ => rfl
  | (k, v) :: r, ents, h => by
    simp only [RepEnts, entsBdd, Bool.and_eq_true] at h ⊢
    obtain ⟨e, t, h1, h2, h3, h4⟩ := h
    exact ⟨h3.bdd', RepEnts.bounded h4⟩

theorem RepEnts.cut {S : Nat → Prop} {σ : List Slot} {w : World} {n : Nat} {σ2 : List Slot} (hσ : ∀ id, id < n → σ2[id]? = σ[id]?) : ∀ {es : List (Key × V)} {ents : List MapEntry}, entsBdd n es = true → RepEnts S σ w es ents → RepEnts S σ2 w es ents
  | [], _, _, h => by simpa [RepEnts] using h
  | (k, v) :: r, ents, hb, h => by
    simp only [RepEnts, entsBdd, Bool.and_eq_true] at h hb ⊢
    obtain ⟨e, t, h1, h2, h3, h4⟩ := h
    exact ⟨e, t, h1, h2, Rep.cut hσ _ _ hb.1 h3, RepEnts.cut hσ hb.2 h4⟩

theorem ObRep.bounded {S : Nat → Prop} {σ : List Slot} {w : World} {s : Slot} {ob : Ob} (h : ObRep S σ w s ob) : ob.bdd σ.length := by
  cases ob with
  | cells ver cs => simp only [ObRep] at h; exact RepCells.bounded _ _ _ h.2.2.2.2
  | frozen ver cs => simp only [ObRep] at h; exact RepCells.bounded _ _ _ h.2.2.2
  | acc ver cs =>
    simp only [ObRep] at h
    cases cs with
    | nil => rfl
    | cons => exact RepCells.bounded _ _ _ (h.2.2.2 (by simp)).2.2.2
  | map es => simp only [ObRep] at h; obtain ⟨_, _, ents, clock, _, h4, _⟩ := h; exact RepEnts.bounded h4
  | iter m n' seen =>
    simp only [ObRep] at h
    obtain ⟨_, _, _, _, _, _, sm, h3, _⟩ := h
    exact (List.getElem?_eq_some_iff.1 h3).1
  | loop a b c d e f g i =>
    simp only [ObRep] at h
    obtain ⟨_, _, tmps, dfr, _, _, h5⟩ := h
    exact fun t v ht => (h5 t v ht).bdd'
  | dead => trivial

theorem ObRep.cut {S : Nat → Prop} {σ : List Slot} {w : World} {s : Slot} {ob : Ob} {n : Nat} {σ2 : List Slot} (hσ : ∀ id, id < n → σ2[id]? = σ[id]?) (hb : ob.bdd n) (h : ObRep S σ w s ob) : ObRep S σ2 w s ob := by
  cases ob with
  | cells ver cs => simp only [ObRep, Ob.bdd] at h hb ⊢; exact ⟨h.1, h.2.1, h.2.2.1, h.2.2.2.1, RepCells.cut hσ _ _ _ hb h.2.2.2.2⟩
  | frozen ver cs => simp only [ObRep, Ob.bdd] at h hb ⊢; exact ⟨h.1, h.2.1, h.2.2.1, RepCells.cut hσ _ _ _ hb h.2.2.2⟩
  | acc ver cs => simp only [ObRep, Ob.bdd] at h hb ⊢; exact ⟨h.1, h.2.1, h.2.2.1, fun hne => ⟨(h.2.2.2 hne).1, (h.2.2.2 hne).2.1, (h.2.2.2 hne).2.2.1, RepCells.cut hσ _ _ _ hb (h.2.2.2 hne).2.2.2⟩⟩
  | map es => simp only [ObRep, Ob.bdd] at h hb ⊢; obtain ⟨h1, h2, ents, clock, h3, h4, h5⟩ := h; exact ⟨h1, h2, ents, clock, h3, RepEnts.cut hσ hb h4, h5⟩
  | iter m n' seen =>
    simp only [ObRep, Ob.bdd] at h hb ⊢
    rw [hσ m hb]; exact h
  | loop a b c d e f g i =>
    simp only [ObRep, Ob.bdd] at h hb ⊢
    obtain ⟨h1, h2, tmps, dfr, h3, h4, h5⟩ := h
    exact ⟨h1, h2, tmps, dfr, h3, h4, fun t v ht => Rep.cut hσ _ _ (hb t v ht) (h5 t v ht)⟩
  | dead => trivial

/-! ### Conversion -/
mutual
/-- The value as it reads now: what lies in objects from 'lo' on becomes persistent. -/
inductive Conv (lo : Nat) (st : St) : V → V → Prop
  | keep {v : V} (h : v.bdd lo = true) : Conv lo st v v
  | slc {id ver off n sz : Nat} {ob : Ob} {cs ds : List V} (h0 : lo ≤ id) (h1 : st[id]? = some ob) (h2 : ob.read ver = some cs) (h3 : off + n * sz ≤ cs.length) (h4 : ConvL lo st ((cs.drop off).take (n * sz)) ds) : Conv lo st (.slc id ver off n sz) (.lst sz ds)
  | ptr {id ver off : Nat} {ob : Ob} {cs ds : List V} (h0 : lo ≤ id) (h1 : st[id]? = some ob) (h2 : ob.read ver = some cs) (h3 : ob.solid = true) (h4 : ConvL lo st cs ds) : Conv lo st (.ptr id ver off) (.pptr ds off)
  | agg {cs ds : List V} (h : ConvL lo st cs ds) : Conv lo st (.agg cs) (.agg ds)
  | tup {cs ds : List V} (h : ConvL lo st cs ds) : Conv lo st (.tup cs) (.tup ds)
  | fn {f : Fn} {cs ds : List V} (h : ConvL lo st cs ds) : Conv lo st (.fn f cs) (.fn f ds)
  | e0 : Conv lo st .e0 (.lst 1 [])
inductive ConvL (lo : Nat) (st : St) : List V → List V → Prop
  | nil : ConvL lo st [] []
  | cons {c d : V} {cs ds : List V} (h : Conv lo st c d) (hs : ConvL lo st cs ds) : ConvL lo st (c :: cs) (d :: ds)
end

theorem Conv.one {lo : Nat} {st : St} {c d : V} (h : Conv lo st c d) (hc : c.one = true) : d.one = true := by
  cases h <;> first | exact hc | rfl | cases hc

mutual
theorem Conv.bdd {lo : Nat} {st : St} : ∀ {c d : V}, Conv lo st c d → d.bdd lo = true
  | _, _, .keep h => h
  | _, _, .slc _ _ _ _ h => by simp only [V.bdd]; exact ConvL.bdd h
  | _, _, .ptr _ _ _ _ h => by simp only [V.bdd]; exact ConvL.bdd h
  | _, _, .agg h => by simp only [V.bdd]; exact ConvL.bdd h
  | _, _, .tup h => by simp only [V.bdd]; exact ConvL.bdd h
  | _, _, .fn h => by simp only [V.bdd]; exact ConvL.bdd h
  | _, _, .e0 => rfl
theorem ConvL.bdd {lo : Nat} {st : St} : ∀ {cs ds : List V}, ConvL lo st cs ds → bddL lo ds = true
  | _, _, .nil => rfl
  | _, _, .cons h hs => by simp only [bddL, Bool.and_eq_true]; exact ⟨Conv.bdd h, ConvL.bdd hs⟩
end

/-- The blocks of the objects from 'lo' on. -/
def OwnFrom (lo : Nat) (σ : List Slot) (st : St) (b : Nat) : Prop := ∃ (id : Nat) (ob : Ob) (s : Slot), lo ≤ id ∧ st[id]? = some ob ∧ ob.live = true ∧ σ[id]? = some s ∧ s.b = b

theorem read_block {S : Nat → Prop} {σ : List Slot} {st : St} {w : World} (h : StRep S σ st w) {lo id ver : Nat} {ob : Ob} {cs : List V} (h0 : lo ≤ id) (h1 : st[id]? = some ob) (h2 : ob.read ver = some cs) :
    ∃ s, σ[id]? = some s ∧ s.ver = ver ∧ s.len = cs.length ∧ s.o = 0 ∧ RepCells S σ w s.b s.o cs ∧ (cs = [] ∨ S s.b ∨ OwnFrom lo σ st s.b) := by
  obtain ⟨s, e1, e2, e3, e4⟩ := h.read h1 h2
  refine ⟨s, e1, e2, e3, h.zero id s e1, e4, ?_⟩
  have := h.ob id ob s h1 e1
  cases ob with
  | cells v' cs' => exact .inr (.inr ⟨id, _, s, h0, h1, rfl, e1, rfl⟩)
  | frozen v' cs' => simp only [ObRep] at this; exact .inr (.inl this.2.2.1)
  | acc v' cs' =>
    simp only [Ob.read] at h2
    split at h2
    · cases h2
      cases cs with
      | nil => exact .inl rfl
      | cons c cs' => exact .inr (.inr ⟨id, _, s, h0, h1, rfl, e1, rfl⟩)
    · cases h2
  | _ => cases h2

theorem read_solid {S : Nat → Prop} {σ : List Slot} {st : St} {w : World} (h : StRep S σ st w) {lo id ver : Nat} {ob : Ob} {cs : List V} (h0 : lo ≤ id) (h1 : st[id]? = some ob) (h2 : ob.read ver = some cs) (h3 : ob.solid = true) :
    ∃ s, σ[id]? = some s ∧ s.ver = ver ∧ s.len = cs.length ∧ s.o = 0 ∧ RepCells S σ w s.b s.o cs ∧ (S s.b ∨ OwnFrom lo σ st s.b) := by
  obtain ⟨s, e1, e2, e3, e4⟩ := h.read h1 h2
  refine ⟨s, e1, e2, e3, h.zero id s e1, e4, ?_⟩
  have := h.ob id ob s h1 e1
  cases ob with
  | cells v' cs' => exact .inr ⟨id, _, s, h0, h1, rfl, e1, rfl⟩
  | frozen v' cs' => simp only [ObRep] at this; exact .inl this.2.2.1
  | _ => cases h3

mutual
theorem Conv.rep {S : Nat → Prop} {σ : List Slot} {st : St} {w : World} (h : StRep S σ st w) {lo : Nat} : ∀ {c d : V} {x : Value}, Conv lo st c d → Rep S σ w c x → Rep (fun b => S b ∨ OwnFrom lo σ st b) σ w d x
  | _, _, x, .keep _, hr => Rep.mono (fun _ h => .inl h) (Le.refl _) ⟨fun _ _ => rfl, fun _ _ h => h⟩ _ _ hr
  | _, _, x, .slc (id := id) (ver := ver) (off := off) (n := n) (sz := sz) h0 h1 h2 h3 h4, hr => by
    obtain ⟨s, e1, e2, e3, e5, e4, e6⟩ := read_block h h0 h1 h2
    simp only [Rep] at hr ⊢
    obtain ⟨_, s', f1, f2, f3⟩ := hr
    rw [e1] at f1; cases f1
    have hl := ConvL.length h4
    obtain ⟨hz, ⟨rfl, _, A, ex⟩ | ⟨_, cap, sh, ex, hc, _⟩⟩ := f3 e2.symm
    · exact ⟨A, 0, 0, ex, Nat.le_refl _, by rw [← hl]; simp, hz, fun hn => by omega⟩
    refine ⟨_, n, cap, ex, hc, by rw [← hl]; simp; omega, hz, fun hn => ⟨s.b, s.o + off, rfl, ?_, ?_⟩⟩
    · rcases e6 with e6 | e6
      · rw [e6] at h3
        have : 0 < n * sz := Nat.mul_pos hn hz
        simp at h3; omega
      · exact e6
    exact ConvL.repCells h h4 (e4.part off (n * sz))
  | _, _, x, .ptr (id := id) (ver := ver) (off := off) h0 h1 h2 h3 h4, hr => by
    obtain ⟨s, e1, e2, e3, e5, e4, e6⟩ := read_solid h h0 h1 h2 h3
    simp only [Rep] at hr ⊢
    obtain ⟨_, s', f1, f2, f3⟩ := hr
    rw [e1] at f1; cases f1
    exact ⟨s.b, s.o, f3 e2.symm, e6, ConvL.repCells h h4 e4⟩
  | _, _, x, .agg (cs := cs) (ds := ds) hl, hr => by
    simp only [Rep] at hr ⊢
    obtain ⟨vs, h1, h2, h3⟩ := hr
    exact ⟨vs, h1, ConvL.one hl h2, ConvL.repAll h hl h3⟩
  | _, _, x, .tup hl, hr => by
    simp only [Rep] at hr ⊢
    obtain ⟨vs, h1, h3⟩ := hr
    exact ⟨vs, h1, ConvL.repAll h hl h3⟩
  | _, _, x, .fn hl, hr => by
    simp only [Rep] at hr ⊢
    obtain ⟨vs, h1, h3⟩ := hr
    exact ⟨vs, h1, ConvL.repAll h hl h3⟩
  | _, _, x, .e0, hr => by
    simp only [Rep] at hr ⊢
    obtain ⟨A, rfl⟩ := hr
    exact ⟨A, 0, 0, rfl, Nat.le_refl _, by simp, by omega, fun h => by omega⟩
theorem ConvL.length {lo : Nat} {st : St} : ∀ {cs ds : List V}, ConvL lo st cs ds → cs.length = ds.length
  | _, _, .nil => rfl
  | _, _, .cons h hs => by simp [ConvL.length hs]
theorem ConvL.one {lo : Nat} {st : St} : ∀ {cs ds : List V}, ConvL lo st cs ds → cs.all V.one = true → ds.all V.one = true
  | _, _, .nil, h => h
  | _, _, .cons h hs, ho => by
    simp only [List.all_cons, Bool.and_eq_true] at ho ⊢
    exact ⟨h.one ho.1, ConvL.one hs ho.2⟩
theorem ConvL.repAll {S : Nat → Prop} {σ : List Slot} {st : St} {w : World} (h : StRep S σ st w) {lo : Nat} : ∀ {cs ds : List V} {xs : List Value}, ConvL lo st cs ds → RepAll S σ w cs xs → RepAll (fun b => S b ∨ OwnFrom lo σ st b) σ w ds xs
  | _, _, xs, .nil, hr => by simpa [RepAll] using hr
  | _, _, xs, .cons hc hs, hr => by
    simp only [RepAll] at hr ⊢
    obtain ⟨y, ys, h1, h2, h3⟩ := hr
    exact ⟨y, ys, h1, Conv.rep h hc h2, ConvL.repAll h hs h3⟩
theorem ConvL.repCells {S : Nat → Prop} {σ : List Slot} {st : St} {w : World} (h : StRep S σ st w) {lo : Nat} : ∀ {cs ds : List V} {b o : Nat}, ConvL lo st cs ds → RepCells S σ w b o cs → RepCells (fun b => S b ∨ OwnFrom lo σ st b) σ w b o ds
  | _, _, b, o, .nil, hr => by simp [RepCells]
  | _, _, b, o, .cons hc hs, hr => by
    simp only [RepCells] at hr ⊢
    obtain ⟨⟨h1, x, h2, h3⟩, h4⟩ := hr
    exact ⟨⟨hc.one h1, x, h2, Conv.rep h hc h3⟩, ConvL.repCells h hs h4⟩
end

/-- **Leaving**: the objects that a call has made and that nobody names any more are let go; what is handed back reads as it read. -/
theorem VCall.exit {cx : Cx} {f : FuncId} {args : List V} {st : St} {K : V → St → Prop}
    (h : VCall cx f args st fun r st' => ∃ r' st1 new, st' = st1 ++ new ∧ st1.length = st.length ∧ (∀ (id : Nat) (ob : Ob), st1[id]? = some ob → st[id]? = some ob ∨ ob.bdd st.length) ∧ Conv st.length st' r r' ∧ K r' st1) : VCall cx f args st K := by
  refine ⟨h.1, fun S σ w vals h1 h2 h3 => (h.2 S σ w vals h1 h2 h3).mono ?_⟩
  rintro e w' ⟨v, r, st', S', σ', rfl, ⟨r', st1, new, rfl, hlen, hold, hc, hK⟩, hr, hs, hb, hev⟩
  have hsl := hs.len
  have hn : st.length = σ.length := h2.len.symm
  let n := st.length
  let σ2 := σ'.take n
  have hσ2 : ∀ id, id < n → σ2[id]? = σ'[id]? := fun id hid => by simp only [σ2, List.getElem?_take]; rw [if_pos hid]
  have hσlen : σ2.length = n := by simp only [σ2, List.length_take, hsl, List.length_append, hlen]; omega
  let S2 : Nat → Prop := fun b => S' b ∨ OwnFrom n σ' (st1 ++ new) b
  have hget : ∀ (id : Nat) (ob : Ob), st1[id]? = some ob → (st1 ++ new)[id]? = some ob ∧ id < n := fun id ob ho => by
    have hlt := (List.getElem?_eq_some_iff.1 ho).1
    exact ⟨by rw [List.getElem?_append_left hlt]; exact ho, by simp only [n]; omega⟩
  have hbd : ∀ (id : Nat) (ob : Ob), st1[id]? = some ob → ob.bdd n := fun id ob ho => by
    rcases hold id ob ho with h4 | h4
    · have hlt := (List.getElem?_eq_some_iff.1 h4).1
      have hs1 : σ[id]? = some σ[id] := List.getElem?_eq_getElem (by omega)
      have := (h2.ob id ob _ h4 hs1).bounded
      rwa [← hn] at this
    · exact h4
  have hdis : ∀ (id : Nat) (ob : Ob) (s : Slot), st1[id]? = some ob → ob.live = true → σ'[id]? = some s → ¬ S2 s.b := by
    intro id ob s ho hl hsl2 hS
    obtain ⟨g1, g2⟩ := hget id ob ho
    rcases hS with hS | ⟨id2, ob2, s2, k0, k1, k2, k3, k4⟩
    · exact (hs.own_lt ⟨id, ob, s, g1, hl, hsl2, rfl⟩).2 hS
    · have := hs.inj id id2 ob ob2 s s2 g1 k1 hl k2 hsl2 k3 k4.symm
      omega
  have hst2 : StRep S2 σ2 st1 w' := by
    refine ⟨by rw [hσlen, hlen], ?_, fun id ob s ho hs2 hso => by
      obtain ⟨g1, g2⟩ := hget id ob ho
      rw [hσ2 id g2] at hs2
      exact hs.nil id ob s g1 hs2 hso, ?_, ?_⟩
    · intro id s hs2
      have hid : id < n := by rw [← hσlen]; exact (List.getElem?_eq_some_iff.1 hs2).1
      rw [hσ2 id hid] at hs2
      exact hs.zero id s hs2
    · intro id ob s ho hs2
      obtain ⟨g1, g2⟩ := hget id ob ho
      rw [hσ2 id g2] at hs2
      have h5 := hs.ob id ob s g1 hs2
      exact (h5.mono (S' := S2) (fun _ h => .inl h) (fun hl => hdis id ob s ho hl hs2) (Le.refl _) ⟨fun _ _ => rfl, fun _ _ h => h⟩ (fun _ => rfl)).cut hσ2 (hbd id ob ho)
    · intro i j o1 o2 s1 s2 g1 g2 l1 l2 k1 k2 e
      obtain ⟨f1, f2⟩ := hget i o1 g1
      obtain ⟨f3, f4⟩ := hget j o2 g2
      rw [hσ2 i f2] at k1
      rw [hσ2 j f4] at k2
      exact hs.inj i j o1 o2 s1 s2 f1 f3 l1 l2 k1 k2 e
  have hnew : ∀ b, OwnFrom n σ' (st1 ++ new) b → Own σ' (st1 ++ new) b := fun b ⟨id, ob, s, k0, k1, k2, k3, k4⟩ => ⟨id, ob, s, k1, k2, k3, k4⟩
  have hlt2 : ∀ b, S2 b → b < w'.heap.size := fun b hS => hS.elim (hb.lt b) (fun h => (hs.own_lt (hnew b h)).1)
  refine ⟨v, r', st1, S2, σ2, rfl, hK, Rep.cut hσ2 _ _ hc.bdd (Conv.rep hs hc hr), hst2, ⟨hlt2, fun g cs hg => ⟨.inl (hb.glob g cs hg).1, RepCells.mono (fun _ h => .inl h) (Le.refl _) ⟨fun _ _ => rfl, fun _ _ h => h⟩ g (hb.glob g cs hg).1 0 cs (hb.glob g cs hg).2⟩⟩, ?_⟩
  refine ⟨hev.os, hev.tape, hev.output, hev.size, hev.shape, hev.keep, fun b h => .inl (hev.sub b h), ?_, ?_, ?_⟩
  · rintro b (hS | hO)
    · exact hev.new b hS
    · rcases hev.own b (hnew b hO) with h | h
      · exact .inr (.inr h)
      · exact .inr (.inl h)
  · rintro b ⟨id, ob, s, k1, k2, k3, rfl⟩
    obtain ⟨g1, g2⟩ := hget id ob k1
    rw [hσ2 id g2] at k3
    exact hev.own s.b ⟨id, ob, s, g1, k2, k3, rfl⟩
  · intro id s hid
    obtain ⟨s', e1, e2, e3⟩ := hev.le id s hid
    have hlt : id < n := by have := (List.getElem?_eq_some_iff.1 hid).1; simp only [n]; omega
    exact ⟨s', by rw [hσ2 id hlt]; exact e1, e2, e3⟩

/-- A call that leaves the objects that there were as they were, and whose value needs none of its own. -/
theorem VCall.clean {cx : Cx} {f : FuncId} {args : List V} {st : St} {K : V → St → Prop}
    (h : VCall cx f args st fun r st' => ∃ r' new, st' = st ++ new ∧ Conv st.length st' r r' ∧ K r' st) : VCall cx f args st K :=
  VCall.exit (h.mono fun r st' ⟨r', new, e, hc, hK⟩ => ⟨r', st, new, e, rfl, fun id ob ho => .inl ho, hc, hK⟩)

end Go.VL
end

/- The value-level program logic, part 17: a call on its own; an object that is handed back. -/
section
set_option linter.unusedVariables false
set_option linter.unusedSimpArgs false
namespace Go.VL
open Go

mutual
theorem Rep.scalar {S S2 : Nat → Prop} {σ σ2 : List Slot} {w w2 : World} : ∀ (v : V) (x : Value), v.scalar = true → Rep S σ w v x → Rep S2 σ2 w2 v x
  | .int k m, x, _, h => by simpa [Rep] using h
  | .bool b, x, _, h => by simpa [Rep] using h
  | .str s, x, _, h => by simpa [Rep] using h
  | .raw y, x, _, h => by simpa [Rep] using h
  | .agg cs, x, hb, h => by
    simp only [Rep, V.scalar] at h hb ⊢
    obtain ⟨vs, h1, h2, h3⟩ := h
    exact ⟨vs, h1, h2, RepAll.scalar cs vs hb h3⟩
  | .tup cs, x, hb, h => by
    simp only [Rep, V.scalar] at h hb ⊢
    obtain ⟨vs, h1, h3⟩ := h
    exact ⟨vs, h1, RepAll.scalar cs vs hb h3⟩
  | .dead, x, hb, _ => by cases hb
  | .e0, x, hb, _ => by cases hb
  | .lst _ _, x, hb, _ => by cases hb
  | .ptr _ _ _, x, hb, _ => by cases hb
  | .slc _ _ _ _ _, x, hb, _ => by cases hb
  | .map _, x, hb, _ => by cases hb
  | .fn _ _, x, hb, _ => by cases hb
  | .pptr _ _, x, hb, _ => by cases hb
  | .iface _ _, x, hb, _ => by cases hb
theorem RepAll.scalar {S S2 : Nat → Prop} {σ σ2 : List Slot} {w w2 : World} : ∀ (cs : List V) (xs : List Value), V.scalar.scalarAll cs = true → RepAll S σ w cs xs → RepAll S2 σ2 w2 cs xs
  | [], xs, _, h => by simpa [RepAll] using h
  | c :: cs, xs, hb, h => by
    simp only [RepAll, V.scalar.scalarAll, Bool.and_eq_true] at h hb ⊢
    obtain ⟨y, ys, h1, h2, h3⟩ := h
    exact ⟨y, ys, h1, Rep.scalar c y hb.1 h2, RepAll.scalar cs ys hb.2 h3⟩
end

/-- A call that sees what its arguments read as now, and no object of the caller's; what it hands back names no memory. -/
theorem VCall.iso {cx : Cx} {f : FuncId} {args args' : List V} {st : St} {K : V → St → Prop} (hc : ConvL 0 st args args') (h : VCall cx f args' [] fun r st' => st' = [] ∧ r.scalar = true ∧ K r st) : VCall cx f args st K := by
  refine ⟨h.1, fun S σ w vals h1 h2 h3 => ?_⟩
  have hown : ∀ b, OwnFrom 0 σ st b → b < w.heap.size := fun b ⟨id, ob, s, _, k1, k2, k3, k4⟩ => (h2.own_lt ⟨id, ob, s, k1, k2, k3, k4⟩).1
  have ha : RepAll (fun b => b < w.heap.size) [] w args' vals := by
    have g1 := ConvL.repAll h2 hc h1
    have g2 := RepAll.cut (n := 0) (σ2 := []) (fun id hid => by omega) args' vals hc.bdd g1
    exact RepAll.mono (fun b hb => hb.elim (h3.lt b) (hown b)) (Le.refl _) ⟨fun _ _ => rfl, fun _ _ h => h⟩ _ _ g2
  have hsb : SB cx (fun b => b < w.heap.size) w := ⟨fun _ h => h, fun g cs hg => ⟨h3.lt g (h3.glob g cs hg).1, RepCells.mono h3.lt (Le.refl _) ⟨fun _ _ => rfl, fun _ _ h => h⟩ g (h3.glob g cs hg).1 0 cs (h3.glob g cs hg).2⟩⟩
  have hst : StRep (fun b => b < w.heap.size) [] [] w := ⟨rfl, fun id s hs => by simp at hs, fun id ob s h => by simp at h, fun id ob s h => by simp at h, fun id id' ob ob' s s' h => by simp at h⟩
  refine (h.2 _ _ w vals ha hst hsb).mono ?_
  rintro e w' ⟨v, r, st', S', σ', rfl, ⟨rfl, hsc, hK⟩, hr, hs, hb, hev⟩
  have hkeep : ∀ b, b < w.heap.size → w'.heap[b]? = w.heap[b]? := fun b hlt => hev.keep b hlt (by rintro ⟨id, ob, s, k1, _⟩; simp at k1)
  have hst' : StRep S σ st w' := h2.turn (fun b hb => hkeep b (hb.elim (h3.lt b) (fun h => (h2.own_lt h).1))) hev.shape
  refine ⟨v, r, st, S, σ, rfl, hK, Rep.scalar _ _ hsc hr, hst', ⟨fun b hS => Nat.lt_of_lt_of_le (h3.lt b hS) hev.size, fun g cs hg => ⟨(h3.glob g cs hg).1, RepCells.mono (fun _ h => h) (Le.refl _) ⟨fun b hS => hkeep b (h3.lt b hS), hev.shape⟩ g (h3.glob g cs hg).1 0 cs (h3.glob g cs hg).2⟩⟩, ?_⟩
  exact ⟨hev.os, hev.tape, hev.output, hev.size, hev.shape, fun b hlt _ => hkeep b hlt, fun _ h => h, fun _ h => .inl h, fun _ h => .inl h, Le.refl _⟩

/-- What is asked where one object is handed back, at the head of what is new. -/
def OwnK (st : St) (K : V → St → Prop) (r : V) (st' : St) : Prop :=
  ∃ new k ob, st' = st ++ new ∧ new[k]? = some ob ∧
      ((∃ ver n sz cs, ob = .cells ver cs ∧ bddL st.length cs = true ∧ r = .slc (st.length + k) ver 0 n sz ∧ K (.slc st.length 0 0 n sz) (st ++ [.cells 0 cs])) ∨
       (∃ ver n sz cs, ob = .acc ver cs ∧ bddL st.length cs = true ∧ r = .slc (st.length + k) ver 0 n sz ∧ K (.slc st.length 0 0 n sz) (st ++ [.acc 0 cs])) ∨
       (∃ ver n sz cs, ob = .acc ver cs ∧ cs ≠ [] ∧ bddL st.length cs = true ∧ r = .slc (st.length + k) ver 0 n sz ∧ K (.slc st.length 0 0 n sz) (st ++ [.cells 0 cs])) ∨
       (∃ es, ob = .map es ∧ entsBdd st.length es = true ∧ r = .map (st.length + k) ∧ K (.map st.length) (st ++ [.map es])))

theorem OwnK.cells {st : St} {K : V → St → Prop} (new : St) (k : Nat) {ver n sz : Nat} {cs : List V} (h : new[k]? = some (.cells ver cs)) (hb : bddL st.length cs = true) (hK : K (.slc st.length 0 0 n sz) (st ++ [.cells 0 cs])) : OwnK st K (.slc (st.length + k) ver 0 n sz) (st ++ new) :=
  ⟨new, k, _, rfl, h, .inl ⟨ver, n, sz, cs, rfl, hb, rfl, hK⟩⟩
theorem OwnK.acc {st : St} {K : V → St → Prop} (new : St) (k : Nat) {ver n sz : Nat} {cs : List V} (h : new[k]? = some (.acc ver cs)) (hb : bddL st.length cs = true) (hK : K (.slc st.length 0 0 n sz) (st ++ [.acc 0 cs])) : OwnK st K (.slc (st.length + k) ver 0 n sz) (st ++ new) :=
  ⟨new, k, _, rfl, h, .inr (.inl ⟨ver, n, sz, cs, rfl, hb, rfl, hK⟩)⟩
theorem OwnK.solid {st : St} {K : V → St → Prop} (new : St) (k : Nat) {ver n sz : Nat} {cs : List V} (h : new[k]? = some (.acc ver cs)) (hne : cs ≠ []) (hb : bddL st.length cs = true) (hK : K (.slc st.length 0 0 n sz) (st ++ [.cells 0 cs])) : OwnK st K (.slc (st.length + k) ver 0 n sz) (st ++ new) :=
  ⟨new, k, _, rfl, h, .inr (.inr (.inl ⟨ver, n, sz, cs, rfl, hne, hb, rfl, hK⟩))⟩
theorem OwnK.map {st : St} {K : V → St → Prop} (new : St) (k : Nat) {es : List (Key × V)} (h : new[k]? = some (.map es)) (hb : entsBdd st.length es = true) (hK : K (.map st.length) (st ++ [.map es])) : OwnK st K (.map (st.length + k)) (st ++ new) :=
  ⟨new, k, _, rfl, h, .inr (.inr (.inr ⟨es, rfl, hb, rfl, hK⟩))⟩

/-- One object is handed back, at the head of what is new; the others are let go. -/
theorem VCall.own {cx : Cx} {f : FuncId} {args : List V} {st : St} {K : V → St → Prop} (h : VCall cx f args st (OwnK st K)) : VCall cx f args st K := by
  refine ⟨h.1, fun S σ w vals h1 h2 h3 => (h.2 S σ w vals h1 h2 h3).mono ?_⟩
  rintro e w' ⟨v, r, st', S', σ', rfl, ⟨new, k, ob, rfl, hk, hcase⟩, hr, hs, hb, hev⟩
  have hsl := hs.len
  have hn : st.length = σ.length := h2.len.symm
  have hk' : (st ++ new)[st.length + k]? = some ob := by rw [st_get]; exact hk
  have hklt : st.length + k < σ'.length := by rw [hsl]; exact (List.getElem?_eq_some_iff.1 hk').1
  let s := σ'[st.length + k]
  have hsk : σ'[st.length + k]? = some s := List.getElem?_eq_getElem hklt
  have hobs := hs.ob _ ob s hk' hsk
  have hs0 := hs.zero _ s hsk
  let s2 : Slot := ⟨s.b, 0, 0, s.len, s.nil⟩
  let σ2 := σ'.take st.length ++ [s2]
  have htl : (σ'.take st.length).length = st.length := by simp only [List.length_take, hsl, List.length_append]; omega
  have hσ2 : ∀ id, id < st.length → σ2[id]? = σ'[id]? := fun id hid => by
    simp only [σ2]; rw [List.getElem?_append_left (by omega), List.getElem?_take, if_pos hid]
  have hσ2n : σ2[st.length]? = some s2 := by
    simp only [σ2]; rw [List.getElem?_append_right (by omega), htl]; simp
  have hold : ∀ (id : Nat) (o : Ob), st[id]? = some o → (st ++ new)[id]? = some o ∧ id < st.length := fun id o ho => by
    have hlt := (List.getElem?_eq_some_iff.1 ho).1
    exact ⟨by rw [List.getElem?_append_left hlt]; exact ho, hlt⟩
  have hbd : ∀ (id : Nat) (o : Ob), st[id]? = some o → o.bdd st.length := fun id o ho => by
    have hlt := (List.getElem?_eq_some_iff.1 ho).1
    have hs1 : σ[id]? = some σ[id] := List.getElem?_eq_getElem (by omega)
    have := (h2.ob id o _ ho hs1).bounded
    rwa [← hn] at this
  -- the object that stays
  have main : ∀ (ob2 : Ob) (r2 : V), (ob2.solid = true → s.nil = false) → (ob2.live = true → ob.live = true) → ObRep S' σ2 w' s2 ob2 → Rep S' σ2 w' r2 v → K r2 (st ++ [ob2]) → ∃ v_1 r st' S' σ', Ending.returned v = .returned v_1 ∧ K r st' ∧ Rep S' σ' w' r v_1 ∧ StRep S' σ' st' w' ∧ SB cx S' w' ∧ Evo S σ st w S' σ' st' w' := by
    intro ob2 r2 hso hl ho2 hr2 hK
    have get2 : ∀ {id : Nat} {o : Ob} {t : Slot}, (st ++ [ob2])[id]? = some o → σ2[id]? = some t → (st[id]? = some o ∧ σ'[id]? = some t ∧ id < st.length) ∨ (id = st.length ∧ o = ob2 ∧ t = s2) := by
      intro id o t g1 g2
      rcases Nat.lt_trichotomy id st.length with hlt | heq | hgt
      · rw [List.getElem?_append_left hlt] at g1
        rw [hσ2 id hlt] at g2
        exact .inl ⟨g1, g2, hlt⟩
      · subst heq
        rw [List.getElem?_append_right (Nat.le_refl _)] at g1
        rw [hσ2n] at g2
        simp at g1 g2
        exact .inr ⟨rfl, g1.symm, g2.symm⟩
      · rw [List.getElem?_eq_none (by simp; omega)] at g1; cases g1
    have hst2 : StRep S' σ2 (st ++ [ob2]) w' := by
      refine ⟨by simp only [σ2, List.length_append, htl]; rfl, ?_, fun id o t g1 g2 g3 => by
        rcases get2 g1 g2 with ⟨f1, f2, f3⟩ | ⟨rfl, rfl, rfl⟩
        · exact hs.nil id o t (hold id o f1).1 f2 g3
        · exact hso g3, ?_, ?_⟩
      · intro id t ht
        rcases Nat.lt_or_ge id st.length with hlt | hge
        · rw [hσ2 id hlt] at ht; exact hs.zero id t ht
        · have : id = st.length := by
            have := (List.getElem?_eq_some_iff.1 ht).1
            simp only [σ2, List.length_append, htl, List.length_singleton] at this
            omega
          subst this
          rw [hσ2n] at ht; cases ht; rfl
      · intro id o t g1 g2
        rcases get2 g1 g2 with ⟨f1, f2, f3⟩ | ⟨rfl, rfl, rfl⟩
        · exact (hs.ob id o t (hold id o f1).1 f2).cut hσ2 (hbd id o f1)
        · exact ho2
      · intro i j o1 o2 t1 t2 g1 g2 l1 l2 k1 k2 e
        rcases get2 g1 k1 with ⟨f1, f2, f3⟩ | ⟨rfl, rfl, rfl⟩ <;> rcases get2 g2 k2 with ⟨f4, f5, f6⟩ | ⟨rfl, rfl, rfl⟩
        · exact hs.inj i j o1 o2 t1 t2 (hold i o1 f1).1 (hold j o2 f4).1 l1 l2 f2 f5 e
        · have := hs.inj i _ o1 ob t1 s (hold i o1 f1).1 hk' l1 (hl l2) f2 hsk e; omega
        · have := hs.inj j _ o2 ob t2 s (hold j o2 f4).1 hk' l2 (hl l1) f5 hsk e.symm; omega
        · rfl
    refine ⟨v, r2, st ++ [ob2], S', σ2, rfl, hK, hr2, hst2, hb, ⟨hev.os, hev.tape, hev.output, hev.size, hev.shape, hev.keep, hev.sub, hev.new, ?_, ?_⟩⟩
    · rintro b ⟨id, o, t, k1, k2, k3, rfl⟩
      rcases get2 k1 k3 with ⟨f1, f2, f3⟩ | ⟨rfl, rfl, rfl⟩
      · exact hev.own t.b ⟨id, o, t, (hold id o f1).1, k2, f2, rfl⟩
      · exact hev.own s.b ⟨_, ob, s, hk', hl k2, hsk, rfl⟩
    · intro id t hid
      obtain ⟨t', e1, e2, e3⟩ := hev.le id t hid
      have hlt : id < st.length := by have := (List.getElem?_eq_some_iff.1 hid).1; omega
      exact ⟨t', by rw [hσ2 id hlt]; exact e1, e2, e3⟩
  have slcs : ∀ {ver n sz : Nat}, Rep S' σ' w' (.slc (st.length + k) ver 0 n sz) v → s.ver = ver → Rep S' σ2 w' (.slc st.length 0 0 n sz) v := by
    intro ver n sz hr q1
    simp only [Rep] at hr ⊢
    obtain ⟨h0, s', f1, f2, f3⟩ := hr
    rw [hsk] at f1; cases f1
    refine ⟨h0, s2, hσ2n, Nat.le_refl _, fun _ => ?_⟩
    obtain ⟨hz, ha | ⟨a0, cap, sh, a1, a2, a3, a4, a5⟩⟩ := f3 q1.symm
    · exact ⟨hz, .inl ha⟩
    rw [hs0] at a1 a4
    exact ⟨hz, .inr ⟨a0, cap, sh, a1, a2, a3, a4, a5⟩⟩
  rcases hcase with ⟨ver, n, sz, cs, rfl, hbdd, rfl, hK⟩ | ⟨ver, n, sz, cs, rfl, hbdd, rfl, hK⟩ | ⟨ver, n, sz, cs, rfl, hne, hbdd, rfl, hK⟩ | ⟨es, rfl, hbdd, rfl, hK⟩
  · simp only [ObRep] at hobs
    obtain ⟨q1, q2, q3, q4, q5⟩ := hobs
    rw [hs0] at q4 q5
    refine main (.cells 0 cs) (.slc st.length 0 0 n sz) (fun _ => hs.nil _ _ s hk' hsk rfl) (fun _ => rfl) ?_ ?_ hK
    · simp only [ObRep, s2]
      exact ⟨trivial, q2, q3, q4, RepCells.cut hσ2 _ _ _ hbdd q5⟩
    · simp only [Rep] at hr ⊢
      obtain ⟨h0, s', f1, f2, f3⟩ := hr
      rw [hsk] at f1; cases f1
      refine ⟨h0, s2, hσ2n, Nat.le_refl _, fun _ => ?_⟩
      obtain ⟨hz, ha | ⟨a0, cap, sh, a1, a2, a3, a4, a5⟩⟩ := f3 q1.symm
      · exact ⟨hz, .inl ha⟩
      rw [hs0] at a1 a4
      exact ⟨hz, .inr ⟨a0, cap, sh, a1, a2, a3, a4, a5⟩⟩
  · simp only [ObRep] at hobs
    obtain ⟨q1, q2, q3, q4⟩ := hobs
    refine main (.acc 0 cs) (.slc st.length 0 0 n sz) (fun e => by cases e) (fun h => h) ?_ (slcs hr q1) hK
    simp only [ObRep, s2]
    refine ⟨trivial, q2, q3, fun hne => ?_⟩
    obtain ⟨g0, g1, g2, g3⟩ := q4 hne
    rw [hs0] at g2 g3
    exact ⟨g0, g1, g2, RepCells.cut hσ2 _ _ _ hbdd g3⟩
  · simp only [ObRep] at hobs
    obtain ⟨q1, q2, q3, q4⟩ := hobs
    obtain ⟨g0, g1, g2, g3⟩ := q4 hne
    rw [hs0] at g2 g3
    refine main (.cells 0 cs) (.slc st.length 0 0 n sz) (fun _ => g0) (fun _ => by cases cs with
      | nil => exact absurd rfl hne
      | cons => rfl) ?_ (slcs hr q1) hK
    simp only [ObRep, s2]
    exact ⟨trivial, q2, g1, g2, RepCells.cut hσ2 _ _ _ hbdd g3⟩
  · simp only [ObRep] at hobs
    obtain ⟨q1, q2, ents, clock, q3, q4, q5⟩ := hobs
    refine main (.map es) (.map st.length) (fun e => by cases e) (fun _ => rfl) ?_ ?_ hK
    · simp only [ObRep, s2]
      exact ⟨trivial, q2, ents, clock, q3, RepEnts.cut hσ2 hbdd q4, q5⟩
    · simp only [Rep] at hr ⊢
      obtain ⟨h0, s', f1, f3⟩ := hr
      rw [hsk] at f1; cases f1
      exact ⟨h0, s2, hσ2n, fun _ => f3 q1⟩

end Go.VL
end

/- The value-level program logic, part 18: a region that draws its order. -/
section
set_option linter.unusedVariables false
set_option linter.unusedSimpArgs false
namespace Go.VL
open Go

/-- Operations that may turn the store, or call. -/
def isE : Op → Bool
  | .alloc _ | .box .. | .buildSlice .. | .makeSlice .. | .makeMap .. | .store .. | .mapUpdate .. | .mapEntry .. | .entryStore .. | .range .. | .next .. => true
  | .call { callee := .builtin .len, .. } | .call { callee := .builtin .min, .. } | .call { callee := .builtin .max, .. } => false
  | .call _ => true
  | _ => false

section
variable {cx : Cx}

/-- What an operation looks at, of what is known. -/
def sel (env : Env) : List Tmp → Env
  | [] => []
  | t :: ts => match look env t with
    | some v => (t, v) :: sel env ts
    | none => sel env ts

theorem look_sel {env : Env} : ∀ {ts : List Tmp} {t : Tmp} {v : V}, look (sel env ts) t = some v → t ∈ ts ∧ look env t = some v
  | [], t, v, h => by cases h
  | u :: ts, t, v, h => by
    simp only [sel] at h
    split at h
    · rename_i x hx
      simp only [look] at h
      split at h
      · rename_i e; cases h; subst e; exact ⟨List.mem_cons_self, hx⟩
      · obtain ⟨h1, h2⟩ := look_sel h; exact ⟨List.mem_cons_of_mem _ h1, h2⟩
    · obtain ⟨h1, h2⟩ := look_sel h; exact ⟨List.mem_cons_of_mem _ h1, h2⟩

variable (ops : Array Oper) (c : List (Nat × Nat × Nat))

/-- j comes ahead of i in every order, says the certificate. -/
def Anc (i j : Nat) : Bool := ((c[i]?).getD (0, 0, 0)).1.testBit j
def lo_ (i : Nat) : Nat := ((c[i]?).getD (0, 0, 0)).2.1
def hi_ (i : Nat) : Nat := ((c[i]?).getD (0, 0, 0)).2.2

def opE (i : Nat) : Bool := ((ops[i]?).map fun o => isE o.op).getD false
def opDst (i : Nat) : Option Tmp := (ops[i]?).bind (·.dst)
def opLooks (i : Nat) : List Tmp := ((ops[i]?).map fun o => o.looksAt ops).getD []

/-- How many of the first n fulfil p. -/
def cnt : Nat → (Nat → Bool) → Nat
  | 0, _ => 0
  | n + 1, p => cnt n p + (if p n then 1 else 0)

def chkEdges (i : Nat) : Bool := match ops[i]? with
  | none => true
  | some o => o.after.toList.all fun e => !(Region.binds .any e) || decide (e.on < i)

def chkAnc (i j : Nat) : Bool := !(Anc c i j) || match ops[i]? with
  | none => false
  | some o => o.after.toList.any fun e => Region.binds .any e && (e.on == j || Anc c e.on j)

def chkTmp (i j : Nat) : Bool := i == j || (match opDst ops j with
  | some d => !((opLooks ops i).contains d || opDst ops i == some d)
  | none => true) || (if j < i then Anc c i j else Anc c j i)

def chkOne (i : Nat) : Bool :=
  chkEdges ops i && ((List.range ops.size).all fun j => chkAnc ops c i j && chkTmp ops c i j && (!(decide (j < i) && opE ops i && opE ops j) || Anc c i j)) &&
  decide (lo_ c i ≤ cnt ops.size (fun j => opE ops j && Anc c i j)) && decide (cnt ops.size (fun j => opE ops j && !Anc c j i) ≤ hi_ c i)

/-- What is asked of a region's text alone. -/
def DrawChk : Bool := (List.range ops.size).all (chkOne ops c)

/-- What is known when some of the operations are done. -/
def envOf (val : Nat → Option V) (done : Nat → Bool) (env : Env) : Nat → Env
  | 0 => env
  | i + 1 => if done i then putE (envOf val done env i) (opDst ops i) (val i) else envOf val done env i

/-- An operation's conditions: at which stores it has its value. -/
def StepC (cx : Cx) (N : Nat) (val : Nat → Option V) (T : Nat → St) (env : Env) (i : Nat) (o : Oper) : Prop :=
  dstOK N o.dst = true ∧
  match o.guard with
  | none => ex
  | some (g, want) => ∃ b, guardV ops (envOf ops val (fun _ => true) env i) g = some b ∧ (b = want → ex) ∧ (b ≠ want → val i = none ∧ (isE o.op = true → T (cnt i (opE ops) + 1) = T (cnt i (opE ops))))
where ex : Prop := if isE o.op then OpOK cx o.op o.type (sel (envOf ops val (fun _ => true) env i) (o.looksAt ops)) (T (cnt i (opE ops))) (fun V st' => V = val i ∧ st' = T (cnt i (opE ops) + 1))
    else ∀ j, lo_ c i ≤ j → j ≤ hi_ c i → j ≤ cnt ops.size (opE ops) → OpOK cx o.op o.type (sel (envOf ops val (fun _ => true) env i) (o.looksAt ops)) (T j) (fun V st' => V = val i ∧ st' = T j)

variable {ops c}

theorem putE_ne {e : Env} {d : Option Tmp} {x : Option V} {t : Tmp} (hd : d ≠ some t) (v : V) : look (putE e d x) t = some v ↔ look e t = some v := by
  cases d with
  | none => cases x <;> rfl
  | some d =>
    have hne : d ≠ t := fun e => hd (by rw [e])
    cases x with
    | some u => simp only [putE, look]; rw [if_neg hne]
    | none =>
      simp only [putE]
      constructor
      · intro hh; exact (look_forget hh).2
      · intro hh
        induction e with
        | nil => cases hh
        | cons p r ihr =>
          obtain ⟨k, y⟩ := p
          simp only [look] at hh
          simp only [forget, List.filter_cons]
          split at hh
          · rename_i e; subst e
            have : (k != d) = true := by simp [Ne.symm hne]
            simp only [this, if_true, look]; exact hh
          · rename_i e
            split
            · simp only [look]; rw [if_neg e]; exact ihr hh
            · exact ihr hh

theorem envOf_congr (val : Nat → Option V) (env : Env) (d1 d2 : Nat → Bool) (t : Tmp) : ∀ n, (∀ j, j < n → opDst ops j = some t → d1 j = d2 j) → ∀ v, look (envOf ops val d1 env n) t = some v → look (envOf ops val d2 env n) t = some v := by
  intro n
  induction n with
  | zero => intro _ v hv; exact hv
  | succ n ih =>
    intro h v hv
    have ih' := ih (fun j hj => h j (by omega))
    simp only [envOf] at hv ⊢
    by_cases hd : opDst ops n = some t
    · have e := h n (by omega) hd
      rw [e] at hv
      split at hv
      · rename_i hdone
        simp only [hdone, if_true]
        rw [hd] at hv ⊢
        cases hx : val n with
        | some u => rw [hx] at hv; simp only [putE, look, if_true] at hv ⊢; exact hv
        | none => rw [hx] at hv; simp only [putE] at hv; exact absurd rfl (look_forget hv).1
      · rename_i hdone; rw [if_neg hdone]; exact ih' v hv
    · have step : ∀ (b : Bool) (e : Env), (look (if b then putE e (opDst ops n) (val n) else e) t = some v) ↔ look e t = some v := by
        intro b e; cases b
        · simp
        · simp only [if_true]; exact putE_ne hd v
      rw [step] at hv ⊢
      exact ih' v hv


theorem cnt_congr {p q : Nat → Bool} : ∀ {n : Nat}, (∀ j, j < n → p j = q j) → cnt n p = cnt n q
  | 0, _ => rfl
  | n + 1, h => by simp only [cnt]; rw [cnt_congr (fun j hj => h j (by omega)), h n (by omega)]

theorem cnt_mono {p q : Nat → Bool} : ∀ {n : Nat}, (∀ j, j < n → p j = true → q j = true) → cnt n p ≤ cnt n q
  | 0, _ => Nat.le_refl _
  | n + 1, h => by
    simp only [cnt]
    have h1 := cnt_mono (n := n) (fun j hj => h j (by omega))
    have h2 := h n (by omega)
    cases hp : p n <;> cases hq : q n <;> simp [hp, hq] at h2 ⊢ <;> omega

theorem cnt_add {p q : Nat → Bool} {i : Nat} : ∀ {n : Nat}, i < n → p i = false → q i = true → (∀ j, j < n → j ≠ i → p j = q j) → cnt n q = cnt n p + 1
  | n + 1, hi, h1, h2, h => by
    simp only [cnt]
    by_cases e : i = n
    · subst e
      rw [h1, h2, cnt_congr (n := i) (fun j hj => (h j (by omega) (by omega)).symm)]; simp
    · rw [cnt_add (n := n) (by omega) h1 h2 (fun j hj => h j (by omega)), h n (by omega) (fun e' => e e'.symm)]; omega

theorem cnt_below {p q : Nat → Bool} {i : Nat} : ∀ {n : Nat}, i ≤ n → (∀ j, j < n → q j = (decide (j < i) && p j)) → cnt n q = cnt i p
  | 0, hi, _ => by have : i = 0 := by omega
                   subst this; rfl
  | n + 1, hi, h => by
    by_cases e : i = n + 1
    · subst e; exact cnt_congr (fun j hj => by rw [h j hj]; simp [hj])
    · simp only [cnt]
      rw [cnt_below (n := n) (by omega) (fun j hj => h j (by omega)), h n (by omega)]
      simp [show ¬ n < i by omega]

theorem sel_holds {cx : Cx} {N lo : Nat} {S : Nat → Prop} {σ : List Slot} {env env' : Env} {st : St} {a : Act} {w : World} {ts : List Tmp} (h : Holds cx N lo S σ env st a w) (hs : ∀ t v, t ∈ ts → look env' t = some v → look env t = some v) : Holds cx N lo S σ (sel env' ts) st a w :=
  ⟨h.size, fun t v hv => h.rep t v (by obtain ⟨h1, h2⟩ := look_sel hv; exact hs t v h1 h2), h.str, h.sb, h.dfr, h.le⟩

theorem OpOK.sel {cx : Cx} {op : Op} {ty : TypeId} {env env' : Env} {st : St} {K : Option V → St → Prop} {ts : List Tmp} (h : OpOK cx op ty (sel env' ts) st K) (hs : ∀ t v, t ∈ ts → look env' t = some v → look env t = some v) : OpOK cx op ty env st K :=
  fun S σ F N lo o a w h1 h2 hh hF => h S σ F N lo o a w h1 h2 (sel_holds hh hs) hF

/-- What the text's check says. -/
structure Good (ops : Array Oper) (c : List (Nat × Nat × Nat)) : Prop where
  edge : ∀ i o, ops[i]? = some o → ∀ e ∈ o.after, Region.binds .any e = true → e.on < i
  anc : ∀ i j, i < ops.size → j < ops.size → Anc c i j = true → ∃ o, ops[i]? = some o ∧ ∃ e ∈ o.after, Region.binds .any e = true ∧ (e.on = j ∨ Anc c e.on j = true)
  eff : ∀ i j, i < ops.size → j < i → opE ops i = true → opE ops j = true → Anc c i j = true
  tmp : ∀ i j d, i < ops.size → j < ops.size → i ≠ j → opDst ops j = some d → (d ∈ opLooks ops i ∨ opDst ops i = some d) → (j < i → Anc c i j = true) ∧ (i < j → Anc c j i = true)
  lo : ∀ i, i < ops.size → lo_ c i ≤ cnt ops.size (fun j => opE ops j && Anc c i j)
  hi : ∀ i, i < ops.size → cnt ops.size (fun j => opE ops j && !Anc c j i) ≤ hi_ c i

theorem DrawChk.good (h : DrawChk ops c = true) : Good ops c := by
  simp only [DrawChk, List.all_eq_true, List.mem_range, chkOne, Bool.and_eq_true, decide_eq_true_eq] at h
  have lt : ∀ {i o}, ops[i]? = some o → i < ops.size := fun e => (Array.getElem?_eq_some_iff.1 e).1
  refine ⟨?_, ?_, ?_, ?_, fun i hi => (h i hi).1.2, fun i hi => (h i hi).2⟩
  · intro i o ho e he hb
    have := (h i (lt ho)).1.1.1
    simp only [chkEdges, ho, List.all_eq_true] at this
    have := this e (by simpa using he)
    rw [hb] at this
    simpa using this
  · intro i j hi hj ha
    have := (((h i hi).1.1.2 j hj).1.1)
    simp only [chkAnc, ha, Bool.not_true, Bool.false_or] at this
    cases ho : ops[i]? with
    | none => rw [ho] at this; cases this
    | some o =>
      rw [ho] at this
      simp only [List.any_eq_true, Bool.and_eq_true, Bool.or_eq_true, beq_iff_eq] at this
      obtain ⟨e, he, hb, hx⟩ := this
      exact ⟨o, rfl, e, by simpa using he, hb, hx⟩
  · intro i j hi hj h1 h2
    have := ((h i hi).1.1.2 j (by omega)).2
    simpa [hj, h1, h2] using this
  · intro i j d hi hj hne hd hl
    have := (((h i hi).1.1.2 j hj).1.2)
    simp only [chkTmp, hd, Bool.or_eq_true, beq_iff_eq, Bool.not_eq_true', Bool.or_eq_false_iff, List.contains_eq_mem] at this
    rcases this with (h1 | h1) | h1
    · exact absurd h1 hne
    · rcases hl with hl | hl
      · simp [hl] at h1
      · simp [hl] at h1
    · constructor
      · intro h2; rw [if_pos h2] at h1; exact h1
      · intro h2; rw [if_neg (by omega)] at h1; exact h1

/-- The state between two operations, in any order. -/
structure Mid (cx : Cx) (N lo : Nat) (ops : Array Oper) (c : List (Nat × Nat × Nat)) (val : Nat → Option V) (T : Nat → St) (env : Env) (S0 : Nat → Prop) (σ0 : List Slot) (st0 : St) (w0 : World) (d : Nat → Bool) (a : Act) (w : World) : Prop where
  closed : ∀ i j, i < ops.size → j < ops.size → d i = true → Anc c i j = true → d j = true
  holds : ∃ S σ, Holds cx N lo S σ (envOf ops val d env ops.size) (T (cnt ops.size fun j => opE ops j && d j)) a w ∧ Evo S0 σ0 st0 w0 S σ (T (cnt ops.size fun j => opE ops j && d j)) w

theorem put_env (val : Nat → Option V) (env : Env) (d : Nat → Bool) (i : Nat) (hi : i < ops.size) (hd : d i = false) (htmp : ∀ j, j < ops.size → i < j → opDst ops j = opDst ops i → opDst ops i ≠ none → d j = false) :
    ∀ t v, look (envOf ops val (fun j => d j || j == i) env ops.size) t = some v → look (putE (envOf ops val d env ops.size) (opDst ops i) (val i)) t = some v := by
  have congr' : ∀ t, opDst ops i ≠ some t → ∀ n v, look (envOf ops val (fun j => d j || j == i) env n) t = some v → look (envOf ops val d env n) t = some v := by
    intro t ht n v hv
    refine envOf_congr val env _ d t n (fun j hj hjt => ?_) v hv
    by_cases e : j = i
    · subst e; exact absurd hjt ht
    · simp [e]
  intro t v hv
  cases hdi : opDst ops i with
  | none =>
    simp only [putE]
    exact congr' t (by rw [hdi]; intro h; cases h) _ v hv
  | some u =>
    by_cases e : u = t
    · subst e
      -- the last writer that is done is i
      have key : ∀ n, i < n → n ≤ ops.size → ∀ v, look (envOf ops val (fun j => d j || j == i) env n) u = some v → val i = some v := by
        intro n
        induction n with
        | zero => intro h; omega
        | succ n ih =>
          intro h1 h2 v hv
          simp only [envOf] at hv
          by_cases en : n = i
          · subst en
            simp only [beq_self_eq_true, Bool.or_true, if_true, hdi] at hv
            cases hx : val n with
            | some y => rw [hx] at hv; simp only [putE, look, if_true] at hv; exact hv
            | none => rw [hx] at hv; simp only [putE] at hv; exact absurd rfl (look_forget hv).1
          · by_cases hw : opDst ops n = some u
            · have := htmp n (by omega) (by omega) (by rw [hw, hdi]) (by rw [hdi]; intro h; cases h)
              have hf : (d n || n == i) = false := by simp [this, en]
              rw [if_neg (by simp [this, en])] at hv
              exact ih (by omega) (by omega) v hv
            · refine ih (by omega) (by omega) v ?_
              split at hv
              · exact (putE_ne hw v).1 hv
              · exact hv
      have := key ops.size hi (Nat.le_refl _) v hv
      rw [this]; simp [putE, look]
    · exact (putE_ne (by intro h; cases h; exact e rfl) v).2 (congr' t (by rw [hdi]; intro h; cases h; exact e rfl) _ v hv)

theorem looks_of {o : Oper} {i : Nat} (ho : ops[i]? = some o) : opLooks ops i = o.looksAt ops := by simp [opLooks, ho]

theorem guard_looks {o : Oper} {g : Nat} {want : Bool} (hg : o.guard = some (g, want)) {t : Tmp} (ht : opDst ops g = some t) : t ∈ o.looksAt ops := by
  simp only [opDst] at ht
  simp [Oper.looksAt, hg, ht]

theorem guardV_sub {E E' : Env} {g : Nat} {b : Bool} (h : guardV ops E g = some b) (hs : ∀ t v, opDst ops g = some t → look E t = some v → look E' t = some v) : guardV ops E' g = some b := by
  unfold guardV at h ⊢
  split at h
  · rename_i t ht
    split at h
    · rename_i b' hl
      cases h
      rw [hs t _ ht hl]
    · cases h
  · cases h

/-- One operation, done next. -/
theorem mid_step {N lo : Nat} {F : Fence} (hF : FOK F) (hg : Good ops c) {val : Nat → Option V} {T : Nat → St} {env : Env} {S0 : Nat → Prop} {σ0 : List Slot} {st0 : St} {w0 : World} {Qr : Exit → Act → World → Prop} {next : Act → World → Prop}
    {d : Nat → Bool} {a : Act} {w : World} (hm : Mid cx N lo ops c val T env S0 σ0 st0 w0 d a w) {i : Nat} {o : Oper} (ho : ops[i]? = some o) (hd : d i = false) (hpre : ∀ e ∈ o.after, Region.binds .any e = true → d e.on = true)
    (hs : StepC ops c cx N val T env i o) (hn : ∀ a' w', Mid cx N lo ops c val T env S0 σ0 st0 w0 (fun j => d j || j == i) a' w' → next a' w') : wpOpIn F 0 cx.P ops Qr i next a w := by
  have hi : i < ops.size := (Array.getElem?_eq_some_iff.1 ho).1
  have hEi : opE ops i = isE o.op := by simp [opE, ho]
  have hDi : opDst ops i = o.dst := by simp [opDst, ho]
  -- what is ahead is done, what is behind is not
  have before : ∀ j, j < ops.size → Anc c i j = true → d j = true := by
    intro j hj ha
    obtain ⟨o', ho', e, he, hb, hx⟩ := hg.anc i j hi hj ha
    rw [ho] at ho'; cases ho'
    have h1 := hpre e he hb
    rcases hx with rfl | hx
    · exact h1
    · exact hm.closed e.on j (Nat.lt_trans (hg.edge i o ho e he hb) hi) hj h1 hx
  have behind : ∀ j, j < ops.size → Anc c j i = true → d j = false := by
    intro j hj ha
    cases hx : d j with
    | false => rfl
    | true => rw [hm.closed j i hj hi hx ha] at hd; cases hd
  have closed' : ∀ i' j, i' < ops.size → j < ops.size → (d i' || i' == i) = true → Anc c i' j = true → (d j || j == i) = true := by
    intro i' j hi' hj h1 ha
    by_cases e : i' = i
    · subst e; simp [before j hj ha]
    · have : d i' = true := by simpa [e] using h1
      simp [hm.closed i' j hi' hj this ha]
  -- what it looks at
  have see : ∀ t v, t ∈ o.looksAt ops → look (envOf ops val (fun _ => true) env i) t = some v → look (envOf ops val d env ops.size) t = some v := by
    intro t v ht hv
    have e1 : ∀ n, i ≤ n → look (envOf ops val (fun j => decide (j < i)) env n) t = some v := by
      intro n hin
      induction n with
      | zero => have : i = 0 := by omega
                subst this; exact hv
      | succ n ih =>
        by_cases e : i = n + 1
        · subst e
          exact envOf_congr val env _ _ t (n + 1) (fun j hj _ => by simp [hj]) v hv
        · simp only [envOf]
          rw [if_neg (by simp; omega)]
          exact ih (by omega)
    refine envOf_congr val env _ d t ops.size (fun j hj hjt => ?_) v (e1 ops.size (by omega))
    by_cases e : j = i
    · subst e; simp [hd]
    · have := hg.tmp i j t hi hj (fun e' => e e'.symm) hjt (.inl (by rw [looks_of ho]; exact ht))
      rcases Nat.lt_or_ge j i with h | h
      · simp [h, before j hj (this.1 h)]
      · rw [behind j hj (this.2 (by omega))]; simp; omega
  have putd : ∀ t v, look (envOf ops val (fun j => d j || j == i) env ops.size) t = some v → look (putE (envOf ops val d env ops.size) o.dst (val i)) t = some v := by
    intro t v hv
    have := put_env (ops := ops) val env d i hi hd (fun j hj hij hjd hne => behind j hj ?_) t v hv
    · rw [hDi] at this; exact this
    · cases hx : opDst ops i with
      | none => exact absurd hx hne
      | some u => exact (hg.tmp i j u hi hj (by omega) (by rw [hjd, hx]) (.inr hx)).2 hij
  obtain ⟨S, σ, hh, hev⟩ := hm.holds
  have kE : isE o.op = true → cnt ops.size (fun j => opE ops j && d j) = cnt i (opE ops) := by
    intro hE
    refine cnt_below (i := i) (by omega) (fun j hj => ?_)
    cases hej : opE ops j with
    | false => simp
    | true =>
      rcases Nat.lt_trichotomy j i with h | h | h
      · simp [h, before j hj (hg.eff i j hi h (by rw [hEi, hE]) hej)]
      · subst h; simp [hd]
      · rw [behind j hj (hg.eff j i hj h hej (by rw [hEi, hE]))]; simp; omega
  have cE : isE o.op = true → cnt ops.size (fun j => opE ops j && (d j || j == i)) = cnt i (opE ops) + 1 := by
    intro hE
    rw [← kE hE]
    refine cnt_add hi (by simp [hd]) (by simp [hEi, hE]) (fun j hj hne => by simp [show (j == i) = false from by simp [hne]])
  have cN : isE o.op = false → cnt ops.size (fun j => opE ops j && (d j || j == i)) = cnt ops.size (fun j => opE ops j && d j) := by
    intro hE
    refine cnt_congr (fun j hj => ?_)
    by_cases e : j = i
    · subst e; simp [hEi, hE]
    · simp [show (j == i) = false from by simp [e]]
  unfold wpOpIn
  simp only [ho]
  obtain ⟨hdst, hs⟩ := hs
  have run : StepC.ex ops c cx val T env i o → o.wpIn F 0 cx.P a w next Qr := by
    intro hx
    unfold StepC.ex at hx
    split at hx
    · rename_i hE
      have hx := hx.sel see
      rw [← kE hE] at hx
      refine hx S σ F N lo o a w rfl rfl hh hF next Qr ?_
      rintro v V st' S' σ' w' ⟨rfl, hst⟩ hv h1 h2 h3
      refine hn _ _ ⟨closed', S', σ', ?_, ?_⟩
      · have hp := hh.put h3 h1 h2 o.dst hdst v _ hv
        rw [hst, kE hE, ← cE hE] at hp
        exact ⟨hp.size, fun t v hv => hp.rep t v (putd t v hv), hp.str, hp.sb, hp.dfr, hp.le⟩
      · have := hev.trans h3
        rw [hst, kE hE, ← cE hE] at this
        exact this
    · rename_i hE
      have hE : isE o.op = false := by simpa using hE
      have hx := (hx (cnt ops.size fun j => opE ops j && d j) (Nat.le_trans (hg.lo i hi) (cnt_mono fun j hj h => by
          simp only [Bool.and_eq_true] at h ⊢; exact ⟨h.1, before j hj h.2⟩)) (Nat.le_trans (cnt_mono fun j hj h => by
          simp only [Bool.and_eq_true, Bool.not_eq_true'] at h ⊢
          refine ⟨h.1, ?_⟩
          cases hx : Anc c j i with
          | false => rfl
          | true => rw [behind j hj hx] at h; cases h.2) (hg.hi i hi)) (cnt_mono fun j hj h => by simp only [Bool.and_eq_true] at h; exact h.1)).sel see
      refine hx S σ F N lo o a w rfl rfl hh hF next Qr ?_
      rintro v V st' S' σ' w' ⟨rfl, rfl⟩ hv h1 h2 h3
      refine hn _ _ ⟨closed', S', σ', ?_, ?_⟩
      · have hp := hh.put h3 h1 h2 o.dst hdst v _ hv
        rw [← cN hE] at hp
        exact ⟨hp.size, fun t v hv => hp.rep t v (putd t v hv), hp.str, hp.sb, hp.dfr, hp.le⟩
      · have := hev.trans h3
        rw [← cN hE] at this
        exact this
  cases hgd : o.guard with
  | none =>
    rw [hgd] at hs
    rw [if_pos (by simp [Region.wanted, hgd])]
    exact run hs
  | some jw =>
    obtain ⟨g, want⟩ := jw
    rw [hgd] at hs
    obtain ⟨b, h1, h2, h3⟩ := hs
    have h1' := guardV_sub (E' := envOf ops val d env ops.size) h1 (fun t v ht hv => see t v (guard_looks hgd ht) hv)
    have hy := guard_spec h1' hh
    by_cases e : b = want
    · rw [if_pos (by simp [Region.wanted, hgd, hy, e])]
      exact run (h2 e)
    · rw [if_neg (by simp [Region.wanted, hgd, hy, e])]
      refine ⟨fun f _ => hF.fn f, ?_⟩
      obtain ⟨hvi, hT⟩ := h3 e
      have cc : T (cnt ops.size fun j => opE ops j && (d j || j == i)) = T (cnt ops.size fun j => opE ops j && d j) := by
        cases hE : isE o.op with
        | true => rw [cE hE, kE hE]; exact hT hE
        | false => rw [cN hE]
      refine hn _ _ ⟨closed', S, σ, ?_, ?_⟩
      · have hp := hh.put (Evo.refl _ _ _ _) hh.str hh.sb o.dst hdst undef (val i) (fun u hu => by rw [hvi] at hu; cases hu)
        rw [cc]
        exact ⟨hp.size, fun t v hv => hp.rep t v (putd t v hv), hp.str, hp.sb, hp.dfr, hp.le⟩
      · rw [cc]; exact hev

theorem mid_congr {N lo : Nat} {val : Nat → Option V} {T : Nat → St} {env : Env} {S0 : Nat → Prop} {σ0 : List Slot} {st0 : St} {w0 : World} {d d' : Nat → Bool} {a : Act} {w : World} (h : Mid cx N lo ops c val T env S0 σ0 st0 w0 d a w) (hd : ∀ j, j < ops.size → d j = d' j) : Mid cx N lo ops c val T env S0 σ0 st0 w0 d' a w := by
  have e1 : cnt ops.size (fun j => opE ops j && d j) = cnt ops.size (fun j => opE ops j && d' j) := cnt_congr fun j hj => by rw [hd j hj]
  refine ⟨fun i j hi hj h1 h2 => ?_, ?_⟩
  · rw [← hd j hj]; rw [← hd i hi] at h1; exact h.closed i j hi hj h1 h2
  · obtain ⟨S, σ, hh, hev⟩ := h.holds
    rw [e1] at hh hev
    refine ⟨S, σ, ⟨hh.size, fun t v hv => hh.rep t v (envOf_congr val env d' d t ops.size (fun j hj _ => (hd j hj).symm) v hv), hh.str, hh.sb, hh.dfr, hh.le⟩, hev⟩

theorem any_sound {N lo : Nat} {F : Fence} (hF : FOK F) (hg : Good ops c) {val : Nat → Option V} {T : Nat → St} {env : Env} {S0 : Nat → Prop} {σ0 : List Slot} {st0 : St} {w0 : World} {Qr : Exit → Act → World → Prop}
    (hs : ∀ i o, ops[i]? = some o → StepC ops c cx N val T env i o)
    (hq : ∀ a w, Mid cx N lo ops c val T env S0 σ0 st0 w0 (fun _ => true) a w → Qr .normal a w) : ∀ (fuel : Nat) (listed : Array Bool) (a : Act) (w : World), listed.size = ops.size → cnt ops.size (fun j => !listed.getD j false) ≤ fuel →
    Mid cx N lo ops c val T env S0 σ0 st0 w0 (fun j => listed.getD j false) a w → wpAnyIn F 0 cx.P .any ops Qr fuel listed a w := by
  -- nothing is ready: all is done
  have fin : ∀ (listed : Array Bool), listed.size = ops.size → Region.ready .any ops listed = [] → ∀ j, j < ops.size → listed.getD j false = true := by
    intro listed hsz hr j
    induction j using Nat.strongRecOn with
    | ind j ih =>
      intro hj
      cases hx : listed.getD j false with
      | true => rfl
      | false =>
        exfalso
        have : j ∈ Region.ready .any ops listed := by
          rw [mem_ready]
          refine ⟨?_, ops[j], by simp [hj], fun e he hb => ?_⟩
          · have hjl : j < listed.size := by omega
            simp [hjl] at hx ⊢; exact hx
          · have := hg.edge j ops[j] (by simp [hj]) e he hb
            exact ih e.on this (by omega)
        rw [hr] at this; cases this
  have all : ∀ (listed : Array Bool) (a : Act) (w : World), (∀ j, j < ops.size → listed.getD j false = true) → Mid cx N lo ops c val T env S0 σ0 st0 w0 (fun j => listed.getD j false) a w → Qr .normal a w :=
    fun listed a w h hm => hq a w (mid_congr hm fun j hj => h j hj)
  have cnt0 : ∀ {n : Nat} {p : Nat → Bool}, cnt n p ≤ 0 → ∀ j, j < n → p j = false := by
    intro n p
    induction n with
    | zero => intro _ j hj; omega
    | succ n ih =>
      intro h j hj
      simp only [cnt] at h
      by_cases e : j = n
      · subst e; cases hp : p j with
        | false => rfl
        | true => simp [hp] at h
      · exact ih (by omega) j (by omega)
  intro fuel
  induction fuel with
  | zero =>
    intro listed a w hsz hc hm
    have h := cnt0 hc
    have h' : ∀ j, j < ops.size → listed.getD j false = true := fun j hj => by simpa using h j hj
    refine ⟨?_, all listed a w h' hm⟩
    cases hr : Region.ready .any ops listed with
    | nil => rfl
    | cons j r =>
      exfalso
      have : j ∈ Region.ready .any ops listed := by rw [hr]; exact List.mem_cons_self
      obtain ⟨h1, o, ho, _⟩ := mem_ready.1 this
      have hj : j < ops.size := (Array.getElem?_eq_some_iff.1 ho).1
      have h2 := h' j hj
      have hjl : j < listed.size := by omega
      simp [hjl] at h1 h2; rw [h1] at h2; cases h2
  | succ fuel ih =>
    intro listed a w hsz hc hm
    refine ⟨fun hr => all listed a w (fin listed hsz hr) hm, fun i hi => ?_⟩
    obtain ⟨h1, o, ho, hall⟩ := mem_ready.1 hi
    have hio : i < ops.size := (Array.getElem?_eq_some_iff.1 ho).1
    have hil : i < listed.size := by omega
    have hd : listed.getD i false = false := by simp [hil] at h1 ⊢; exact h1
    refine mid_step hF hg hm ho hd hall (hs i o ho) fun a' w' hm' => ?_
    have hset : ∀ j, (listed.setIfInBounds i true).getD j false = (listed.getD j false || j == i) := by
      intro j
      by_cases e : i = j
      · subst e; simp [hil]
      · rw [getD_set_ne false e]; simp [Ne.symm e]
    refine ih _ a' w' (by simpa using hsz) ?_ (mid_congr hm' fun j _ => (hset j).symm)
    have := cnt_add (n := ops.size) (i := i) (p := fun j => !(listed.setIfInBounds i true).getD j false) (q := fun j => !listed.getD j false) hio (by simp only [hset]; simp) (by simp only [hd]; rfl) (fun j hj hne => by simp only [hset]; simp [hne])
    omega

/-- A region whose order is drawn. -/
theorem WP.draw {N : Nat} {r : RR} {id : Nat} {env : Env} {st : St} {Q : Exit → Env → St → Prop} (val : Nat → Option V) (T : Nat → St) (hm : cx.P.follows .mixedOrders = true) (hc : DrawChk ops c = true) (h0 : T 0 = st)
    (hs : ∀ i o, ops[i]? = some o → StepC ops c cx N val T env i o) (hq : Q .normal (envOf ops val (fun _ => true) env ops.size) (T (cnt ops.size (opE ops)))) : WP cx N r (.region id ops true) Q env st := by
  intro lo S σ F a w hh hF hr
  refine wpIn_region_any hm ?_
  have hev0 : Evo S σ st w S σ st { w with drawn := w.drawn + 1 } := ⟨rfl, rfl, rfl, Nat.le_refl _, fun _ _ h => h, fun _ _ _ => rfl, fun _ h => h, fun _ h => .inl h, fun _ h => .inl h, Le.refl _⟩
  have hh0 : Holds cx N lo S σ env st a { w with drawn := w.drawn + 1 } := ⟨hh.size, fun t v hv => hev0.rep hh.str hh.sb.lt (hh.rep t v hv), hh.str.turn (fun _ _ => rfl) (fun _ _ h => h), hev0.sb hh.str hh.sb hh.sb.lt, DefOK.mono hev0 _ hh.dfr, hh.le⟩
  refine any_sound (lo := lo) (S0 := S) (σ0 := σ) (st0 := st) (w0 := w) hF (DrawChk.good hc) hs ?_ ops.size _ a _ (by simp) ?_ ?_
  · intro a' w' hmm
    obtain ⟨S', σ', h1, h2⟩ := hmm.holds
    simp only [Bool.and_true] at h1 h2
    exact ⟨_, _, S', σ', hq, h1, h2.toW⟩
  · have : ∀ n p, cnt n p ≤ n := by
      intro n p
      induction n with
      | zero => exact Nat.le_refl _
      | succ n ih => simp only [cnt]; split <;> omega
    exact this _ _
  · have e0 : ∀ j, (Array.replicate ops.size false).getD j false = false := by
      intro j
      by_cases h : j < ops.size
      · simp [h]
      · simp [h]
    have c0 : cnt ops.size (fun j => opE ops j && (Array.replicate ops.size false).getD j false) = 0 := by
      rw [cnt_congr (q := fun _ => false) (fun j _ => by rw [e0]; simp)]
      generalize ops.size = n
      induction n with
      | zero => rfl
      | succ n ih => simp only [cnt, ih]; rfl
    refine ⟨fun i j hi hj h => by (rw [e0] at h; cases h), ⟨S, σ, ?_, ?_⟩⟩
    · rw [c0, h0]
      refine ⟨hh0.size, fun t v hv => hh0.rep t v ?_, hh0.str, hh0.sb, hh0.dfr, hh0.le⟩
      have : ∀ n, envOf ops val (fun j => (Array.replicate ops.size false).getD j false) env n = env := by
        intro n
        induction n with
        | zero => rfl
        | succ n ih => simp only [envOf]; rw [if_neg (by rw [e0]; decide)]; exact ih
      rw [this] at hv; exact hv
    · rw [c0, h0]; exact hev0
end
end Go.VL
end

/- The value-level program logic, part 19: a drawn region as a proposition that computes. -/
section
set_option linter.unusedVariables false
set_option linter.unusedSimpArgs false
namespace Go.VL
open Go

/-- One row of a region's certificate: what is ahead (as bits), least and greatest number of effects ahead, what it looks at. -/
abbrev C4 := Nat × Nat × Nat × List Nat

def PastOK (cx : Cx) (e : Env) (op : Op) (v : Option V) : List St → Prop
  | [] => True
  | s :: r => ((opR cx e s op).1 ∧ (opR cx e s op).2.1 = v) ∧ PastOK cx e op v r

abbrev Pend := List (Op × Env × Nat × Option V)

def PendOK (cx : Cx) (k : Nat) (s : St) : Pend → Prop
  | [] => True
  | (op, e, hi, v) :: r => (k ≤ hi → (opR cx e s op).1 ∧ (opR cx e s op).2.1 = v) ∧ PendOK cx k s r

/-- An effect of its own rule in a drawn region: with one answer. -/
def SpD (cx : Cx) (op : Op) (ty : TypeId) (env : Env) (st : St) (K : Option V → St → Prop) : Prop := ∃ v st', OpOK cx op ty env st (fun V s => V = v ∧ s = st') ∧ K v st'

def DrawF (cx : Cx) (N : Nat) (all : Array Oper) : List Oper → List C4 → Nat → List St → Pend → Env → St → (Env → St → Prop) → Prop
  | [], _, _, _, _, env, st, Q => Q env st
  | _ :: _, [], _, _, _, _, _, _ => False
  | o :: rest, (an, lo, hi, lk) :: cs, k, past, pend, env, st, Q =>
    let body : Prop :=
      if isE o.op then
        if isSp o.op then SpD cx o.op o.type (sel env lk) st (fun v st' => PendOK cx (k + 1) st' pend ∧ DrawF cx N all rest cs (k + 1) (st :: past) pend (putE env o.dst v) st' Q)
        else (opR cx (sel env lk) st o.op).1 ∧ PendOK cx (k + 1) (opR cx (sel env lk) st o.op).2.2 pend ∧ DrawF cx N all rest cs (k + 1) (st :: past) pend (putE env o.dst (opR cx (sel env lk) st o.op).2.1) (opR cx (sel env lk) st o.op).2.2 Q
      else (opR cx (sel env lk) st o.op).1 ∧ PastOK cx (sel env lk) o.op (opR cx (sel env lk) st o.op).2.1 (past.take (k - lo)) ∧
        DrawF cx N all rest cs k past (if k < hi then (o.op, sel env lk, hi, (opR cx (sel env lk) st o.op).2.1) :: pend else pend) (putE env o.dst (opR cx (sel env lk) st o.op).2.1) st Q
    dstOK N o.dst = true ∧
    match o.guard with
    | none => body
    | some (j, want) => match guardV all env j with
      | some b => (b = want → body) ∧ (b ≠ want → if isE o.op then DrawF cx N all rest cs (k + 1) (st :: past) pend (putE env o.dst none) st Q else DrawF cx N all rest cs k past pend (putE env o.dst none) st Q)
      | none => False

theorem opR_same {cx : Cx} {e : Env} {s : St} {op : Op} (hE : isE op = false) (h : (opR cx e s op).1) : (opR cx e s op).2.2 = s := by
  have bd : ∀ {s : St}, bad.1 → bad.2.2 = s := fun h => h.elim
  have ld : ∀ (g : Bool) (n : Nat) (cs : List V) (o : Nat), (loadR g n cs o s).2.2 = s := fun g n cs o => by unfold loadR; split <;> rfl
  have bn : ∀ (op : BinOp) (k j : IntKind) (a b : Int), (binR op k j a b s).1 → (binR op k j a b s).2.2 = s := fun op k j a b => by
    unfold binR
    split
    · intro _; rfl
    · intro _; rfl
    · intro _; rfl
    · intro _; rfl
    · split
      · intro _; rfl
      · exact bd
  revert h
  cases op <;> first | (exfalso; simp only [isE, Bool.true_eq_false] at hE; done) | skip
  case slice t x lo hi mx =>
    cases mx <;> simp only [opR] <;> (repeat' split) <;> first | (intro _; rfl) | exact bd | skip
  case call c =>
    obtain ⟨callee, args, ts⟩ := c
    cases callee with
    | value f => simp [isE] at hE
    | invoke r m => simp [isE] at hE
    | builtin b =>
      cases b <;> first | (exfalso; simp only [isE, Bool.true_eq_false] at hE; done) | skip
      all_goals simp only [opR] <;> (repeat' split) <;> first | (intro _; rfl) | exact bd | skip
  all_goals try (simp only [opR]; (repeat' split) <;> first | (intro _; rfl) | exact bd | (intro _; exact ld _ _ _ _) | (exact bn _ _ _ _ _) | skip)

section
variable {cx : Cx} {N : Nat} {all : Array Oper}

theorem pastOK_get {e : Env} {op : Op} {v : Option V} : ∀ {l : List St} {j : Nat} {s : St}, PastOK cx e op v l → l[j]? = some s → (opR cx e s op).1 ∧ (opR cx e s op).2.1 = v
  | [], j, s, h, hj => by simp at hj
  | a :: l, 0, s, h, hj => by simp at hj; subst hj; exact h.1
  | a :: l, j + 1, s, h, hj => pastOK_get h.2 (by simpa using hj)

theorem pendOK_mem {k : Nat} {s : St} : ∀ {l : Pend} {p : Op × Env × Nat × Option V}, PendOK cx k s l → p ∈ l → k ≤ p.2.2.1 → (opR cx p.2.1 s p.1).1 ∧ (opR cx p.2.1 s p.1).2.1 = p.2.2.2
  | [], p, h, hp, _ => by cases hp
  | (op, e, hi, v) :: r, p, h, hp, hk => by
    rcases List.mem_cons.1 hp with rfl | hp
    · exact h.1 hk
    · exact pendOK_mem h.2 hp hk

theorem pendOK_of {k : Nat} {s : St} : ∀ {l : Pend}, (∀ p ∈ l, k ≤ p.2.2.1 → (opR cx p.2.1 s p.1).1 ∧ (opR cx p.2.1 s p.1).2.1 = p.2.2.2) → PendOK cx k s l
  | [], _ => trivial
  | (op, e, hi, v) :: r, h => ⟨h (op, e, hi, v) List.mem_cons_self, pendOK_of fun p hp => h p (List.mem_cons_of_mem _ hp)⟩

theorem envOf_ext {val val' : Nat → Option V} {env : Env} : ∀ {n : Nat}, (∀ j, j < n → val j = val' j) → envOf all val (fun _ => true) env n = envOf all val' (fun _ => true) env n
  | 0, _ => rfl
  | n + 1, h => by simp only [envOf, if_true]; rw [envOf_ext (fun j hj => h j (by omega)), h n (by omega)]

/-- A row of the certificate, without what it looks at. -/
def C4.three (c : List C4) : List (Nat × Nat × Nat) := c.map fun p => (p.1, p.2.1, p.2.2.1)

theorem DrawF.sound {env0 : Env} {Q : Env → St → Prop} {cs0 : List C4} (hlk : ∀ (i : Nat) (o : Oper) (c : C4), all[i]? = some o → cs0[i]? = some c → c.2.2.2 = o.looksAt all) :
    ∀ (l : List Oper) (cs : List C4) (i k : Nat) (past : List St) (pend : Pend) (env : Env) (st : St) (val0 : Nat → Option V) (T0 : Nat → St),
    all.toList.drop i = l → cs0.drop i = cs → env = envOf all val0 (fun _ => true) env0 i → k = cnt i (opE all) → past.length = k → (∀ j, j < k → past[k - 1 - j]? = some (T0 j)) → st = T0 k → PendOK cx k st pend →
    DrawF cx N all l cs k past pend env st Q →
    ∃ (val : Nat → Option V) (T : Nat → St), (∀ j, j < i → val j = val0 j) ∧ (∀ j, j ≤ k → T j = T0 j) ∧ (∀ i' o, i ≤ i' → all[i']? = some o → StepC all (C4.three cs0) cx N val T env0 i' o) ∧
      (∀ p ∈ pend, ∀ j, k ≤ j → j ≤ p.2.2.1 → j ≤ cnt all.size (opE all) → (opR cx p.2.1 (T j) p.1).1 ∧ (opR cx p.2.1 (T j) p.1).2.1 = p.2.2.2) ∧
      Q (envOf all val (fun _ => true) env0 all.size) (T (cnt all.size (opE all))) := by
  intro l
  induction l with
  | nil =>
    intro cs i k past pend env st val0 T0 hl hcs he hk hpl hp hst hpd h
    have hi : all.size ≤ i := by simpa using hl
    have e1 : ∀ (p : Nat → Bool), (∀ j, all.size ≤ j → p j = false) → cnt i p = cnt all.size p := by
      intro p hpf
      obtain ⟨d, rfl⟩ : ∃ d, i = all.size + d := ⟨i - all.size, by omega⟩
      clear hl he hk hp hst hpd h hi hcs
      induction d with
      | zero => rfl
      | succ d ih => rw [← Nat.add_assoc]; simp only [cnt, hpf (all.size + d) (by omega)]; simpa using ih
    have e2 : envOf all val0 (fun _ => true) env0 i = envOf all val0 (fun _ => true) env0 all.size := by
      obtain ⟨d, rfl⟩ : ∃ d, i = all.size + d := ⟨i - all.size, by omega⟩
      clear hl he hk hp hst hpd h hi e1 hcs
      induction d with
      | zero => rfl
      | succ d ih => rw [← Nat.add_assoc]; simp only [envOf, if_true]; rw [ih]; simp [opDst, putE]
    have ek : k = cnt all.size (opE all) := by rw [hk]; exact e1 _ (fun j hj => by simp [opE, hj])
    refine ⟨val0, T0, fun _ _ => rfl, fun _ _ => rfl, fun i' o hi' ho => ?_, fun p hpp j h1 h2 h3 => ?_, ?_⟩
    · have := (Array.getElem?_eq_some_iff.1 ho).1; omega
    · have : j = k := by omega
      subst this; rw [← hst]; exact pendOK_mem hpd hpp h2
    · simp only [DrawF] at h
      rw [← ek, ← hst, ← e2, ← he]; exact h
  | cons o rest ih =>
    intro cs i k past pend env st val0 T0 hl hcs he hk hpl hp hst hpd h
    cases cs with
    | nil => simp only [DrawF] at h
    | cons c cs =>
      obtain ⟨an, lo, hi, lk⟩ := c
      have hoi : all[i]? = some o := by
        have : (all.toList.drop i)[0]? = some o := by rw [hl]; rfl
        simpa using this
      have hci : cs0[i]? = some (an, lo, hi, lk) := by
        have : (cs0.drop i)[0]? = some (an, lo, hi, lk) := by rw [hcs]; rfl
        simpa using this
      have hlko := hlk i o _ hoi hci
      simp only at hlko
      subst hlko
      have hlo : lo_ (C4.three cs0) i = lo := by simp [lo_, C4.three, hci]
      have hhi : hi_ (C4.three cs0) i = hi := by simp [hi_, C4.three, hci]
      have hsz : i < all.size := (Array.getElem?_eq_some_iff.1 hoi).1
      have hl' : all.toList.drop (i + 1) = rest := by rw [← List.drop_drop, hl]; rfl
      have hcs' : cs0.drop (i + 1) = cs := by rw [← List.drop_drop, hcs]; rfl
      have hEi : opE all i = isE o.op := by simp [opE, hoi]
      have hDi : opDst all i = o.dst := by simp [opDst, hoi]
      simp only [DrawF] at h
      obtain ⟨hd, h⟩ := h
      -- effect, done
      have goE : ∀ (v : Option V) (st' : St), isE o.op = true → PendOK cx (k + 1) st' pend → DrawF cx N all rest cs (k + 1) (st :: past) pend (putE env o.dst v) st' Q →
          ∃ (val : Nat → Option V) (T : Nat → St), (∀ j, j < i → val j = val0 j) ∧ val i = v ∧ (∀ j, j ≤ k → T j = T0 j) ∧ T (k + 1) = st' ∧ (∀ i' o, i + 1 ≤ i' → all[i']? = some o → StepC all (C4.three cs0) cx N val T env0 i' o) ∧
            (∀ p ∈ pend, ∀ j, k ≤ j → j ≤ p.2.2.1 → j ≤ cnt all.size (opE all) → (opR cx p.2.1 (T j) p.1).1 ∧ (opR cx p.2.1 (T j) p.1).2.1 = p.2.2.2) ∧
            Q (envOf all val (fun _ => true) env0 all.size) (T (cnt all.size (opE all))) := by
        intro v st' hE hpd' hD
        obtain ⟨val, T, a1, a2, a3, a4, a5⟩ := ih cs (i + 1) (k + 1) (st :: past) pend (putE env o.dst v) st' (fun j => if j = i then v else val0 j) (fun j => if j = k + 1 then st' else T0 j) hl' hcs' (by
            simp only [envOf, if_true, hDi]
            rw [he, envOf_ext (val' := fun j => if j = i then v else val0 j) (fun j hj => by simp [show j ≠ i by omega])]) (by simp only [cnt, hEi, hE]; simp [hk]) (by simp [hpl]) (fun j hj => by
            by_cases e : j = k
            · subst e; simp [hst]
            · rw [show k + 1 - 1 - j = (k - 1 - j) + 1 by omega, List.getElem?_cons_succ, hp j (by omega)]; simp [show j ≠ k + 1 by omega]) (by simp) hpd' hD
        refine ⟨val, T, fun j hj => by rw [a1 j (by omega)]; simp [show j ≠ i by omega], by rw [a1 i (by omega)]; simp, fun j hj => by rw [a2 j (by omega)]; simp [show j ≠ k + 1 by omega], by rw [a2 (k + 1) (by omega)]; simp, a3, fun p hpp j h1 h2 h3 => ?_, a5⟩
        by_cases e : j = k
        · subst e; rw [a2 j (by omega)]; simp only [show ¬ (j = j + 1) by omega, if_false]; rw [← hst]; exact pendOK_mem hpd hpp h2
        · exact a4 p hpp j (by omega) h2 h3
      have goN : ∀ (v : Option V) (pend' : Pend), isE o.op = false → PendOK cx k st pend' → DrawF cx N all rest cs k past pend' (putE env o.dst v) st Q →
          ∃ (val : Nat → Option V) (T : Nat → St), (∀ j, j < i → val j = val0 j) ∧ val i = v ∧ (∀ j, j ≤ k → T j = T0 j) ∧ (∀ i' o, i + 1 ≤ i' → all[i']? = some o → StepC all (C4.three cs0) cx N val T env0 i' o) ∧
            (∀ p ∈ pend', ∀ j, k ≤ j → j ≤ p.2.2.1 → j ≤ cnt all.size (opE all) → (opR cx p.2.1 (T j) p.1).1 ∧ (opR cx p.2.1 (T j) p.1).2.1 = p.2.2.2) ∧
            Q (envOf all val (fun _ => true) env0 all.size) (T (cnt all.size (opE all))) := by
        intro v pend' hE hpd' hD
        obtain ⟨val, T, a1, a2, a3, a4, a5⟩ := ih cs (i + 1) k past pend' (putE env o.dst v) st (fun j => if j = i then v else val0 j) T0 hl' hcs' (by
            simp only [envOf, if_true, hDi]
            rw [he, envOf_ext (val' := fun j => if j = i then v else val0 j) (fun j hj => by simp [show j ≠ i by omega])]) (by simp only [cnt, hEi, hE]; simp [hk]) hpl hp hst hpd' hD
        exact ⟨val, T, fun j hj => by rw [a1 j (by omega)]; simp [show j ≠ i by omega], by rw [a1 i (by omega)]; simp, a2, a3, a4, a5⟩
      -- the operation's condition
      have fin : ∀ {val : Nat → Option V} {T : Nat → St}, (∀ j, j < i → val j = val0 j) → (∀ j, j ≤ k → T j = T0 j) → StepC all (C4.three cs0) cx N val T env0 i o → (∀ i' o, i + 1 ≤ i' → all[i']? = some o → StepC all (C4.three cs0) cx N val T env0 i' o) →
          ∀ i' o, i ≤ i' → all[i']? = some o → StepC all (C4.three cs0) cx N val T env0 i' o := by
        intro val T _ _ hs hr i' o' hi' ho'
        by_cases e : i' = i
        · subst e; rw [hoi] at ho'; cases ho'; exact hs
        · exact hr i' o' (by omega) ho'
      have envi : ∀ {val : Nat → Option V}, (∀ j, j < i → val j = val0 j) → envOf all val (fun _ => true) env0 i = env := fun hv => by rw [he]; exact envOf_ext hv
      -- the body of the operation, done
      have doIt : (if isE o.op then
        if isSp o.op then SpD cx o.op o.type (sel env (o.looksAt all)) st (fun v st' => PendOK cx (k + 1) st' pend ∧ DrawF cx N all rest cs (k + 1) (st :: past) pend (putE env o.dst v) st' Q)
        else (opR cx (sel env (o.looksAt all)) st o.op).1 ∧ PendOK cx (k + 1) (opR cx (sel env (o.looksAt all)) st o.op).2.2 pend ∧ DrawF cx N all rest cs (k + 1) (st :: past) pend (putE env o.dst (opR cx (sel env (o.looksAt all)) st o.op).2.1) (opR cx (sel env (o.looksAt all)) st o.op).2.2 Q
      else (opR cx (sel env (o.looksAt all)) st o.op).1 ∧ PastOK cx (sel env (o.looksAt all)) o.op (opR cx (sel env (o.looksAt all)) st o.op).2.1 (past.take (k - lo)) ∧
        DrawF cx N all rest cs k past (if k < hi then (o.op, sel env (o.looksAt all), hi, (opR cx (sel env (o.looksAt all)) st o.op).2.1) :: pend else pend) (putE env o.dst (opR cx (sel env (o.looksAt all)) st o.op).2.1) st Q) →
          ∃ (val : Nat → Option V) (T : Nat → St), (∀ j, j < i → val j = val0 j) ∧ (∀ j, j ≤ k → T j = T0 j) ∧ StepC.ex all (C4.three cs0) cx val T env0 i o ∧ (∀ i' o, i + 1 ≤ i' → all[i']? = some o → StepC all (C4.three cs0) cx N val T env0 i' o) ∧
            (∀ p ∈ pend, ∀ j, k ≤ j → j ≤ p.2.2.1 → j ≤ cnt all.size (opE all) → (opR cx p.2.1 (T j) p.1).1 ∧ (opR cx p.2.1 (T j) p.1).2.1 = p.2.2.2) ∧
            Q (envOf all val (fun _ => true) env0 all.size) (T (cnt all.size (opE all))) := by
        intro hb
        cases hE : isE o.op with
        | true =>
          simp only [hE, if_true] at hb
          have : ∃ v st', OpOK cx o.op o.type (sel env (o.looksAt all)) st (fun V s => V = v ∧ s = st') ∧ PendOK cx (k + 1) st' pend ∧ DrawF cx N all rest cs (k + 1) (st :: past) pend (putE env o.dst v) st' Q := by
            split at hb
            · exact hb
            · exact ⟨_, _, opR_sound rfl hb.1 ⟨rfl, rfl⟩, hb.2⟩
          obtain ⟨v, st', b1, b2, b3⟩ := this
          obtain ⟨val, T, a1, a2, a3, a4, a5, a6, a7⟩ := goE v st' hE b2 b3
          refine ⟨val, T, a1, a3, ?_, a5, a6, a7⟩
          unfold StepC.ex
          rw [if_pos hE, envi a1, ← hk, a3 k (Nat.le_refl _), ← hst, a2, a4]
          exact b1
        | false =>
          simp only [hE, Bool.false_eq_true, if_false] at hb
          obtain ⟨b1, b2, b3⟩ := hb
          have hpd' : PendOK cx k st (if k < hi then (o.op, sel env (o.looksAt all), hi, (opR cx (sel env (o.looksAt all)) st o.op).2.1) :: pend else pend) := by
            split
            · exact ⟨fun _ => ⟨b1, rfl⟩, hpd⟩
            · exact hpd
          obtain ⟨val, T, a1, a2, a3, a5, a6, a7⟩ := goN _ _ hE hpd' b3
          refine ⟨val, T, a1, a3, ?_, a5, fun p hpp j h1 h2 h3 => a6 p (by split <;> simp [hpp]) j h1 h2 h3, a7⟩
          unfold StepC.ex
          rw [if_neg (by simp [hE]), hlo, hhi, envi a1]
          intro j h1 h2 h3
          have key : (opR cx (sel env (o.looksAt all)) (T j) o.op).1 ∧ (opR cx (sel env (o.looksAt all)) (T j) o.op).2.1 = (opR cx (sel env (o.looksAt all)) st o.op).2.1 := by
            rcases Nat.lt_trichotomy j k with hj | hj | hj
            · rw [a3 j (by omega)]
              refine pastOK_get (j := k - 1 - j) b2 ?_
              rw [List.getElem?_take_of_lt (by omega)]
              exact hp j hj
            · subst hj; rw [a3 j (Nat.le_refl _), ← hst]; exact ⟨b1, rfl⟩
            · have := a6 (o.op, sel env (o.looksAt all), hi, (opR cx (sel env (o.looksAt all)) st o.op).2.1) (by rw [if_pos (by omega)]; simp) j (by omega) h2 h3
              exact this
          exact opR_sound rfl key.1 ⟨by rw [a2]; exact key.2, opR_same hE key.1⟩
      cases hg : o.guard with
      | none =>
        rw [hg] at h
        obtain ⟨val, T, a1, a2, a3, a4, a5, a6⟩ := doIt h
        exact ⟨val, T, a1, a2, fin a1 a2 ⟨hd, by rw [hg]; exact a3⟩ a4, a5, a6⟩
      | some jw =>
        obtain ⟨g, want⟩ := jw
        rw [hg] at h
        simp only at h
        split at h
        · rename_i b hgv
          by_cases e : b = want
          · obtain ⟨val, T, a1, a2, a3, a4, a5, a6⟩ := doIt (h.1 e)
            exact ⟨val, T, a1, a2, fin a1 a2 ⟨hd, by rw [hg]; exact ⟨b, by rw [envi a1]; exact hgv, fun _ => a3, fun hne => absurd e hne⟩⟩ a4, a5, a6⟩
          · have h2 := h.2 e
            cases hE : isE o.op with
            | true =>
              simp only [hE, if_true] at h2
              obtain ⟨val, T, a1, a2, a3, a4, a5, a6, a7⟩ := goE none st hE (pendOK_of fun p hpp h1 => pendOK_mem hpd hpp (by omega)) h2
              exact ⟨val, T, a1, a3, fin a1 a3 ⟨hd, by rw [hg]; exact ⟨b, by rw [envi a1]; exact hgv, fun hh => absurd hh e, fun _ => ⟨a2, fun _ => by rw [← hk, a4, a3 k (Nat.le_refl _), hst]⟩⟩⟩ a5, a6, a7⟩
            | false =>
              simp only [hE, Bool.false_eq_true, if_false] at h2
              obtain ⟨val, T, a1, a2, a3, a5, a6, a7⟩ := goN none pend hE hpd h2
              exact ⟨val, T, a1, a3, fin a1 a3 ⟨hd, by rw [hg]; exact ⟨b, by rw [envi a1]; exact hgv, fun hh => absurd hh e, fun _ => ⟨a2, fun hh => by rw [hE] at hh; cases hh⟩⟩⟩ a5, a6, a7⟩
        · exact h.elim

/-- The certificate's rows say what the operations look at. -/
def looksOK (all : Array Oper) (c : List C4) : Bool := (all.toList.zip c).all fun p => p.2.2.2.2 == p.1.looksAt all

/-- All that is asked of a drawn region's text. -/
def drawOK (all : Array Oper) (c : List C4) : Bool := looksOK all c && DrawChk all (C4.three c)

theorem WP.drawF {r : RR} {id : Nat} {env : Env} {st : St} {Q : Exit → Env → St → Prop} {l : List Oper} (c : List C4) (hm : cx.P.follows .mixedOrders = true) (hc : drawOK l.toArray c = true)
    (h : DrawF cx N l.toArray l c 0 [] [] env st (Q .normal)) : WP cx N r (.region id l.toArray true) Q env st := by
  simp only [drawOK, Bool.and_eq_true] at hc
  obtain ⟨val, T, a1, a2, a3, a4, a5⟩ := DrawF.sound (all := l.toArray) (env0 := env) (cs0 := c) (fun i o p ho hp => by
    have := List.all_eq_true.1 hc.1 (o, p) (by
      have hz : (l.toArray.toList.zip c)[i]? = some (o, p) := by
        rw [List.getElem?_zip_eq_some]; exact ⟨by simpa using ho, hp⟩
      exact List.mem_of_getElem? hz)
    simpa using this) l c 0 0 [] [] env st (fun _ => none) (fun _ => st) (by simp) rfl rfl rfl rfl (fun j hj => by omega) rfl trivial h
  exact WP.draw val T hm hc.2 (a2 0 (Nat.le_refl _)) (fun i o ho => a3 i o (Nat.zero_le _) ho) a5
end

end Go.VL
end

/- The value-level program logic, part 20: drawn regions by rewriting rules. -/
section
set_option linter.unusedVariables false
set_option linter.unusedSimpArgs false
namespace Go.VL
open Go

section
variable {cx : Cx} {N : Nat} {r : RR} {all : Array Oper} {rest : List Oper} {env e : Env} {st : St} {QQ : Env → St → Prop} {Q : Exit → Env → St → Prop} {cs : List C4} {k lo hi an : Nat} {past : List St} {pend : Pend} {lk : List Nat} {dst : Option Tmp} {op : Op} {ty : TypeId} {pos : String} {after : Array Edge}

/-- What comes behind an effect of its own rule in a drawn region. -/
def Kd (cx : Cx) (N : Nat) (all : Array Oper) (rest : List Oper) (cs : List C4) (k : Nat) (past : List St) (pend : Pend) (env : Env) (dst : Option Tmp) (QQ : Env → St → Prop) : Option V → St → Prop :=
  fun v st' => PendOK cx k st' pend ∧ DrawF cx N all rest cs k past pend (putE env dst v) st' QQ

/-- What an operation of a drawn region does. -/
def DrawB (cx : Cx) (N : Nat) (all : Array Oper) (dst : Option Tmp) (op : Op) (ty : TypeId) (rest : List Oper) (lo hi : Nat) (e : Env) (cs : List C4) (k : Nat) (past : List St) (pend : Pend) (env : Env) (st : St) (QQ : Env → St → Prop) : Prop :=
  if isE op then
    if isSp op then SpD cx op ty e st (Kd cx N all rest cs (k + 1) (st :: past) pend env dst QQ)
    else (opR cx e st op).1 ∧ PendOK cx (k + 1) (opR cx e st op).2.2 pend ∧ DrawF cx N all rest cs (k + 1) (st :: past) pend (putE env dst (opR cx e st op).2.1) (opR cx e st op).2.2 QQ
  else (opR cx e st op).1 ∧ PastOK cx e op (opR cx e st op).2.1 (past.take (k - lo)) ∧
    DrawF cx N all rest cs k past (if k < hi then (op, e, hi, (opR cx e st op).2.1) :: pend else pend) (putE env dst (opR cx e st op).2.1) st QQ

/-- A guarded operation of a drawn region, by the value of its guard. -/
def DrawG (cx : Cx) (N : Nat) (all : Array Oper) (dst : Option Tmp) (op : Op) (ty : TypeId) (rest : List Oper) (lo hi : Nat) (lk : List Nat) (cs : List C4) (k : Nat) (past : List St) (pend : Pend) (env : Env) (st : St) (QQ : Env → St → Prop) (b want : Bool) : Prop :=
  (b = want → DrawB cx N all dst op ty rest lo hi (sel env lk) cs k past pend env st QQ) ∧
  (b ≠ want → if isE op then DrawF cx N all rest cs (k + 1) (st :: past) pend (putE env dst none) st QQ else DrawF cx N all rest cs k past pend (putE env dst none) st QQ)

theorem DrawF_nil : DrawF cx N all [] cs k past pend env st QQ = QQ env st := by cases cs <;> rfl
theorem DrawF_op : DrawF cx N all ({ dst := dst, op := op, type := ty, pos := pos, after := after, guard := none } :: rest) ((an, lo, hi, lk) :: cs) k past pend env st QQ =
    (dstOK N dst = true ∧ DrawB cx N all dst op ty rest lo hi (sel env lk) cs k past pend env st QQ) := rfl
theorem DrawF_guard {j : Nat} {want : Bool} : DrawF cx N all ({ dst := dst, op := op, type := ty, pos := pos, after := after, guard := some (j, want) } :: rest) ((an, lo, hi, lk) :: cs) k past pend env st QQ =
    (dstOK N dst = true ∧ match guardV all env j with
      | some b => DrawG cx N all dst op ty rest lo hi lk cs k past pend env st QQ b want
      | none => False) := rfl
theorem DrawB_eq : DrawB cx N all dst op ty rest lo hi e cs k past pend env st QQ =
  if isE op then
    if isSp op then SpD cx op ty e st (Kd cx N all rest cs (k + 1) (st :: past) pend env dst QQ)
    else (opR cx e st op).1 ∧ PendOK cx (k + 1) (opR cx e st op).2.2 pend ∧ DrawF cx N all rest cs (k + 1) (st :: past) pend (putE env dst (opR cx e st op).2.1) (opR cx e st op).2.2 QQ
  else (opR cx e st op).1 ∧ PastOK cx e op (opR cx e st op).2.1 (past.take (k - lo)) ∧
    DrawF cx N all rest cs k past (if k < hi then (op, e, hi, (opR cx e st op).2.1) :: pend else pend) (putE env dst (opR cx e st op).2.1) st QQ := rfl
theorem Kd_eq {v : Option V} : Kd cx N all rest cs k past pend env dst QQ v st = (PendOK cx k st pend ∧ DrawF cx N all rest cs k past pend (putE env dst v) st QQ) := rfl
theorem DrawG_tt : DrawG cx N all dst op ty rest lo hi lk cs k past pend env st QQ true true = DrawB cx N all dst op ty rest lo hi (sel env lk) cs k past pend env st QQ := by simp [DrawG]
theorem DrawG_ff : DrawG cx N all dst op ty rest lo hi lk cs k past pend env st QQ false false = DrawB cx N all dst op ty rest lo hi (sel env lk) cs k past pend env st QQ := by simp [DrawG]
theorem DrawG_tf : DrawG cx N all dst op ty rest lo hi lk cs k past pend env st QQ true false = if isE op then DrawF cx N all rest cs (k + 1) (st :: past) pend (putE env dst none) st QQ else DrawF cx N all rest cs k past pend (putE env dst none) st QQ := by simp only [DrawG, Bool.true_eq_false, false_imp_iff, true_and, ne_eq, not_false_eq_true, true_imp_iff]
theorem DrawG_ft : DrawG cx N all dst op ty rest lo hi lk cs k past pend env st QQ false true = if isE op then DrawF cx N all rest cs (k + 1) (st :: past) pend (putE env dst none) st QQ else DrawF cx N all rest cs k past pend (putE env dst none) st QQ := by simp only [DrawG, Bool.false_eq_true, false_imp_iff, true_and, ne_eq, not_false_eq_true, true_imp_iff]
theorem DrawG.intro {b want : Bool} (h1 : b = true → DrawG cx N all dst op ty rest lo hi lk cs k past pend env st QQ true want) (h2 : b = false → DrawG cx N all dst op ty rest lo hi lk cs k past pend env st QQ false want) : DrawG cx N all dst op ty rest lo hi lk cs k past pend env st QQ b want := by
  cases b
  · exact h2 rfl
  · exact h1 rfl

/-- A call in a drawn region: with one answer. -/
theorem SpD.call {K : Option V → St → Prop} {x : Operand} {args : Array Operand} {ts : Array TypeId} {f : FuncId} {caps vs : List V} {v : V} {st' : St} (hx : opnd cx env x = some (.fn (.func f) caps)) (hv : opndL cx env args.toList = some vs)
    (h : VCall cx f (vs ++ caps) st fun r s => r = v ∧ s = st') (hk : K (some v) st') : SpD cx (.call { callee := .value x, args := args, argTypes := ts }) ty env st K :=
  ⟨some v, st', OpOK.call hx hv (h.mono fun r s ⟨h1, h2⟩ => ⟨by rw [h1], h2⟩), hk⟩

/-- The guard's operation, found. -/
def guardL (env : Env) : Option Oper → Option Bool
  | some { dst := some t, .. } => match look env t with
    | some (.bool b) => some b
    | _ => none
  | _ => none

theorem guardV_list {l : List Oper} {j : Nat} : guardV l.toArray env j = guardL env l[j]? := by
  unfold guardV guardL
  rw [List.getElem?_toArray]
  cases h : l[j]? with
  | none => rfl
  | some o =>
    obtain ⟨dst, op, ty, pos, after, guard⟩ := o
    cases dst <;> rfl

theorem forget_nil {t : Nat} : forget [] t = [] := rfl
theorem forget_cons {t k : Nat} {v : V} {r : Env} : forget ((k, v) :: r) t = if k = t then forget r t else (k, v) :: forget r t := by
  simp only [forget, List.filter_cons]
  by_cases h : k = t <;> simp [h]
end
end Go.VL
end

/- The value-level program logic, part 21: ranges over functions. -/
section
set_option linter.unusedVariables false
set_option linter.unusedSimpArgs false
namespace Go.VL
open Go

section
variable {cx : Cx} {env : Env} {st : St} {K : Option V → St → Prop}

/-- The values that a round is given, in the record's temporaries. -/
def bindT (ps : Array Tmp) (vals : Array Value) (tmps : Array Value) : Array Value := (ps.zip vals).foldl (fun tmps (t, a) => tmps.setIfInBounds t a) tmps

/-- The contract of one call of a range's yield. -/
def VYield (cx : Cx) (id : Nat) (args : List V) (st : St) (Q : Bool → St → Prop) : Prop :=
  ∀ (S : Nat → Prop) (σ : List Slot) (w : World) (vals : List Value), RepAll S σ w args vals → StRep S σ st w → SB cx S w →
    ∃ (s : Slot) (r : Loop), σ[id]? = some s ∧ s.ver = 0 ∧ w.heap[s.b]? = some (.loop r) ∧ r.params.size = vals.length ∧
      RoundIn Fence.wide 0 cx.P s.b r.fn (bindT r.params vals.toArray r.tmps) r.assign r.body w fun e w' => ∃ b st' S' σ', e = .returned (.bool b) ∧ Q b st' ∧ StRep S' σ' st' w' ∧ SB cx S' w' ∧ Evo S σ st w S' σ' st' w'

theorem VYield.mono {id : Nat} {args : List V} {Q Q' : Bool → St → Prop} (h : VYield cx id args st Q) (hq : ∀ b st, Q b st → Q' b st) : VYield cx id args st Q' := by
  intro S σ w vals h1 h2 h3
  obtain ⟨s, r, a1, a2, a3, a4, a5⟩ := h S σ w vals h1 h2 h3
  exact ⟨s, r, a1, a2, a3, a4, a5.mono fun e w' ⟨b, st', S', σ', q1, q2, x⟩ => ⟨b, st', S', σ', q1, hq _ _ q2, x⟩⟩

theorem run_getLoop {P : Program} {w : World} {l : Nat} {r : Loop} (h : w.heap[l]? = some (.loop r)) : (Instr.getLoop l).run P w = .ok r w := by
  simp [Instr.getLoop, getObj, Sem.run, h]

theorem run_setLoop {P : Program} {w : World} {l : Nat} {r : Loop} (o : Obj) (h : w.heap[l]? = some (.loop r)) : (setObj l o).run P w = .ok () { w with heap := w.heap.setIfInBounds l o } := by
  simp [setObj, Sem.run, h]

/-- Calling a range's yield. -/
theorem OpOK.yield {ty : TypeId} {x : Operand} {args : Array Operand} {ts : Array TypeId} {id : Nat} {vs : List V} (hx : opnd cx env x = some (.yld id)) (hv : opndL cx env args.toList = some vs)
    (h : VYield cx id vs st fun b st' => K (some (.bool b)) st') : OpOK cx (.call { callee := .value x, args := args, argTypes := ts }) ty env st K := by
  intro S σ F N lo o a w hop _ hh hF next Qr hnext
  have hr := hh.opnd hx
  simp only [Rep] at hr
  obtain ⟨_, s, f1, f2⟩ := hr
  have ha := opndL_rep hh hv
  obtain ⟨s', r, g1, g2, g3, g4, g5⟩ := h S σ w _ ha hh.str hh.sb
  rw [f1] at g1; cases g1
  have ex := f2 g2
  refine ⟨fun f _ => hF.fn f, ?_⟩
  have hd : ∀ c, o.op ≠ .defer c := by rw [hop]; intro c hc; cases hc
  rw [Oper.semAt_plain F _ _ hd]
  have hrun : (execOp a.eval o).run cx.P w = .ok (.round s.b r.fn (bindT r.params (args.toList.map a.eval).toArray r.tmps) r.assign r.body) w := by
    simp only [execOp, hop, resolve, ex, Deferred.ofValue, Sem.run_bind, Sem.run_pure, Result.andThen_ok, invoke]
    have e : #[] ++ Array.map a.eval args = (args.toList.map a.eval).toArray := by apply Array.ext'; simp
    have hsz : (#[] ++ Array.map a.eval args).size = r.params.size := by rw [g4, e]; simp
    simp only [Instr.yield, Sem.run_bind, run_getLoop g3, Result.andThen_ok, hsz, ne_eq, not_true_eq_false, if_false, Sem.run_pure]
    rw [e]; rfl
  rw [hrun]
  refine ⟨fun hh => (by rw [hF.depth] at hh; cases hh), ?_⟩
  have h2 : RoundIn F 0 cx.P s.b r.fn (bindT r.params (args.toList.map a.eval).toArray r.tmps) r.assign r.body w fun e w' => ∃ b st' S' σ', e = .returned (.bool b) ∧ K (some (.bool b)) st' ∧ StRep S' σ' st' w' ∧ SB cx S' w' ∧ Evo S σ st w S' σ' st' w' := by
    rcases hF with ⟨l, rfl⟩ | rfl
    · exact g5
    · exact g5
  refine RoundIn.mono h2 ?_
  rintro e w' ⟨b, st', S', σ', rfl, q1, q2, q3, q4⟩
  exact hnext (.bool b) (some (.bool b)) st' S' σ' w' q1 (fun u hu => by cases hu; simp [Rep]) q2 q3 q4

/-- An object of one block that is no row of cells is turned. -/
theorem blk_set {S : Nat → Prop} {σ : List Slot} {w : World} (h : StRep S σ st w) (hsb : SB cx S w) {id : Nat} {ob ob' : Ob} {s : Slot} (ho : st[id]? = some ob) (hs : σ[id]? = some s) (hl : ob.live = true) {o o' : Obj} (hb : w.heap[s.b]? = some o) (hns : ∀ sh, w.shape? s.b ≠ some sh) (hS : ¬ S s.b)
    (hob : ∀ w', Same S w w' → w'.heap[s.b]? = some o' → ObRep S σ w' s ob') (hso : ob'.solid = false := by rfl) :
    StRep S σ (st.set id ob') { w with heap := w.heap.setIfInBounds s.b o' } ∧ SB cx S { w with heap := w.heap.setIfInBounds s.b o' } ∧ Evo S σ st w S σ (st.set id ob') { w with heap := w.heap.setIfInBounds s.b o' } := by
  have hlt : s.b < w.heap.size := (Array.getElem?_eq_some_iff.1 hb).1
  have hother : ∀ b, b ≠ s.b → (w.heap.setIfInBounds s.b o')[b]? = w.heap[b]? := fun b e => Array.getElem?_setIfInBounds_ne (Ne.symm e)
  have hshape : ∀ b sh, w.shape? b = some sh → ({ w with heap := w.heap.setIfInBounds s.b o' } : World).shape? b = some sh := by
    intro b sh hsh
    by_cases e : b = s.b
    · subst e; exact absurd hsh (hns sh)
    · simp only [World.shape?, hother b e]; exact hsh
  have same : Same S w { w with heap := w.heap.setIfInBounds s.b o' } := ⟨fun b hSb => hother b (fun e => hS (e ▸ hSb)), hshape⟩
  have ev : Evo S σ st w S σ (st.set id ob') { w with heap := w.heap.setIfInBounds s.b o' } := Evo.update ho hs hl rfl rfl rfl (by simp) hshape (fun b _ => hother b)
  exact ⟨h.update ho hs hl same hother (fun _ _ e => by rw [hso] at e; cases e) (hob _ same (by simp [hlt])), ev.sb h hsb (fun b hSb => by simpa using hsb.lt b hSb), ev⟩

theorem loop_block {S : Nat → Prop} {σ : List Slot} {w : World} (h : StRep S σ st w) {id : Nat} {state : LoopState} {jump : Option Code} {tm : Env} {n : Nat} {fn : FuncId} {ps : Array Tmp} {assign body : Code} (ho : st[id]? = some (.loop state jump tm n fn ps assign body)) :
    ∃ s tmps dfr, σ[id]? = some s ∧ s.ver = 0 ∧ ¬ S s.b ∧ w.heap[s.b]? = some (.loop { state := state, pending := jump, fn := fn, tmps := tmps, params := ps, assign := assign, body := body, defers := dfr }) ∧ tmps.size = n ∧ (∀ t v, look tm t = some v → Rep S σ w v (tmps.getD t undef)) := by
  have hlt : id < σ.length := by rw [h.len]; exact (List.getElem?_eq_some_iff.1 ho).1
  have hs : σ[id]? = some σ[id] := List.getElem?_eq_getElem hlt
  have := h.ob id _ _ ho hs
  simp only [ObRep] at this
  obtain ⟨h1, h2, tmps, dfr, h3, h4, h5⟩ := this
  exact ⟨_, tmps, dfr, hs, h1, h2, h3, h4, h5⟩

theorem loop_set {S : Nat → Prop} {σ : List Slot} {w : World} (h : StRep S σ st w) (hsb : SB cx S w) {id : Nat} {state state' : LoopState} {jump jump' : Option Code} {tm : Env} {n : Nat} {fn : FuncId} {ps : Array Tmp} {assign body : Code} {s : Slot} {r : Loop} (ho : st[id]? = some (.loop state jump tm n fn ps assign body)) (hs : σ[id]? = some s) (hb : w.heap[s.b]? = some (.loop r)) :
    let w' : World := { w with heap := w.heap.setIfInBounds s.b (.loop { r with state := state', pending := jump' }) }
    let st' := st.set id (.loop state' jump' tm n fn ps assign body)
    StRep S σ st' w' ∧ SB cx S w' ∧ Evo S σ st w S σ st' w' := by
  obtain ⟨s', tmps, dfr, e1, e2, e3, e4, e5, e6⟩ := loop_block h ho
  rw [hs] at e1; cases e1
  rw [hb] at e4; cases e4
  refine blk_set h hsb ho hs rfl hb (fun sh => by simp [World.shape?, hb]) e3 (fun w' same hw => ?_)
  simp only [ObRep]
  exact ⟨e2, e3, tmps, dfr, hw, e5, fun t v ht => Rep.mono (fun _ h => h) (Le.refl _) same _ _ (e6 t v ht)⟩

/-- What a round knows: its arguments, over what the range knew. -/
def bindE : List Tmp → List V → Env → Env
  | t :: ts, v :: vs, e => bindE ts vs ((t, v) :: e)
  | _, _, e => e

theorem bind_rep {S : Nat → Prop} {σ : List Slot} {w : World} {n : Nat} : ∀ (ps : List Tmp) (vs : List V) (vals : List Value) (e : Env) (tmps : Array Value), RepAll S σ w vs vals → tmps.size = n → (∀ t ∈ ps, t < n) → (∀ t v, look e t = some v → Rep S σ w v (tmps.getD t undef)) →
    ((ps.zip vals).foldl (fun tmps (t, a) => tmps.setIfInBounds t a) tmps).size = n ∧ ∀ t v, look (bindE ps vs e) t = some v → Rep S σ w v (((ps.zip vals).foldl (fun tmps (t, a) => tmps.setIfInBounds t a) tmps).getD t undef)
  | [], vs, vals, e, tmps, _, hn, _, h => by simp only [bindE, List.zip_nil_left, List.foldl_nil]; exact ⟨hn, h⟩
  | p :: ps, [], vals, e, tmps, hr, hn, _, h => by
    simp only [RepAll] at hr; subst hr
    simp only [bindE, List.zip_nil_right, List.foldl_nil]; exact ⟨hn, h⟩
  | p :: ps, v :: vs, vals, e, tmps, hr, hn, hp, h => by
    simp only [RepAll] at hr
    obtain ⟨x, xs, rfl, h1, h2⟩ := hr
    simp only [bindE, List.zip_cons_cons, List.foldl_cons]
    refine bind_rep ps vs xs ((p, v) :: e) (tmps.setIfInBounds p x) h2 (by simp [hn]) (fun t ht => hp t (by simp [ht])) fun t u hu => ?_
    have hlt : p < tmps.size := by rw [hn]; exact hp p (by simp)
    simp only [look] at hu
    split at hu
    · rename_i e; cases hu; subst e
      have : (tmps.setIfInBounds p x).getD p undef = x := by simp [Array.getD_eq_getD_getElem?, hlt]
      rw [this]; exact h1
    · rename_i e
      have : (tmps.setIfInBounds p x).getD t undef = tmps.getD t undef := by simp [Array.getD_eq_getD_getElem?, Array.getElem?_setIfInBounds, e]
      rw [this]; exact h t u hu

/-- What is asked where the body of a range over a function is left. -/
def PostY (id : Nat) (tm : Env) (n : Nat) (fn : FuncId) (ps : Array Tmp) (assign body : Code) (Q : Bool → St → Prop) : Exit → Env → St → Prop
  | .normal, _, st => st[id]? = some (.loop .busy none tm n fn ps assign body) ∧ Q true (st.set id (.loop .ready none tm n fn ps assign body))
  | .ret, _, st => st[id]? = some (.loop .busy none tm n fn ps assign body) ∧ Q false (st.set id (.loop .done (some .ret) tm n fn ps assign body))
  | .exit i, _, st => st[id]? = some (.loop .busy none tm n fn ps assign body) ∧ Q false (st.set id (.loop .done (some (.exit i)) tm n fn ps assign body))
  | .goto i, _, st => st[id]? = some (.loop .busy none tm n fn ps assign body) ∧ Q false (st.set id (.loop .done (some (.goto i)) tm n fn ps assign body))
  | _, _, _ => False

/-- A round's contract out of its body. -/
theorem VYield.of_WP {id : Nat} {args : List V} {Q : Bool → St → Prop} {tm : Env} {n : Nat} {fn : FuncId} {ps : Array Tmp} {assign body : Code} (ho : st[id]? = some (.loop .ready none tm n fn ps assign body)) (hps : ps.size = args.length) (hlt : (ps.toList.all fun t => decide (t < n)) = true)
    (h : WP cx n ⟨some 0, st.length⟩ assign (fun e env1 st1 => e = .normal ∧ st1 = st ∧ WP cx n ⟨some 0, st.length⟩ body (PostY id tm n fn ps assign body Q) env1 (st.set id (.loop .busy none tm n fn ps assign body))) (bindE ps.toList args tm) st) : VYield cx id args st Q := by
  intro S σ w vals h1 h2 h3
  obtain ⟨s, tmps, dfr, e1, e2, e3, e4, e5, e6⟩ := loop_block h2 ho
  refine ⟨s, _, e1, e2, e4, by simp only; rw [hps]; exact h1.length.symm, ?_⟩
  refine roundIn_of_wpIn trivial ?_
  simp only
  obtain ⟨b1, b2⟩ := bind_rep ps.toList args vals tm tmps h1 e5 (fun t ht => by simpa using List.all_eq_true.1 hlt t ht) e6
  have eb : bindT ps vals.toArray tmps = (ps.toList.zip vals).foldl (fun tmps (t, a) => tmps.setIfInBounds t a) tmps := by
    unfold bindT
    rw [← Array.foldl_toList]
    congr 1
    simp [Array.toList_zip]
  have hh : Holds cx n w.heap.size S σ (bindE ps.toList args tm) st { tmps := bindT ps vals.toArray tmps, defers := [] } w := ⟨by rw [eb]; exact b1, fun t v hv => by simp only; rw [eb]; exact b2 t v hv, h2, h3, trivial, Nat.le_refl _⟩
  refine Code.wpIn_mono ?_ (h w.heap.size S σ (Fence.wide.inRound s.b) _ w hh (.inl ⟨_, rfl⟩) ⟨fun h => (by cases h), fun h => (by cases h)⟩)
  rintro e a1 w1 ⟨env1, st1, S1, σ1, ⟨rfl, rfl, hbody⟩, hh1, hev1⟩
  have hev1 := hev1.full (Nat.le_of_eq h2.len)
  simp only [Exit.then]
  obtain ⟨s1, tmps1, dfr1, c1, c2, c3, c4, c5, c6⟩ := loop_block hh1.str ho
  have es : s1 = s := by
    obtain ⟨s', l1, _, l3⟩ := hev1.le id s e1
    rw [c1] at l1; cases l1
    exact l3 (by omega)
  subst es
  obtain ⟨m1, m2, m3⟩ := loop_set (state' := .busy) (jump' := none) hh1.str hh1.sb ho c1 c4
  refine ⟨{ w1 with heap := w1.heap.setIfInBounds s1.b (.loop { state := .busy, pending := none, fn := fn, tmps := tmps1, params := ps, assign := assign, body := body, defers := dfr1 }) }, ?_, ?_⟩
  · simp only [Instr.beginRound, Sem.run_bind, run_getLoop c4, Result.andThen_ok, run_setLoop _ c4, Sem.run_pure]
  · have hh2 : Holds cx n w.heap.size S1 σ1 env1 (st1.set id (.loop .busy none tm n fn ps assign body)) a1 _ := ⟨hh1.size, fun t v hv => m3.rep hh1.str hh1.sb.lt (hh1.rep t v hv), m1, m2, DefOK.mono m3 _ hh1.dfr, Nat.le_trans hh1.le m3.size⟩
    refine Code.wpIn_mono ?_ (hbody w.heap.size S1 σ1 (Fence.wide.inRound s1.b) a1 _ hh2 (.inl ⟨_, rfl⟩) ⟨fun h => (by cases h), fun h => (by cases h)⟩)
    rintro e2 a3 w3 ⟨env3, st3, S3, σ3, q, hh3, hev3⟩
    have hev3 := hev3.full (Nat.le_of_eq hh1.str.len)
    have fin : ∀ (jump : Option Code) (Q' : St → Prop), st3[id]? = some (.loop .busy none tm n fn ps assign body) → Q' (st3.set id (.loop (if jump.isNone then .ready else .done) jump tm n fn ps assign body)) →
        ∃ v w', (Instr.endRound s1.b jump).run cx.P w3 = .ok v w' ∧ v = .bool jump.isNone ∧ ∃ st' S' σ', Q' st' ∧ StRep S' σ' st' w' ∧ SB cx S' w' ∧ Evo S σ st1 w S' σ' st' w' := by
      intro jump Q' ho3 hQ'
      obtain ⟨s3, tmps3, dfr3, d1, d2, d3, d4, d5, d6⟩ := loop_block hh3.str ho3
      have es : s3 = s1 := by
        obtain ⟨s', l1, _, l3⟩ := hev3.le id s1 c1
        rw [d1] at l1; cases l1
        exact l3 (by omega)
      subst es
      obtain ⟨k1, k2, k3⟩ := loop_set (state' := if jump.isNone then .ready else .done) (jump' := jump) hh3.str hh3.sb ho3 d1 d4
      refine ⟨.bool jump.isNone, _, ?_, rfl, _, S3, σ3, hQ', k1, k2, (hev1.trans m3).trans (hev3.trans k3)⟩
      simp only [Instr.endRound, Sem.run_bind, run_getLoop d4, Result.andThen_ok, run_setLoop _ d4, Sem.run_pure]
    have fin' : ∀ (jump : Option Code), st3[id]? = some (.loop .busy none tm n fn ps assign body) → Q jump.isNone (st3.set id (.loop (if jump.isNone then .ready else .done) jump tm n fn ps assign body)) →
        ∃ v w', (Instr.endRound s1.b jump).run cx.P w3 = .ok v w' ∧ ∃ b st' S' σ', Ending.returned v = .returned (.bool b) ∧ Q b st' ∧ StRep S' σ' st' w' ∧ SB cx S' w' ∧ Evo S σ st1 w S' σ' st' w' := by
      intro jump h1 h2
      obtain ⟨v, w', r1, rfl, st', S', σ', r2, r3⟩ := fin jump (Q jump.isNone) h1 h2
      exact ⟨_, w', r1, jump.isNone, st', S', σ', rfl, r2, r3⟩
    cases e2 with
    | normal => exact fin' none q.1 q.2
    | ret => exact fin' (some .ret) q.1 q.2
    | exit i => exact fin' (some (.exit i)) q.1 q.2
    | goto i => exact fin' (some (.goto i)) q.1 q.2
    | panic ch => exact q.elim
    | outgrown => exact q.elim

end
end Go.VL
end

/- The value-level program logic, part 22: objects are let go, and what they held becomes persistent. -/
section
set_option linter.unusedVariables false
set_option linter.unusedSimpArgs false
namespace Go.VL
open Go

/-- An object as it reads when the objects from 'lo' on are let go. -/
inductive ObConv (lo : Nat) (st : St) : Ob → Ob → Prop
  | keep {ob : Ob} (h : ob.bdd lo) : ObConv lo st ob ob
  | cells {ver : Nat} {cs ds : List V} (h : ConvL lo st cs ds) : ObConv lo st (.cells ver cs) (.cells ver ds)
  | acc {ver : Nat} {cs ds : List V} (h : ConvL lo st cs ds) : ObConv lo st (.acc ver cs) (.acc ver ds)
  | solid {ver : Nat} {cs ds : List V} (h0 : cs ≠ []) (h : ConvL lo st cs ds) : ObConv lo st (.acc ver cs) (.cells ver ds)
  | kill {ob : Ob} : ObConv lo st ob .dead

/-- The objects that stay. -/
inductive StConv (lo : Nat) (st : St) : St → St → Prop
  | nil : StConv lo st [] []
  | cons {o o' : Ob} {s s' : St} (h : ObConv lo st o o') (hs : StConv lo st s s') : StConv lo st (o :: s) (o' :: s')

theorem StConv.get {lo : Nat} {st : St} : ∀ {s s' : St}, StConv lo st s s' → s.length = s'.length ∧ ∀ (id : Nat) (o' : Ob), s'[id]? = some o' → ∃ o, s[id]? = some o ∧ ObConv lo st o o'
  | _, _, .nil => ⟨rfl, fun id o' h => by simp at h⟩
  | _, _, .cons h hs => by
    obtain ⟨h1, h2⟩ := StConv.get hs
    refine ⟨by simp [h1], fun id o' ho => ?_⟩
    cases id with
    | zero => simp at ho; subst ho; exact ⟨_, rfl, h⟩
    | succ id => simpa using h2 id o' (by simpa using ho)

/-- All objects name objects of the store. -/
def StB (st : St) : Prop := ∀ (id : Nat) (ob : Ob), st[id]? = some ob → ob.bdd st.length

theorem StRep.stB {S : Nat → Prop} {σ : List Slot} {st : St} {w : World} (h : StRep S σ st w) : StB st := fun id ob ho => by
  have hlt := (List.getElem?_eq_some_iff.1 ho).1
  obtain ⟨s, hs1⟩ : ∃ s, σ[id]? = some s := ⟨_, List.getElem?_eq_getElem (by rw [h.len]; exact hlt)⟩
  have := (h.ob id ob _ ho hs1).bounded
  rwa [h.len] at this

mutual
theorem V.bdd_le {n m : Nat} (hnm : n ≤ m) : ∀ (v : V), v.bdd n = true → v.bdd m = true
  | .int .., _ => rfl
  | .bool _, _ => rfl
  | .str _, _ => rfl
  | .raw _, _ => rfl
  | .dead, _ => rfl
  | .e0, _ => rfl
  | .ptr id _ _, h => by simp only [V.bdd, decide_eq_true_eq] at h ⊢; omega
  | .slc id _ _ _ _, h => by simp only [V.bdd, decide_eq_true_eq] at h ⊢; omega
  | .map id, h => by simp only [V.bdd, decide_eq_true_eq] at h ⊢; omega
  | .yld id, h => by simp only [V.bdd, decide_eq_true_eq] at h ⊢; omega
  | .lst _ cs, h => by simp only [V.bdd] at h ⊢; exact bddL_le hnm cs h
  | .agg cs, h => by simp only [V.bdd] at h ⊢; exact bddL_le hnm cs h
  | .tup cs, h => by simp only [V.bdd] at h ⊢; exact bddL_le hnm cs h
  | .fn _ cs, h => by simp only [V.bdd] at h ⊢; exact bddL_le hnm cs h
  | .pptr cs _, h => by simp only [V.bdd] at h ⊢; exact bddL_le hnm cs h
  | .iface _ v, h => by simp only [V.bdd] at h ⊢; exact V.bdd_le hnm v h
theorem bddL_le {n m : Nat} (hnm : n ≤ m) : ∀ (cs : List V), bddL n cs = true → bddL m cs = true
  | [], _ => rfl
  | c :: cs, h => by
    simp only [bddL, Bool.and_eq_true] at h ⊢
    exact ⟨V.bdd_le hnm c h.1, bddL_le hnm cs h.2⟩
end

theorem entsBdd_le {n m : Nat} (hnm : n ≤ m) : ∀ (es : List (Key × V)), entsBdd n es = true → entsBdd m es = true
  | [], _ => rfl
  | (k, v) :: r, h => by
    simp only [entsBdd, Bool.and_eq_true] at h ⊢
    exact ⟨V.bdd_le hnm v h.1, entsBdd_le hnm r h.2⟩

theorem Ob.bdd_le {n m : Nat} (hnm : n ≤ m) {ob : Ob} (h : ob.bdd n) : ob.bdd m := by
  cases ob with
  | cells _ cs => exact bddL_le hnm cs h
  | frozen _ cs => exact bddL_le hnm cs h
  | acc _ cs => exact bddL_le hnm cs h
  | map es => exact entsBdd_le hnm es h
  | iter _ _ _ => exact Nat.lt_of_lt_of_le h hnm
  | loop => exact fun t v ht => V.bdd_le hnm v (h t v ht)
  | dead => trivial

theorem StConv.refl_of {lo : Nat} {st : St} : ∀ {s : St}, (∀ (id : Nat) (ob : Ob), s[id]? = some ob → ob.bdd lo) → StConv lo st s s
  | [], _ => .nil
  | o :: s, h => .cons (.keep (h 0 o rfl)) (StConv.refl_of fun id ob ho => h (id + 1) ob (by simpa using ho))

/-- The objects that were there at the start stay as they are. -/
theorem StConv.base {lo : Nat} {st s l l' : St} (hs : StB s) (hlo : s.length ≤ lo) (h : StConv lo st l l') : StConv lo st (s ++ l) (s ++ l') := by
  have : ∀ (s : St), (∀ (id : Nat) (ob : Ob), s[id]? = some ob → ob.bdd lo) → StConv lo st (s ++ l) (s ++ l') := by
    intro s
    induction s with
    | nil => intro _; exact h
    | cons o s ih => intro hb; exact .cons (.keep (hb 0 o rfl)) (ih fun id ob ho => hb (id + 1) ob (by simpa using ho))
  exact this s fun id ob ho => Ob.bdd_le hlo (hs id ob ho)

/-- What is known, as it reads when the objects from 'lo' on are let go. -/
def EnvC (lo : Nat) (st : St) (env : Env) : Env → Prop
  | [] => True
  | (t, v') :: r => (∃ v, look env t = some v ∧ Conv lo st v v') ∧ EnvC lo st env r

theorem EnvC.get {lo : Nat} {st : St} {env : Env} : ∀ {env' : Env}, EnvC lo st env env' → ∀ (t : Nat) (v' : V), look env' t = some v' → ∃ v, look env t = some v ∧ Conv lo st v v'
  | [], _, t, v', h => by cases h
  | (k, u) :: r, hc, t, v', h => by
    simp only [look] at h
    split at h
    · rename_i e; cases h; subst e; exact hc.1
    · exact EnvC.get hc.2 t v' h

theorem acc_live {ver : Nat} {cs : List V} (h : cs ≠ []) : (Ob.acc ver cs).live = true := by
  cases cs with
  | nil => exact absurd rfl h
  | cons => rfl

/-- The core: objects from the n-th on are let go. -/
theorem cut_core {cx : Cx} {S : Nat → Prop} {σ : List Slot} {st1 st1' new : St} {w : World} (hs : StRep S σ (st1 ++ new) w) (hb : SB cx S w) (hc : StConv st1.length (st1 ++ new) st1 st1') :
    ∃ S2, StRep S2 (σ.take st1.length) st1' w ∧ SB cx S2 w ∧ EvoW st1.length S σ (st1 ++ new) w S2 (σ.take st1.length) st1' w ∧ ∀ r r' v, Conv st1.length (st1 ++ new) r r' → Rep S σ w r v → Rep S2 (σ.take st1.length) w r' v := by
  have hsl := hs.len
  obtain ⟨hcl, hcg⟩ := hc.get
  let n := st1.length
  let σ2 := σ.take n
  have hσ2 : ∀ id, id < n → σ2[id]? = σ[id]? := fun id hid => by simp only [σ2, List.getElem?_take]; rw [if_pos hid]
  have hσlen : σ2.length = n := by simp only [σ2, List.length_take, hsl, List.length_append]; omega
  let S2 : Nat → Prop := fun b => S b ∨ OwnFrom n σ (st1 ++ new) b
  have hget : ∀ (id : Nat) (ob : Ob), st1[id]? = some ob → (st1 ++ new)[id]? = some ob ∧ id < n := fun id ob ho => by
    have hlt := (List.getElem?_eq_some_iff.1 ho).1
    exact ⟨by rw [List.getElem?_append_left hlt]; exact ho, hlt⟩
  have hlive : ∀ {o o' : Ob}, ObConv n (st1 ++ new) o o' → o'.live = true → o.live = true := by
    intro o o' h hl
    cases h with
    | keep => exact hl
    | cells => rfl
    | kill => cases hl
    | acc h =>
      rename_i cs ds
      cases cs with
      | nil => cases h; cases hl
      | cons => rfl
    | solid h0 h =>
      rename_i cs ds
      cases cs with
      | nil => exact absurd rfl h0
      | cons => rfl
  have hdis : ∀ (id : Nat) (ob : Ob) (s : Slot), st1[id]? = some ob → ob.live = true → σ[id]? = some s → ¬ S2 s.b := by
    intro id ob s ho hl hsl2 hS
    obtain ⟨g1, g2⟩ := hget id ob ho
    rcases hS with hS | ⟨id2, ob2, s2, k0, k1, k2, k3, k4⟩
    · exact (hs.own_lt ⟨id, ob, s, g1, hl, hsl2, rfl⟩).2 hS
    · have := hs.inj id id2 ob ob2 s s2 g1 k1 hl k2 hsl2 k3 k4.symm
      omega
  have hst2 : StRep S2 σ2 st1' w := by
    refine ⟨by rw [hσlen]; exact hcl, ?_, fun id ob' s ho' hs2 hso => by
      obtain ⟨ob, ho, hcv⟩ := hcg id ob' ho'
      obtain ⟨g1, g2⟩ := hget id ob ho
      rw [hσ2 id g2] at hs2
      cases hcv with
      | keep => exact hs.nil id _ s g1 hs2 hso
      | cells => exact hs.nil id _ s g1 hs2 rfl
      | acc => cases hso
      | solid h0 h =>
        have := hs.ob id _ s g1 hs2
        simp only [ObRep] at this
        exact (this.2.2.2 h0).1
      | kill => exact absurd hso (by decide), ?_, ?_⟩
    · intro id s hs2
      have hid : id < n := by rw [← hσlen]; exact (List.getElem?_eq_some_iff.1 hs2).1
      rw [hσ2 id hid] at hs2
      exact hs.zero id s hs2
    · intro id ob' s ho' hs2
      obtain ⟨ob, ho, hcv⟩ := hcg id ob' ho'
      obtain ⟨g1, g2⟩ := hget id ob ho
      rw [hσ2 id g2] at hs2
      have h5 := hs.ob id ob s g1 hs2
      cases hcv with
      | keep hbd => exact (h5.mono (S' := S2) (fun _ h => .inl h) (fun hl => hdis id ob' s ho hl hs2) (Le.refl _) ⟨fun _ _ => rfl, fun _ _ h => h⟩ (fun _ => rfl)).cut hσ2 hbd
      | cells hl =>
        simp only [ObRep] at h5 ⊢
        obtain ⟨a1, a2, a3, a4, a5⟩ := h5
        have hlen := ConvL.length hl
        refine ⟨a1, by rw [← hlen]; exact a2, hdis id _ s ho rfl hs2, by rw [← hlen]; exact a4, ?_⟩
        exact RepCells.cut hσ2 _ _ _ hl.bdd (ConvL.repCells hs hl a5)
      | acc hl =>
        simp only [ObRep] at h5 ⊢
        have hlen := ConvL.length hl
        refine ⟨h5.1, by rw [← hlen]; exact h5.2.1, fun e => h5.2.2.1 (by rw [e] at hlen; exact List.length_eq_zero_iff.1 hlen), fun hne => ?_⟩
        obtain ⟨a2, a3, a4, a5⟩ := h5.2.2.2 (fun e => hne (by rw [e] at hlen; exact List.length_eq_zero_iff.1 hlen.symm))
        refine ⟨a2, hdis id _ s ho (acc_live fun e => hne (by rw [e] at hlen; exact List.length_eq_zero_iff.1 hlen.symm)) hs2, by rw [← hlen]; exact a4, RepCells.cut hσ2 _ _ _ hl.bdd (ConvL.repCells hs hl a5)⟩
      | solid h0 hl =>
        simp only [ObRep] at h5 ⊢
        have hlen := ConvL.length hl
        obtain ⟨a2, a3, a4, a5⟩ := h5.2.2.2 h0
        refine ⟨h5.1, by rw [← hlen]; exact h5.2.1, hdis id _ s ho (acc_live h0) hs2, by rw [← hlen]; exact a4, RepCells.cut hσ2 _ _ _ hl.bdd (ConvL.repCells hs hl a5)⟩
      | kill => trivial
    · intro i j o1 o2 s1 s2 g1 g2 l1 l2 k1 k2 e
      obtain ⟨p1, q1, c1⟩ := hcg i o1 g1
      obtain ⟨p2, q2, c2⟩ := hcg j o2 g2
      obtain ⟨f1, f2⟩ := hget i p1 q1
      obtain ⟨f3, f4⟩ := hget j p2 q2
      rw [hσ2 i f2] at k1
      rw [hσ2 j f4] at k2
      exact hs.inj i j p1 p2 s1 s2 f1 f3 (hlive c1 l1) (hlive c2 l2) k1 k2 e
  have hnew : ∀ b, OwnFrom n σ (st1 ++ new) b → Own σ (st1 ++ new) b := fun b ⟨id, ob, s, k0, k1, k2, k3, k4⟩ => ⟨id, ob, s, k1, k2, k3, k4⟩
  have hlt2 : ∀ b, S2 b → b < w.heap.size := fun b hS => hS.elim (hb.lt b) (fun h => (hs.own_lt (hnew b h)).1)
  refine ⟨S2, hst2, ⟨hlt2, fun g cs hg => ⟨.inl (hb.glob g cs hg).1, RepCells.mono (fun _ h => .inl h) (Le.refl _) ⟨fun _ _ => rfl, fun _ _ h => h⟩ g (hb.glob g cs hg).1 0 cs (hb.glob g cs hg).2⟩⟩, ?_, fun r r' v hcv hr => Rep.cut hσ2 _ _ hcv.bdd (Conv.rep hs hcv hr)⟩
  refine ⟨rfl, rfl, rfl, Nat.le_refl _, fun _ _ h => h, fun _ _ _ => rfl, fun b h => .inl h, ?_, ?_, ?_⟩
  · rintro b (hS | hO)
    · exact .inl hS
    · exact .inr (.inr (hnew b hO))
  · rintro b ⟨id, ob', s, k1, k2, k3, rfl⟩
    obtain ⟨ob, ho, hcv⟩ := hcg id ob' k1
    obtain ⟨g1, g2⟩ := hget id ob ho
    rw [hσ2 id g2] at k3
    exact .inl ⟨id, ob, s, g1, hlive hcv k2, k3, rfl⟩
  · exact Le.refl _

theorem EvoW.le_fl {m n : Nat} (hmn : m ≤ n) {S S' : Nat → Prop} {σ σ' : List Slot} {st st' : St} {w w' : World} (h : EvoW n S σ st w S' σ' st' w') : EvoW m S σ st w S' σ' st' w' :=
  ⟨h.os, h.tape, h.output, h.size, h.shape, h.keep, h.sub, h.new, h.own, fun id s hs => h.le id s (by
    rw [List.getElem?_take] at hs ⊢
    split at hs
    · rw [if_pos (by omega)]; exact hs
    · cases hs)⟩

section
variable {cx : Cx} {N : Nat} {r : RR} {env : Env} {st : St} {Q : Exit → Env → St → Prop}

/-- Objects that are not needed any more are let go. -/
theorem WP.cut {c : Code} {env' : Env} {st1 st1' new : St} (hst : st = st1 ++ new) (hfl : r.fl ≤ st1.length) (hc : StConv st1.length st st1 st1') (he : EnvC st1.length st env env') (h : WP cx N r c Q env' st1') : WP cx N r c Q env st := by
  subst hst
  intro lo S σ F a w hh hF hr
  obtain ⟨S2, k1, k2, k3, k4⟩ := cut_core hh.str hh.sb hc
  have hh2 : Holds cx N lo S2 (σ.take st1.length) env' st1' a w := ⟨hh.size, fun t v' hv => by
    obtain ⟨v, g1, g2⟩ := he.get t v' hv
    exact k4 v v' _ g2 (hh.rep t v g1), k1, k2, DefOK.monoW k3 _ hh.dfr, hh.le⟩
  refine Code.wpIn_mono ?_ (h lo S2 _ F a w hh2 hF hr)
  rintro e a' w' ⟨env2, st2, S3, σ3, q, h3, ev⟩
  exact ⟨env2, st2, S3, σ3, q, h3, (k3.le_fl hfl).trans ev⟩

theorem wpF_cut {c : Code} (env' : Env) (st1 st1' new : St) (hst : st = st1 ++ new) (hfl : r.fl ≤ st1.length) (hc : StConv st1.length st st1 st1') (he : EnvC st1.length st env env') (h : wpF cx N r c Q env' st1') : WP cx N r c Q env st :=
  WP.cut hst hfl hc he (wpF_sound h)

/-- As Q, or as Q when objects are let go. -/
def CutP (fl : Nat) (env2 : Env) (st2 : St) (Q : Env → St → Prop) : Prop :=
  ∃ env' st1 st1' new, st2 = st1 ++ new ∧ fl ≤ st1.length ∧ StConv st1.length st2 st1 st1' ∧ EnvC st1.length st2 env2 env' ∧ Q env' st1'

theorem WP.cutPost {c : Code} {Q' : Exit → Env → St → Prop} (h : WP cx N r c Q' env st) (hq : ∀ e env2 st2, Q' e env2 st2 → Q e env2 st2 ∨ CutP r.fl env2 st2 (Q e)) : WP cx N r c Q env st := by
  intro lo S σ F a w hh hF hr
  refine Code.wpIn_mono ?_ (h lo S σ F a w hh hF hr)
  rintro e a2 w2 ⟨env2, st2, S2, σ2, q, hh2, ev⟩
  rcases hq e env2 st2 q with q | ⟨env', st1, st1', new, rfl, hfl, hc, he, q⟩
  · exact ⟨env2, st2, S2, σ2, q, hh2, ev⟩
  · obtain ⟨S3, k1, k2, k3, k4⟩ := cut_core hh2.str hh2.sb hc
    refine ⟨env', st1', S3, _, q, ⟨hh2.size, fun t v' hv => ?_, k1, k2, DefOK.monoW k3 _ hh2.dfr, hh2.le⟩, ev.trans (k3.le_fl hfl)⟩
    obtain ⟨v, g1, g2⟩ := he.get t v' hv
    exact k4 v v' _ g2 (hh2.rep t v g1)

/-- What a round of a loop has to come to: objects may be let go. -/
def Kc {ι : Type} (fl : Nat) (E : ι → Env) (T : ι → St) (I : ι → Prop) (μ : ι → Nat) (i : ι) (Q : Exit → Env → St → Prop) : Exit → Env → St → Prop :=
  Then (fun _ env st => ∃ j, I j ∧ μ j < μ i ∧ ∃ st1 new, st = st1 ++ new ∧ fl ≤ st1.length ∧ StConv st1.length st st1 (T j) ∧ EnvC st1.length st env (E j)) Q

section
variable {ι : Type} {E : ι → Env} {T : ι → St} {I : ι → Prop} {μ : ι → Nat} {i : ι} {fl : Nat}
theorem Kc_exit {k : Nat} : Kc fl E T I μ i Q (.exit k) env st = Q (.exit k) env st := rfl
theorem Kc_goto {k : Nat} : Kc fl E T I μ i Q (.goto k) env st = Q (.goto k) env st := rfl
theorem Kc_ret : Kc fl E T I μ i Q .ret env st = Q .ret env st := rfl
theorem Kc.next (j : ι) (h1 : I j) (h2 : μ j < μ i) (st1 new : St) (hst : st = st1 ++ new) (hfl : fl ≤ st1.length) (hc : StConv st1.length st st1 (T j)) (he : EnvC st1.length st env (E j)) : Kc fl E T I μ i Q .normal env st := ⟨j, h1, h2, st1, new, hst, hfl, hc, he⟩

theorem sub_refl_of : ∀ {env env' : Env}, (∀ t v, look env' t = some v → look env t = some v) → (∀ p ∈ env', look env' p.1 = some p.2) → Sub env env' := by
  intro env env' h
  have : ∀ l : Env, (∀ p ∈ l, look env p.1 = some p.2) → Sub env l := by
    intro l
    induction l with
    | nil => intro _; trivial
    | cons p l ih => intro hp; exact ⟨hp p (by simp), ih fun q hq => hp q (by simp [hq])⟩
  exact fun hp => this env' fun p hpp => h _ _ (hp p hpp)

/-- A loop; what its rounds do not need any more is let go. -/
theorem WP.loopC {c : Code} (E : ι → Env) (T : ι → St) (I : ι → Prop) (μ : ι → Nat) (i0 : ι) (h0 : I i0) (hE : Sub env (E i0)) (hst : st = T i0) (hself : ∀ i, Sub (E i) (E i))
    (step : ∀ i, I i → wpF cx N r c (Kc r.fl E T I μ i Q) (E i) (T i)) : WP cx N r (.loop c) Q env st := by
  refine WP.loop E T I μ i0 h0 hE hst fun i hi => WP.cutPost (wpF_sound (step i hi)) fun e env2 st2 q => ?_
  cases e with
  | normal =>
    obtain ⟨j, h1, h2, st1, new, h3, h4, h5, h6⟩ := q
    exact .inr ⟨E j, st1, T j, new, h3, h4, h5, h6, j, h1, h2, hself j, rfl⟩
  | exit k => exact .inl q
  | goto k => exact .inl q
  | ret => exact .inl q
  | panic ch => exact .inl q
  | outgrown => exact .inl q
end

/-- A contract, with the knowledge that the store is closed. -/
theorem VCall.of_WPB {f : FuncId} {fn : Func} {c : Code} {args : List V} {K : V → St → Prop} (hf : cx.P.funcs[f]? = some fn) (hb : fn.body = some c) (hn : (fn.name == "runtime.NumGoroutine") = false) (hl : args.length ≤ fn.ntmps)
    (h : StB st → WP cx fn.ntmps ⟨none, st.length⟩ c (Post cx fn.results.toList K) (argEnv 0 args) st) : VCall cx f args st K :=
  ⟨⟨fn, hf, hn, by rw [hb]; rfl⟩, fun S σ w vals h1 h2 h3 => (VCall.of_WP hf hb hn hl (h h2.stB)).2 S σ w vals h1 h2 h3⟩

/-- Leaving a function: objects are let go. -/
theorem VCall.leave {f : FuncId} {args : List V} {K : V → St → Prop}
    (h : VCall cx f args st fun r st' => ∃ r' st1 st1' new, st' = st1 ++ new ∧ st.length ≤ st1.length ∧ StConv st1.length st' st1 st1' ∧ Conv st1.length st' r r' ∧ K r' st1') : VCall cx f args st K := by
  refine ⟨h.1, fun S σ w vals h1 h2 h3 => (h.2 S σ w vals h1 h2 h3).mono ?_⟩
  rintro e w' ⟨v, r, st', S', σ', rfl, ⟨r', st1, st1', new, rfl, hlen, hc, hcv, hK⟩, hr, hs, hb, hev⟩
  obtain ⟨S3, k1, k2, k3, k4⟩ := cut_core hs hb hc
  exact ⟨v, r', st1', S3, _, rfl, hK, k4 r r' v hcv hr, k1, k2, (hev.toW.trans (k3.le_fl hlen)).full (Nat.le_of_eq h2.len)⟩

/-- Leaving a round: objects are let go. -/
theorem VYield.leave {id : Nat} {args : List V} {K : Bool → St → Prop}
    (h : VYield cx id args st fun b st' => ∃ st1 st1' new, st' = st1 ++ new ∧ st.length ≤ st1.length ∧ StConv st1.length st' st1 st1' ∧ K b st1') : VYield cx id args st K := by
  intro S σ w vals h1 h2 h3
  obtain ⟨s, r, a1, a2, a3, a4, a5⟩ := h S σ w vals h1 h2 h3
  refine ⟨s, r, a1, a2, a3, a4, a5.mono ?_⟩
  rintro e w' ⟨b, st', S', σ', rfl, ⟨st1, st1', new, rfl, hlen, hc, hK⟩, hs, hb, hev⟩
  obtain ⟨S3, k1, k2, k3, k4⟩ := cut_core hs hb hc
  exact ⟨b, st1', S3, _, rfl, hK, k1, k2, (hev.toW.trans (k3.le_fl hlen)).full (Nat.le_of_eq h2.len)⟩

/-- A range over a function. -/
theorem WP.rangeFunc {g : Operand} {ps : Array Tmp} {assign body : Code} {f : FuncId} {caps : List V} {fl : Nat} (hg : opnd cx env g = some (.fn (.func f) caps))
    (h : ∀ fn, VCall cx f (.yld st.length :: caps) (st ++ [.loop .ready none env N fn ps assign body]) fun _ st' => ∃ state jump, st'[st.length]? = some (.loop state jump env N fn ps assign body) ∧ state ≠ .busy ∧
      (match jump with
       | none => Q .normal env (st'.set st.length .dead)
       | some c => WP cx N ⟨none, fl⟩ c Q env (st'.set st.length .dead))) : WP cx N ⟨none, fl⟩ (.rangeFunc g ps assign body) Q env st := by
  intro lo S σ F a w hh hF hr
  have hF' : F = Fence.wide := by
    rcases hF with ⟨l, rfl⟩ | rfl
    · have := hr.2 rfl; cases this
    · rfl
  subst hF'
  have hgr := hh.opnd hg
  simp only [Rep] at hgr
  obtain ⟨cvs, ex, hcaps⟩ := hgr
  refine wpIn_rangeFunc fun fn _ => ?_
  -- the block of the deferred calls, the record
  let w0 := w.alloc (.deferred (some []))
  let rec0 : Loop := { state := .ready, pending := none, fn := fn, tmps := a.tmps, params := ps, assign := assign, body := body, defers := w.heap.size }
  let w1 := w0.alloc (.loop rec0)
  have hsz0 : w0.heap.size = w.heap.size + 1 := by simp only [w0, World.alloc, Array.size_push]
  have same0 : Same S w w0 := same_alloc S w _ hh.sb.lt
  have h0s : StRep S σ st w0 := hh.str.turn (fun b hb => by
    have hlt : b < w.heap.size := hb.elim (hh.sb.lt b) (fun ho => (hh.str.own_lt ho).1)
    simp only [w0, World.alloc, Array.getElem?_push]; rw [if_neg (by omega)]) same0.shape
  have hsb0 : SB cx S w0 := hh.sb.push _
  have hev0 : Evo S σ st w S σ st w0 := ⟨rfl, rfl, rfl, by omega, same0.shape, fun b hb _ => by simp only [w0, World.alloc, Array.getElem?_push]; rw [if_neg (by omega)], fun _ h => h, fun _ h => .inl h, fun _ h => .inl h, Le.refl _⟩
  have hslot : (⟨w0.heap.size, 0, 0, 0, false⟩ : Slot).b = w0.heap.size := rfl
  have h1s : StRep S (σ ++ [⟨w0.heap.size, 0, 0, 0, false⟩]) (st ++ [.loop .ready none env N fn ps assign body]) w1 := by
    refine h0s.push hsb0.lt _ _ _ rfl rfl rfl ?_
    simp only [ObRep]
    refine ⟨trivial, fun hS => by have := hsb0.lt _ hS; omega, a.tmps, w.heap.size, heap_new _ _, hh.size, fun t v ht => ?_⟩
    exact Rep.mono (fun _ h => h) (le_push _ _) ⟨fun b hb => (same_alloc S w0 (.loop rec0) hsb0.lt).heap b hb, (same_alloc S w0 (.loop rec0) hsb0.lt).shape⟩ _ _ (Rep.mono (fun _ h => h) (Le.refl _) same0 _ _ (hh.rep t v ht))
  have hsb1 : SB cx S w1 := hsb0.push _
  have hev1 : Evo S σ st w0 S (σ ++ [⟨w0.heap.size, 0, 0, 0, false⟩]) (st ++ [.loop .ready none env N fn ps assign body]) w1 := Evo.push h0s _ _ _ rfl
  have hev01 := hev0.trans hev1
  -- the function, called with yield
  have hall : RepAll S (σ ++ [⟨w0.heap.size, 0, 0, 0, false⟩]) w1 (.yld st.length :: caps) (.func (.yield w0.heap.size) #[] #[] :: cvs) := by
    simp only [RepAll]
    refine ⟨_, _, rfl, ?_, hev01.repAll hh.str hh.sb.lt hcaps⟩
    simp only [Rep]
    exact ⟨⟨_, rfl⟩, ⟨w0.heap.size, 0, 0, 0, false⟩, slot_new hh.str _, fun _ => rfl⟩
  have hcall := (h fn).2 S _ w1 _ hall h1s hsb1
  have hmark : w1.heap[w.heap.size]? = some (.deferred (some [])) := by
    simp only [w1, w0, World.alloc, Array.getElem?_push, Array.size_push]
    simp
  have hdef : DefOK lo S (σ ++ [⟨w0.heap.size, 0, 0, 0, false⟩]) (st ++ [.loop .ready none env N fn ps assign body]) w1 ([{ target := .collected w.heap.size, args := #[] }] ++ a.defers) := by
    refine ⟨⟨rfl, w.heap.size, rfl, hh.le, hmark, fun hS => by have := hh.sb.lt _ hS; omega, fun ho => ?_, fun d' hd' e => ?_⟩, DefOK.mono hev01 _ hh.dfr⟩
    · rcases own_push hh.str.len ho with h | h
      · have := (hh.str.own_lt h).1; omega
      · simp only at h; omega
    · have : ∀ ds, DefOK lo S σ st w ds → ∀ d' ∈ ds, d'.target = .collected w.heap.size → False := by
        intro ds
        induction ds with
        | nil => intro _ d' hd'; cases hd'
        | cons d ds ih =>
          rintro ⟨⟨_, b, e1, _, e2, _⟩, h8⟩ d' hd' e
          rcases List.mem_cons.1 hd' with rfl | hd'
          · rw [e1] at e; cases e
            have := (Array.getElem?_eq_some_iff.1 e2).1; omega
          · exact ih h8 d' hd' e
      exact this _ hh.dfr d' hd' e
  refine ⟨w0.heap.size, [{ target := .collected w.heap.size, args := #[] }], w1, { target := .fn (.func f) cvs.toArray, args := #[.func (.yield w0.heap.size) #[] #[]] }, w1, f, (.func (.yield w0.heap.size) #[] #[] :: cvs).toArray, w1, ?_, ?_, fun _ _ => trivial, ?_, fun hd => (by cases hd), ?_⟩
  · simp [Instr.enterLoop, Fence.wide]; exact ⟨hsz0.symm, rfl⟩
  · simp only [resolve, ex, Deferred.ofValue, Sem.run_bind, Sem.run_pure, Result.andThen_ok]
    have e : #[] ++ Array.map a.eval #[Operand.const (Value.func (.yield w0.heap.size) #[] #[])] = #[Value.func (.yield w0.heap.size) #[] #[]] := by apply Array.ext'; simp [Act.eval]
    rw [e]
  · simp only [invoke]
    have e : #[Value.func (.yield w0.heap.size) #[] #[]] ++ cvs.toArray = (Value.func (.yield w0.heap.size) #[] #[] :: cvs).toArray := by apply Array.ext'; simp
    rw [e]
    exact run_callFunc (h fn).1 _ w1
  · have h2 : CallsIn Fence.wide 0 cx.P f (.func (.yield w0.heap.size) #[] #[] :: cvs).toArray w1 _ := callsIn_wide.2 hcall
    refine CallsIn.mono h2 ?_
    rintro e w3 ⟨v, _, st', S3, σ3, rfl, ⟨state, jump, ho3, hbusy, hK⟩, _, hs3, hb3, hev3⟩
    obtain ⟨s3, tmps3, dfr3, d1, d2, d3, d4, d5, d6⟩ := loop_block hs3 ho3
    have es : s3.b = w0.heap.size := by
      obtain ⟨s', l1, l2, l3⟩ := hev3.le st.length _ (slot_new hh.str ⟨w0.heap.size, 0, 0, 0, false⟩)
      rw [d1] at l1; cases l1
      rw [l3 (by omega)]
    rw [es] at d4
    obtain ⟨k1, k2, k3⟩ := blk_set (ob' := .dead) (o' := .loop { state := .exhausted, pending := jump, fn := fn, tmps := tmps3, params := ps, assign := assign, body := body, defers := dfr3 }) hs3 hb3 ho3 d1 rfl (by rw [es]; exact d4) (fun sh => by rw [es]; simp [World.shape?, d4]) d3 (fun _ _ _ => trivial)
    simp only [rangePost]
    refine ⟨jump, { w3 with heap := w3.heap.setIfInBounds s3.b (.loop { state := .exhausted, pending := jump, fn := fn, tmps := tmps3, params := ps, assign := assign, body := body, defers := dfr3 }) }, ?_, ?_⟩
    · rw [es]
      have hne : (state == LoopState.busy) = false := by cases state <;> first | rfl | exact absurd rfl hbusy
      simp only [Instr.endLoop, Sem.run_bind, run_getLoop d4, Result.andThen_ok, hne, Bool.false_eq_true, if_false, run_setLoop _ d4, Sem.run_pure]
    · have evall := (hev01.trans hev3).trans k3
      have hh4 : Holds cx N lo S3 σ3 env (st'.set st.length .dead) { a with defers := [{ target := .collected w.heap.size, args := #[] }] ++ a.defers } _ := ⟨hh.size, fun t v ht => evall.rep hh.str hh.sb.lt (hh.rep t v ht), k1, k2, DefOK.mono (hev3.trans k3) _ hdef, Nat.le_trans hh.le evall.size⟩
      cases jump with
      | none => exact ⟨env, _, S3, σ3, hK, hh4, evall.toW⟩
      | some c =>
        simp only at hK ⊢
        refine Code.wpIn_mono ?_ (hK lo S3 σ3 Fence.wide _ _ hh4 (.inr rfl) ⟨fun _ => rfl, fun _ => rfl⟩)
        rintro e2 a2 w4 ⟨env5, st5, S5, σ5, q, hh5, ev5⟩
        exact ⟨env5, st5, S5, σ5, q, hh5, evall.toW.trans ev5⟩

/-- What a function does that hands the values xs, one after the other, to what it is given. -/
def IterC (cx : Cx) (f : FuncId) (caps : List V) (xs : List V) : Prop :=
  ∀ (id : Nat) (Φ : Nat → St), (∀ (i : Nat) (x : V), xs[i]? = some x → VYield cx id [x] (Φ i) fun b st' => b = true ∧ st' = Φ (i + 1)) →
    VCall cx f (.yld id :: caps) (Φ 0) fun _ st' => st' = Φ xs.length

/-- What is asked where a round's body ends: at its end. -/
def PostR (s : St) : Exit → Env → St → Prop := fun e _ st => e = .normal ∧ st = s
/-- What is asked where a round's assignment ends. -/
def PostA (cx : Cx) (N fl : Nat) (body : Code) (s s' : St) (R : St) : Exit → Env → St → Prop := fun e env1 st1 => e = .normal ∧ st1 = s ∧ WP cx N ⟨some 0, fl⟩ body (PostR R) env1 s'

/-- A range over a function that hands out values, no round of which leaves the range. -/
theorem WP.rangeIter {g : Operand} {p : Tmp} {assign body : Code} {f : FuncId} {caps : List V} {fl : Nat} (xs : List V) (T : Nat → Ob → St) (hg : opnd cx env g = some (.fn (.func f) caps)) (hI : IterC cx f caps xs) (hp : p < N)
    (h0 : ∀ ob, st ++ [ob] = T 0 ob) (hget : ∀ i ob, (T i ob)[st.length]? = some ob) (hset : ∀ i ob ob', (T i ob).set st.length ob' = T i ob')
    (hb : ∀ (i : Nat) (x : V) (lr lb : Ob), xs[i]? = some x → WP cx N ⟨some 0, (T i lr).length⟩ assign (PostA cx N (T i lr).length body (T i lr) (T i lb) (T (i + 1) lb)) (bindE [p] [x] env) (T i lr))
    (hQ : Q .normal env (T xs.length .dead)) : WP cx N ⟨none, fl⟩ (.rangeFunc g #[p] assign body) Q env st := by
  refine WP.rangeFunc hg fun fn => ?_
  rw [h0]
  refine (hI st.length (fun i => T i (.loop .ready none env N fn #[p] assign body)) fun i x hx => ?_).mono ?_
  · refine VYield.of_WP (hget i _) rfl (by simpa using hp) ?_
    refine WP.mono (hb i x _ (.loop .busy none env N fn #[p] assign body) hx) ?_
    rintro e env1 st1 ⟨h1, h2, h3⟩
    refine ⟨h1, h2, ?_⟩
    rw [hset]
    refine WP.mono h3 ?_
    rintro e2 env2 st2 ⟨rfl, rfl⟩
    refine ⟨hget _ _, ?_⟩
    rw [hset]
    exact ⟨rfl, rfl⟩
  · rintro _ st' rfl
    refine ⟨.ready, none, hget _ _, (by intro h; cases h), ?_⟩
    simp only
    rw [hset]
    exact hQ
end
end Go.VL
end

/- The value-level program logic, part 23: ranges over maps. -/
section
set_option linter.unusedVariables false
set_option linter.unusedSimpArgs false
namespace Go.VL
open Go

def Key.toV : Key → V
  | .int k n => .int k n
  | .str s => .str s
  | .cells l => .agg (l.map fun p => V.int p.1 p.2)

theorem Key.rep {S : Nat → Prop} {σ : List Slot} {w : World} (k : Key) : Rep S σ w k.toV k.value := by
  cases k with
  | int k n => simp [Key.toV, Key.value, Rep]
  | str s => simp [Key.toV, Key.value, Rep]
  | cells l =>
    simp only [Key.toV, Key.value, Rep]
    refine ⟨l.map fun p => Value.int p.1 p.2, rfl, by simp [V.one], ?_⟩
    induction l with
    | nil => simp [RepAll]
    | cons p l ih => simp only [List.map_cons, RepAll]; exact ⟨_, _, rfl, by simp [Rep], ih⟩

section
variable {cx : Cx} {env : Env} {st : St} {K : Option V → St → Prop}

theorem OpOK.range {ty t : TypeId} {x : Operand} {i : TI} {kt et : TypeId} {id : Nat} {es : List (Key × V)} (ht : tyi cx.P t = some i) (hi : i.kind = .map kt et) (hx : opnd cx env x = some (.map id)) (ho : st[id]? = some (.map es))
    (hK : K (some (.ptr st.length 0 0)) (st ++ [.iter id es.length []])) : OpOK cx (.range t x) ty env st K := by
  intro S σ F N lo o a w hop _ hh hF next Qr hnext
  obtain ⟨d, hu, hd, _⟩ := tyi_under ht
  rw [hi] at hd
  obtain rfl := kind_map hd
  obtain ⟨s, ents, ex, f1, hb, hR, hborn, hnd⟩ := map_block hh.str ho (hh.opnd hx)
  have hl : ents.size = es.length := by have := hR.get.1; simpa using this
  have hp : StRep S (σ ++ [⟨w.heap.size, 0, 0, 0, false⟩]) (st ++ [.iter id es.length []]) (w.alloc (.mapIter (some s.b) ents.size #[] ents.size)) := by
    refine hh.str.push hh.sb.lt _ _ _ rfl rfl rfl ?_
    simp only [ObRep]
    refine ⟨trivial, fun hS => by have := hh.sb.lt _ hS; omega, s.b, #[], by rw [← hl]; exact heap_new _ _, rfl, s, ?_, fun _ => rfl⟩
    rw [List.getElem?_append_left (List.getElem?_eq_some_iff.1 f1).1]; exact f1
  refine wpIn_value hF (by rw [hop]; intro c h; cases h) (w' := w.alloc (.mapIter (some s.b) ents.size #[] ents.size)) (v := .pointer (some ⟨w.heap.size, 0, none⟩)) ?_ (hnext _ _ _ S _ _ hK (fun u ee => ?_) hp (hh.sb.push _) (Evo.push hh.str _ _ _ rfl))
  · simp [execOp, hop, Instr.range, run_under hu, ex, MapKept.run_getObj_map hb]
  · cases ee
    exact rep_new_ptr hh.str rfl rfl

theorem OpOK.next {ty : TypeId} {x : Operand} {it m : Nat} {seen : List Nat} {es : List (Key × V)} (hx : opnd cx env x = some (.ptr it 0 0)) (ho : st[it]? = some (.iter m es.length seen)) (hm : st[m]? = some (.map es))
    (h0 : (∀ i, i < es.length → i ∈ seen) → K (some (.tup [.bool false])) st)
    (h1 : ∀ i k v, i ∉ seen → es[i]? = some (k, v) → K (some (.tup [.bool true, k.toV, v])) (st.set it (.iter m es.length (seen ++ [i])))) : OpOK cx (.next x false) ty env st K := by
  intro S σ F N lo o a w hop _ hh hF next Qr hnext
  have hr := hh.opnd hx
  simp only [Rep] at hr
  obtain ⟨_, s, f1, _, f2⟩ := hr
  have hob := hh.str.ob it _ s ho f1
  simp only [ObRep] at hob
  obtain ⟨hver, hS, mb, sn, hb, hsn, sm, hsm, hmb⟩ := hob
  have ex := f2 hver.symm
  have hz := hh.str.zero it s f1
  have hmo := hh.str.ob m _ sm hm hsm
  simp only [ObRep] at hmo
  obtain ⟨hmver, hmS, ents, clock, hmh, hR, rfl, hborn, hnd⟩ := hmo
  have hmb := hmb hmver
  rw [hmb] at hmh
  obtain ⟨hl', hget⟩ := hR.get
  have hl : ents.size = es.length := by simpa using hl'
  have hbs : ∀ i (hi : i < ents.size), (ents[i]'hi).born = i := by
    intro i hi
    have : (ents.toList.map (·.born))[i]? = some (ents[i]'hi).born := by simp [hi]
    rw [hborn, List.getElem?_range hi] at this
    exact (Option.some.inj this).symm
  have hold : ∀ e ∈ ents.toList, e.born < es.length := by
    intro e he
    obtain ⟨i, hi⟩ := List.getElem?_of_mem he
    have hlt : i < ents.size := by have := (List.getElem?_eq_some_iff.1 hi).1; simpa using this
    have : ents[i] = e := by simpa [hlt] using hi
    rw [← this, hbs i hlt]; omega
  have ea : a.eval x = .pointer (some ⟨s.b, 0, none⟩) := by rw [ex, hz]
  rcases run_next_at (P := cx.P) w o.type s.b mb es.length es.length sn ents ents.size hb hmh hold (Nat.le_refl _) with ⟨q1, q2⟩ | ⟨e, q1, w1, q2, q3⟩
  · have hall : ∀ i, i < es.length → i ∈ seen := by
      intro i hi
      have hi' : i < ents.size := by omega
      rw [← hsn]
      have hnil : leftOf ents sn = #[] := Array.eq_empty_of_size_eq_zero q1
      unfold leftOf at hnil
      rw [Array.filter_eq_empty_iff] at hnil
      have := hnil ents[i] (Array.getElem_mem hi')
      rw [hbs i hi'] at this
      simpa using this
    refine wpIn_value hF (by rw [hop]; intro c h; cases h) (w' := w) (v := .tuple #[.bool false]) ?_ (hnext _ _ _ S σ w (h0 hall) (fun u ee => ?_) hh.str hh.sb (Evo.refl _ _ _ _))
    · simp only [execOp, hop, Sem.run_bind, ea, q2, Result.andThen_ok, Sem.run_pure]
    · cases ee; simp only [Rep]; exact ⟨[.bool false], rfl, by simp [RepAll, Rep]⟩
  · have hme : e ∈ ents.toList ∧ e.born ∉ seen := by
      unfold leftOf at q1
      simp at q1
      refine ⟨by simpa using q1.1, ?_⟩
      rw [← hsn]; simpa using q1.2
    obtain ⟨i, hi⟩ := List.getElem?_of_mem hme.1
    have hlt : i < ents.size := by have := (List.getElem?_eq_some_iff.1 hi).1; simpa using this
    have hei : ents[i] = e := by simpa [hlt] using hi
    have hbi : e.born = i := by rw [← hei]; exact hbs i hlt
    obtain ⟨p, hp, g1, g2⟩ := hget i e hi
    obtain ⟨k, v⟩ := p
    -- the world with one draw more, or the same
    have hh1 : StRep S σ st w1 ∧ SB cx S w1 ∧ Evo S σ st w S σ st w1 ∧ w1.heap = w.heap := by
      rcases q2 with rfl | rfl
      · exact ⟨hh.str, hh.sb, Evo.refl _ _ _ _, rfl⟩
      · have ev : Evo S σ st w S σ st w.drew := ⟨rfl, rfl, rfl, Nat.le_refl _, fun _ _ h => h, fun _ _ _ => rfl, fun _ h => h, fun _ h => .inl h, fun _ h => .inl h, Le.refl _⟩
        exact ⟨hh.str.turn (fun _ _ => rfl) (fun _ _ h => h), ev.sb hh.str hh.sb hh.sb.lt, ev, rfl⟩
    obtain ⟨z1, z2, z3, z4⟩ := hh1
    obtain ⟨m1, m2, m3⟩ := blk_set (ob' := .iter m es.length (seen ++ [i])) (o' := .mapIter (some mb) es.length (sn.push e.born) ents.size) z1 z2 ho f1 rfl (by rw [z4]; exact hb) (fun sh => by simp [World.shape?, z4, hb]) hS (fun w' same hw => by
      simp only [ObRep]
      exact ⟨hver, hS, mb, sn.push e.born, by rw [hw, hl], by simp [hsn, hbi], sm, hsm, fun _ => hmb⟩)
    refine wpIn_value hF (by rw [hop]; intro c h; cases h) (w' := { w1 with heap := w1.heap.setIfInBounds s.b (.mapIter (some mb) es.length (sn.push e.born) ents.size) }) (v := .tuple #[.bool true, e.key, e.val]) ?_ (hnext _ _ _ S σ _ (h1 i k v (by rw [← hbi]; exact hme.2) hp) (fun u ee => ?_) m1 m2 (z3.trans m3))
    · simp only [execOp, hop, Sem.run_bind, ea, q3, Result.andThen_ok, Sem.run_pure]; rfl
    · cases ee
      simp only [Rep]
      refine ⟨[.bool true, e.key, e.val], rfl, _, _, rfl, by simp [Rep], _, _, rfl, by rw [g1]; exact Key.rep k, _, _, rfl, ?_, rfl⟩
      exact (z3.trans m3).rep hh.str hh.sb.lt g2

theorem OpOK.entry {ty : TypeId} {x : Operand} {it m i : Nat} {seen : List Nat} {es : List (Key × V)} {k : Key} {v : V} (hx : opnd cx env x = some (.ptr it 0 0)) (ho : st[it]? = some (.iter m es.length (seen ++ [i]))) (hm : st[m]? = some (.map es)) (hi : es[i]? = some (k, v))
    (hK : K (some (.tup [k.toV, v])) st) : OpOK cx (.entry x) ty env st K := by
  refine OpOK.pure (by intro c h; cases h) (fun S σ N lo a w o hop _ hh => ?_) hK
  have hr := hh.opnd hx
  simp only [Rep] at hr
  obtain ⟨_, s, f1, _, f2⟩ := hr
  have hob := hh.str.ob it _ s ho f1
  simp only [ObRep] at hob
  obtain ⟨hver, hS, mb, sn, hb, hsn, sm, hsm, hmb⟩ := hob
  have ex := f2 hver.symm
  have hz := hh.str.zero it s f1
  have hmo := hh.str.ob m _ sm hm hsm
  simp only [ObRep] at hmo
  obtain ⟨hmver, hmS, ents, clock, hmh, hR, rfl, hborn, hnd⟩ := hmo
  have hmb := hmb hmver
  rw [hmb] at hmh
  obtain ⟨hl', hget⟩ := hR.get
  have hl : ents.size = es.length := by simpa using hl'
  have hlt : i < ents.size := by rw [hl]; exact (List.getElem?_eq_some_iff.1 hi).1
  obtain ⟨p, hp, g1, g2⟩ := hget i ents[i] (by simp [hlt])
  rw [hi] at hp; cases hp
  have hbi : ents[i].born = i := by
    have : (ents.toList.map (·.born))[i]? = some ents[i].born := by simp [hlt]
    rw [hborn, List.getElem?_range hlt] at this
    exact (Option.some.inj this).symm
  obtain ⟨sn0, rfl⟩ : ∃ sn0 : Array Nat, sn = sn0.push i := by
    refine ⟨seen.toArray, ?_⟩
    apply Array.ext'; simp [hsn]
  have ea : a.eval x = .pointer (some ⟨s.b, 0, none⟩) := by rw [ex, hz]
  have := run_entry_at (P := cx.P) w s.b mb es.length sn0 ents ents.size ents[i] (by rw [hbi, hl]; rw [hb]) hmh (by simp) (by rw [hborn]; exact List.nodup_range)
  refine ⟨.tuple #[ents[i].key, ents[i].val], ?_, ?_⟩
  · simp only [execOp, hop, Sem.run_bind, ea, this, Result.andThen_ok, Sem.run_pure]
  · simp only [Rep]
    exact ⟨[ents[i].key, ents[i].val], rfl, _, _, rfl, by rw [g1]; exact Key.rep k, _, _, rfl, g2, rfl⟩

/-- Calling yield in a drawn region: with one answer. -/
theorem SpD.yield {ty : TypeId} {x : Operand} {args : Array Operand} {ts : Array TypeId} {id : Nat} {vs : List V} {b : Bool} {st' : St} (hx : opnd cx env x = some (.yld id)) (hv : opndL cx env args.toList = some vs)
    (h : VYield cx id vs st fun b' s => b' = b ∧ s = st') (hk : K (some (.bool b)) st') : SpD cx (.call { callee := .value x, args := args, argTypes := ts }) ty env st K :=
  ⟨some (.bool b), st', OpOK.yield hx hv (h.mono fun b' s ⟨h1, h2⟩ => ⟨by rw [h1], h2⟩), hk⟩

theorem Sp.yield {ty : TypeId} {x : Operand} {args : Array Operand} {ts : Array TypeId} {id : Nat} {vs : List V} (hx : opnd cx env x = some (.yld id)) (hv : opndL cx env args.toList = some vs)
    (h : VYield cx id vs st fun b st' => K (some (.bool b)) st') : Sp cx (.call { callee := .value x, args := args, argTypes := ts }) ty env st K := OpOK.yield hx hv h

theorem Sp.range {ty t : TypeId} {x : Operand} {i : TI} {kt et : TypeId} {id : Nat} {es : List (Key × V)} (ht : tyi cx.P t = some i) (hi : i.kind = .map kt et) (hx : opnd cx env x = some (.map id)) (ho : st[id]? = some (.map es))
    (hK : K (some (.ptr st.length 0 0)) (st ++ [.iter id es.length []])) : Sp cx (.range t x) ty env st K := OpOK.range ht hi hx ho hK

theorem Sp.next {ty : TypeId} {x : Operand} {it m : Nat} {seen : List Nat} {es : List (Key × V)} (hx : opnd cx env x = some (.ptr it 0 0)) (ho : st[it]? = some (.iter m es.length seen)) (hm : st[m]? = some (.map es))
    (h0 : (∀ i, i < es.length → i ∈ seen) → K (some (.tup [.bool false])) st)
    (h1 : ∀ i k v, i ∉ seen → es[i]? = some (k, v) → K (some (.tup [.bool true, k.toV, v])) (st.set it (.iter m es.length (seen ++ [i])))) : Sp cx (.next x false) ty env st K := OpOK.next hx ho hm h0 h1

theorem Sp.entry {ty : TypeId} {x : Operand} {it m i : Nat} {seen : List Nat} {es : List (Key × V)} {k : Key} {v : V} (hx : opnd cx env x = some (.ptr it 0 0)) (ho : st[it]? = some (.iter m es.length (seen ++ [i]))) (hm : st[m]? = some (.map es)) (hi : es[i]? = some (k, v))
    (hK : K (some (.tup [k.toV, v])) st) : Sp cx (.entry x) ty env st K := OpOK.entry hx ho hm hi hK
end
end Go.VL
end

/- The rules of the walks, under one short name. -/
section
set_option linter.unusedSimpArgs false
namespace Go.VL
open Go

theorem s_s : type_of% (And.intro (And.intro (And.intro (And.intro (And.intro (And.intro @Nat.zero_add (And.intro @Nat.add_zero @wpF_skip)) (And.intro (And.intro @wpF_region @wpF_seq) (And.intro @wpF_cond @wpF_block))) (And.intro (And.intro (And.intro @wpF_exit @wpF_goto) (And.intro @wpF_ret @wpF_loop)) (And.intro (And.intro @wpF_draw @wpF_rangeFunc) (And.intro @OpsF_nil @OpsF_op)))) (And.intro (And.intro (And.intro @OpsF_guard (And.intro @Ks_normal @Ks_exit)) (And.intro (And.intro @Ks_goto @Ks_ret) (And.intro @Kb_normal @Kb_exit))) (And.intro (And.intro (And.intro @Kb_goto @Kb_ret) (And.intro @Kl_exit @Kl_goto)) (And.intro (And.intro @Kl_ret @Kop_eq) (And.intro @Br_true @Br_false))))) (And.intro (And.intro (And.intro (And.intro @OpsG_tt (And.intro @OpsG_ff @OpsG_tf)) (And.intro (And.intro @OpsG_ft @DrawF_nil) (And.intro @DrawF_op @DrawF_guard))) (And.intro (And.intro (And.intro @DrawB_eq @DrawG_tt) (And.intro @DrawG_ff @DrawG_tf)) (And.intro (And.intro @DrawG_ft @Kd_eq) (And.intro @Kc_exit @Kc_goto)))) (And.intro (And.intro (And.intro (And.intro @Kc_ret @forget_nil) (And.intro @forget_cons @guardV_list)) (And.intro (And.intro @st_len @st_get0) (And.intro @st_get @st_set0))) (And.intro (And.intro (And.intro @st_set @decide_true) (And.intro @decide_false @true_and)) (And.intro (And.intro @and_true @Bool.false_eq_true) (And.intro @if_false.{0} @if_true.{0})))))) (And.intro (And.intro (And.intro (And.intro (And.intro @ite_true.{0} (And.intro @ite_false.{0} @List.length_cons.{0})) (And.intro (And.intro @List.length_nil.{0} @List.length_map.{0, 0}) (And.intro @List.append_assoc.{0} @List.cons_append.{0}))) (And.intro (And.intro (And.intro @List.nil_append.{0} @List.append_nil.{0}) (And.intro @List.set_cons_zero.{0} @List.set_cons_succ.{0})) (And.intro (And.intro @List.set_nil.{0} @List.getElem?_cons_zero.{0}) (And.intro @List.getElem?_cons_succ.{0} @List.getElem?_nil.{0})))) (And.intro (And.intro (And.intro @List.drop_zero.{0} (And.intro @List.drop_succ_cons.{0} @List.drop_nil.{0})) (And.intro (And.intro @List.take_zero.{0} @List.take_succ_cons.{0}) (And.intro @List.take_nil.{0} @List.map_cons.{0, 0}))) (And.intro (And.intro (And.intro @List.map_nil.{0, 0} @List.replicate_succ.{0}) (And.intro @List.replicate_zero.{0} @List.flatten_cons.{0})) (And.intro (And.intro @List.flatten_nil.{0} @Option.bind_some.{0, 0}) (And.intro @Option.bind_none.{0, 0} @Option.map_some.{0, 0}))))) (And.intro (And.intro (And.intro (And.intro @Option.map_none.{0, 0} (And.intro @Option.getD_some.{0} @Option.getD_none.{0})) (And.intro (And.intro @Option.isSome_some.{0} @Option.isSome_none.{0}) (And.intro @Int.toNat_natCast @Nat.mul_one))) (And.intro (And.intro (And.intro @Nat.one_mul @Nat.div_one) (And.intro @Nat.zero_mul @Nat.mul_zero)) (And.intro (And.intro @ne_eq.{0} @not_true_eq_false) (And.intro @not_false_eq_true @List.all_cons.{0})))) (And.intro (And.intro (And.intro (And.intro @List.all_nil.{0} @Bool.and_true) (And.intro @Bool.true_and @List.size_toArray.{0})) (And.intro (And.intro @beq_self_eq_true.{0} @Bool.not_true) (And.intro @Bool.not_false @Nat.lt_irrefl))) (And.intro (And.intro (And.intro @Nat.le_refl @or_true) (And.intro @true_or @Nat.sub_zero)) (And.intro (And.intro @forall_const.{0} @true_implies) (And.intro @false_implies @implies_true.{0}))))))) :=
  (And.intro (And.intro (And.intro (And.intro (And.intro (And.intro @Nat.zero_add (And.intro @Nat.add_zero @wpF_skip)) (And.intro (And.intro @wpF_region @wpF_seq) (And.intro @wpF_cond @wpF_block))) (And.intro (And.intro (And.intro @wpF_exit @wpF_goto) (And.intro @wpF_ret @wpF_loop)) (And.intro (And.intro @wpF_draw @wpF_rangeFunc) (And.intro @OpsF_nil @OpsF_op)))) (And.intro (And.intro (And.intro @OpsF_guard (And.intro @Ks_normal @Ks_exit)) (And.intro (And.intro @Ks_goto @Ks_ret) (And.intro @Kb_normal @Kb_exit))) (And.intro (And.intro (And.intro @Kb_goto @Kb_ret) (And.intro @Kl_exit @Kl_goto)) (And.intro (And.intro @Kl_ret @Kop_eq) (And.intro @Br_true @Br_false))))) (And.intro (And.intro (And.intro (And.intro @OpsG_tt (And.intro @OpsG_ff @OpsG_tf)) (And.intro (And.intro @OpsG_ft @DrawF_nil) (And.intro @DrawF_op @DrawF_guard))) (And.intro (And.intro (And.intro @DrawB_eq @DrawG_tt) (And.intro @DrawG_ff @DrawG_tf)) (And.intro (And.intro @DrawG_ft @Kd_eq) (And.intro @Kc_exit @Kc_goto)))) (And.intro (And.intro (And.intro (And.intro @Kc_ret @forget_nil) (And.intro @forget_cons @guardV_list)) (And.intro (And.intro @st_len @st_get0) (And.intro @st_get @st_set0))) (And.intro (And.intro (And.intro @st_set @decide_true) (And.intro @decide_false @true_and)) (And.intro (And.intro @and_true @Bool.false_eq_true) (And.intro @if_false.{0} @if_true.{0})))))) (And.intro (And.intro (And.intro (And.intro (And.intro @ite_true.{0} (And.intro @ite_false.{0} @List.length_cons.{0})) (And.intro (And.intro @List.length_nil.{0} @List.length_map.{0, 0}) (And.intro @List.append_assoc.{0} @List.cons_append.{0}))) (And.intro (And.intro (And.intro @List.nil_append.{0} @List.append_nil.{0}) (And.intro @List.set_cons_zero.{0} @List.set_cons_succ.{0})) (And.intro (And.intro @List.set_nil.{0} @List.getElem?_cons_zero.{0}) (And.intro @List.getElem?_cons_succ.{0} @List.getElem?_nil.{0})))) (And.intro (And.intro (And.intro @List.drop_zero.{0} (And.intro @List.drop_succ_cons.{0} @List.drop_nil.{0})) (And.intro (And.intro @List.take_zero.{0} @List.take_succ_cons.{0}) (And.intro @List.take_nil.{0} @List.map_cons.{0, 0}))) (And.intro (And.intro (And.intro @List.map_nil.{0, 0} @List.replicate_succ.{0}) (And.intro @List.replicate_zero.{0} @List.flatten_cons.{0})) (And.intro (And.intro @List.flatten_nil.{0} @Option.bind_some.{0, 0}) (And.intro @Option.bind_none.{0, 0} @Option.map_some.{0, 0}))))) (And.intro (And.intro (And.intro (And.intro @Option.map_none.{0, 0} (And.intro @Option.getD_some.{0} @Option.getD_none.{0})) (And.intro (And.intro @Option.isSome_some.{0} @Option.isSome_none.{0}) (And.intro @Int.toNat_natCast @Nat.mul_one))) (And.intro (And.intro (And.intro @Nat.one_mul @Nat.div_one) (And.intro @Nat.zero_mul @Nat.mul_zero)) (And.intro (And.intro @ne_eq.{0} @not_true_eq_false) (And.intro @not_false_eq_true @List.all_cons.{0})))) (And.intro (And.intro (And.intro (And.intro @List.all_nil.{0} @Bool.and_true) (And.intro @Bool.true_and @List.size_toArray.{0})) (And.intro (And.intro @beq_self_eq_true.{0} @Bool.not_true) (And.intro @Bool.not_false @Nat.lt_irrefl))) (And.intro (And.intro (And.intro @Nat.le_refl @or_true) (And.intro @true_or @Nat.sub_zero)) (And.intro (And.intro @forall_const.{0} @true_implies) (And.intro @false_implies @implies_true.{0})))))))
end Go.VL
end

