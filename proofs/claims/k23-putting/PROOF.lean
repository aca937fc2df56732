import PyProof.Rows.All
import Wide.All
import OpenK.AllK
import Wide.FinOn
import HandS.ForMost
import HandS.Exc
import HandS.TryOnly
import HandS.ExcOwn
import HandS.WordsExc
import HandS.TupAny
import HandS.TupMul
import HandS.IsInst
import HandS.SortKw
import HandS.SortInts
import HandS.Strs
import HandS.Walk
import HandS.Zip
import KE.GoesNew
import KE.DataMinMax
import HandS.Codes
import PySem.Challenge.RW_lydite_k23_whole_steps_under_putting
set_option Elab.async false
set_option linter.all false
set_option maxRecDepth 100000
set_option maxHeartbeats 4000000
/-! ### three rules that the layer does not hold: max(xs, default=d), xs.extend(a tuple), zip(a tuple, a list) -/
namespace K23R
open PySem
/-! #### the greatest of some ints -/
theorem top_mem : ∀ (ns : List Int) (n : Int), ns.foldl max n ∈ n :: ns
  | [], n => List.mem_singleton.mpr rfl
  | k :: ns, n => by
    rw [List.foldl_cons]
    rcases List.mem_cons.mp (top_mem ns (max n k)) with e | e
    · rw [e]
      rcases Int.le_total n k with c | c
      · rw [Int.max_eq_right c]
        exact List.mem_cons_of_mem _ List.mem_cons_self
      · rw [Int.max_eq_left c]
        exact List.mem_cons_self
    · exact List.mem_cons_of_mem _ (List.mem_cons_of_mem _ e)
theorem top_le : ∀ (ns : List Int) (n y : Int), y ∈ n :: ns → y ≤ ns.foldl max n
  | [], n, y, hy => by
    rw [List.mem_singleton.mp hy]
    exact Int.le_refl _
  | k :: ns, n, y, hy => by
    rw [List.foldl_cons]
    rcases List.mem_cons.mp hy with e | hy
    · exact Int.le_trans (by rw [e]; exact Int.le_max_left n k) (top_le ns (max n k) _ List.mem_cons_self)
    · rcases List.mem_cons.mp hy with e | hy
      · exact Int.le_trans (by rw [e]; exact Int.le_max_right n k) (top_le ns (max n k) _ List.mem_cons_self)
      · exact top_le ns (max n k) y (List.mem_cons_of_mem _ hy)
theorem alike_ints (ns : List Int) : PySem.W.AlikeAll (ns.map PyData.int) := by
  refine ⟨fun x hx y hy => ?_, fun x hx => ?_⟩
  · obtain ⟨i, _, rfl⟩ := List.mem_map.mp hx
    obtain ⟨j, _, rfl⟩ := List.mem_map.mp hy
    simp [PySem.W.alike]
  · obtain ⟨i, _, rfl⟩ := List.mem_map.mp hx
    exact fun z => nomatch z
theorem flat_depth : ∀ ns : List Int, PyData.depthAll (ns.map PyData.int) = 0
  | [] => rfl
  | n :: ns => by
    rw [List.map_cons, PyData.depthAll, flat_depth ns]
    rfl
/-! #### a list grows by a tuple's items -/
theorem grow_tup (p : Addr) (xs : Array Value) (n : Nat) (q : Addr) (ys : Array Value) (m : Nat) (dd : Option Addr) (sl : Array (Option Value)) (no : ¬(!xs.isEmpty && Builtin.List.listTooLong (xs.size + ys.size)) = true) (z1 : xs.size ≤ sizeLine) (z2 : xs.size + ys.size ≤ sizeLine + 1) :
    Meets (Builtin.«list.extend» ⟨[.ref p, .ref q], []⟩) (fun _ R s => s.heap.get? p = some { cls := .type "list", dict := none, data := .seq xs n, slots := #[] } ∧
      s.heap.get? q = some { cls := .type "tuple", dict := dd, data := .seq ys m, slots := sl } ∧ R (.ok (.ret Value.none)) { s with heap := s.heap.update p (Obj.mapSeq fun x => x ++ ys), toks := s.toks }) := .of_wp fun prog w A R sh hw => by
  obtain ⟨h0, gs, dr, tk, os⟩ := sh
  obtain ⟨hp, hq, hR⟩ := hw
  have g1 := AutoSeq1.idx_int
  have g2 := AutoSeq1.sub_tuple_tuple
  have g3 := AutoSeq1.sub_list_list
  have g4 := AutoSeq1.sub_tuple_list
  have g5 := AutoSeq1.sub_list_tuple
  have z3 : (xs ++ ys).size ≤ sizeLine + 1 := Nat.le_trans (Nat.le_of_eq Array.size_append) z2
  wp_walk using (wpAny_updateSeq hp rfl (hz := z1) (_hz' := z3)), AutoSeq1.wpAny_loadPart' hp, AutoSeq1.wpAny_loadPart' hq
  exact ⟨_, rfl, hR⟩
end K23R
namespace L2
open PySem PyProof.Rows PySem.Spec
section
variable {X : Cx}
/-- max(xs, default=d), xs a list of ints that is not empty: the greatest -/
def rMaxDf (K : PySem.W.Frag) : List V → List V → Hp → VK → Prop := fun vs zs H Q => ∃ (a : Addr) (ns : List Int) (d : V), vs = [V.ref a] ∧ zs = [d] ∧ SqL K H a (ns.map V.int) ∧ 0 < ns.length ∧ ∀ m, m ∈ ns → (∀ y, y ∈ ns → y ≤ m) → Q (.int m) H
theorem crk_max (hc : X.calm = true) (hu : X.A.units + 64 < cLine) : CallRK X (.builtin "max") [Str.ofString "default"] (rMaxDf X.K) := by
  intro pn sh σ H vs zs us ws Q I rv rz hw
  obtain ⟨a, ns, d, rfl, rfl, hs, hne, q⟩ := hw
  obtain ⟨its, ri, hl, _⟩ := I.list hs
  rw [Vals.ref1 rv]
  obtain ⟨u, rfl, ru⟩ := rz.one
  show wpAny _ _ (call (.builtin "max") [.ref a] [(Str.ofString "default", u)]) _ _ _
  refine PySem.W.max_list_default (xs := ns.map PyData.int) (I.ok.hd hc) hl.isList (PySem.W.readsAll_of_ints ri.ints) (K23R.alike_ints ns) (by rw [K23R.flat_depth]; omega) (fun e => ?_) fun y ys i v h' tk bs e _ rd hk => ?_
  · rw [List.map_eq_nil_iff] at e
    rw [e] at hne
    exact absurd hne (Nat.lt_irrefl 0)
  · cases ns with
    | nil => cases e
    | cons n ns =>
      rw [List.map_cons] at e
      obtain ⟨e1, e2⟩ := List.cons.inj e
      rw [← e1, ← e2, PySem.W.maxD_ints] at rd
      cases rd with
      | int _ t => exact ⟨.int _, H, I.kept hk, ⟨t, rfl⟩, q _ (K23R.top_mem ns n) (K23R.top_le ns n)⟩
/-- xs.extend(t), t a tuple -/
def rExtT (K : PySem.W.Frag) : V → List V → Hp → VK → Prop := fun x vs H Q => ∃ l b xs zs, x = .ref l ∧ vs = [.ref b] ∧ H l = some (.lst xs) ∧ SqT K H b zs ∧ xs.length + zs.length ≤ sizeLine ∧ Q .non (upd H l (.lst (xs ++ zs)))
theorem mt_extT : MtM X "list.extend" (rExtT X.K) := by
  intro pn sh σ H x vs v us Q I rx rv hw
  obtain ⟨p, t, xs, zs, rfl, rfl, hp, ht, room, q⟩ := hw
  cases rx
  obtain ⟨u, rfl, ru⟩ := rv.one
  cases ru
  obtain ⟨z1, ps, n, rp, lp, op⟩ := I.lstM hp
  obtain ⟨ts, rt, ⟨⟨cls, dd, data, sl⟩, ot, ct, m, dt⟩, z2⟩ := I.tuple ht
  dsimp only at ct dt
  subst ct dt
  have lt := rt.length
  have e1 : ps.toArray.size = xs.length := by rw [lp]; simp
  have e2 : ts.toArray.size = zs.length := by rw [lt]; simp
  have fits : ps.toArray.size + ts.toArray.size ≤ sizeLine := by omega
  have no : ¬ (!ps.toArray.isEmpty && Builtin.List.listTooLong (ps.toArray.size + ts.toArray.size)) = true := fun c => Bool.false_ne_true ((notLongL fits).symm.trans (Bool.and_eq_true_iff.mp c).2)
  have J := I.lset (its' := ps ++ ts) (f := fun x => x ++ ts.toArray) (t' := sh.toks) hp op (by simp) (rp.append rt) (by rw [List.length_append]; exact room)
  exact call_meets F.slot_list_extend ⟨_, op, rfl⟩ F.entry_list_extend (F.args_list_extend_2 _ _) (K23R.grow_tup p ps.toArray n t ts.toArray m dd sl no (by omega) (by omega)) ⟨op, ot, .non, _, J, rfl, q⟩
/-! ### zip(a tuple, a list), both of one length: the library's GoesN over any two iterators, as a walk of the layer -/
def ItzM (K : PySem.W.Frag) (a b : Addr) : It where
  go := fun i H => ∃ xs ys : List V, SqT K H a xs ∧ SqL K H b ys ∧ xs.length = ys.length ∧ i < xs.length
  yld := fun i H v H' => ∃ T x y, v = .ref T ∧ H T = none ∧ H' = upd H T (.tup [x, y]) ∧ (∀ xs, SqT K H a xs → xs[i]? = some x) ∧ ∀ ys, SqL K H b ys → ys[i]? = some y
  stop := fun i H => ∃ xs ys : List V, SqT K H a xs ∧ SqL K H b ys ∧ xs.length = ys.length ∧ xs.length = i
/-- the records of such a zip, before its turn i -/
def ZipM (z TI TO i1 i2 a b : Addr) (i : Nat) (h : Heap) : Prop := IsZip h z TI TO .none ∧ IsTupOf2 h TI (.ref i1) (.ref i2) ∧ (∃ x y, IsTupOf2 h TO x y) ∧ h.IsTupleIter i1 a i ∧ h.IsListIter i2 b i
section
variable {z TI TO i1 i2 a b : Addr} {i : Nat} {h : Heap}
/-- the five records -/
def fiveOf (z TI TO i1 i2 : Addr) : List Addr := [z, TI, TO, i1, i2]
theorem five_all {z TI TO i1 i2 : Addr} {p : Addr → Prop} (h1 : p z) (h2 : p TI) (h3 : p TO) (h4 : p i1) (h5 : p i2) : ∀ c ∈ fiveOf z TI TO i1 i2, p c := by
  intro c hc
  simp only [fiveOf, List.mem_cons, List.not_mem_nil, or_false] at hc
  rcases hc with k | k | k | k | k <;> (rw [k]; assumption)
theorem five_in : z ∈ fiveOf z TI TO i1 i2 ∧ TI ∈ fiveOf z TI TO i1 i2 ∧ TO ∈ fiveOf z TI TO i1 i2 ∧ i1 ∈ fiveOf z TI TO i1 i2 ∧ i2 ∈ fiveOf z TI TO i1 i2 := by simp [fiveOf]
theorem five_of {c : Addr} (hc : c ∈ [z, TO, i1, i2]) : c ∈ fiveOf z TI TO i1 i2 := by
  simp only [fiveOf, List.mem_cons, List.not_mem_nil, or_false] at hc ⊢
  rcases hc with k | k | k | k <;> simp [k]
theorem ZipM.there (S : ZipM z TI TO i1 i2 a b i h) : ∀ c ∈ fiveOf z TI TO i1 i2, ∃ o, h.get? c = some o ∧ ∀ v, o.data ≠ .cell v := by
  obtain ⟨k1, k2, ⟨x, y, k3⟩, ⟨o4, k4, _, d4⟩, ⟨o5, k5, _, d5⟩⟩ := S
  exact five_all ⟨_, k1, fun _ n => nomatch n⟩ ⟨_, k2, fun _ n => nomatch n⟩ ⟨_, k3, fun _ n => nomatch n⟩ ⟨o4, k4, fun _ n => by rw [d4] at n; cases n⟩ ⟨o5, k5, fun _ n => by rw [d5] at n; cases n⟩
theorem ZipM.stay {h' : Heap} (S : ZipM z TI TO i1 i2 a b i h) (k : ∀ c ∈ fiveOf z TI TO i1 i2, ∀ o, h.get? c = some o → h'.get? c = some o) : ZipM z TI TO i1 i2 a b i h' := by
  obtain ⟨m1, m2, m3, m4, m5⟩ := five_in (z := z) (TI := TI) (TO := TO) (i1 := i1) (i2 := i2)
  obtain ⟨k1, k2, ⟨x, y, k3⟩, k4, k5⟩ := S
  exact ⟨k z m1 _ k1, k TI m2 _ k2, ⟨x, y, k TO m3 _ k3⟩, k4.at (k i1 m4), k5.at (k i2 m5)⟩
theorem tup_iter_ne {items : Array Value} (h1 : h.IsTupleIter i1 a i) (h2 : h.IsTuple a items) : a ≠ i1 := fun e => by
  obtain ⟨o, g1, c1, _⟩ := h1
  obtain ⟨o', g2, c2, _⟩ := h2
  rw [e, g1] at g2
  rw [← Option.some.inj g2, c1] at c2
  exact absurd (Value.type.inj c2) (by decide)
theorem lst_iter_ne {items : Array Value} (h1 : h.IsListIter i2 b i) (h2 : h.IsList b items) : b ≠ i2 := fun e => by
  obtain ⟨o, g1, c1, _⟩ := h1
  obtain ⟨o', g2, c2, _⟩ := h2
  rw [e, g1] at g2
  rw [← Option.some.inj g2, c1] at c2
  exact absurd (Value.type.inj c2) (by decide)
end
theorem turn_zipM {P : Program} {w : World} {K : PySem.W.Frag} {elts : List Expr} {kk : Nat} {tpos : Pos} {a b z TI TO i1 i2 : Addr} (S : ZipSep2 z TI TO i1 i2 [i1, a] [i2, b]) :
    Turn P w K (.Tuple elts kk tpos) (ItzM K a b) (fiveOf z TI TO i1 i2) z (ZipM z TI TO i1 i2 a b) where
  mem := five_in.1
  obj := fun i h st => st.there
  keep := fun i h h' st => st.stay
  item := by
    intro X eP ew eK hc i pn sh σ H E I fp st gg
    subst eP ew eK
    have there := st.there
    obtain ⟨k1, k2, k3, k4, k5⟩ := st
    obtain ⟨xs, ys, qx, qy, same, hi⟩ := gg
    obtain ⟨us, ru, tu, _⟩ := I.tuple qx
    obtain ⟨ws, rw', lw, _⟩ := I.list qy
    have n1 := ru.length
    have n2 := rw'.length
    have D1 := Draws.tuple (prog := X.prog) (w := X.w) (A := X.A.in1) (I.ok.hd hc) i1 a (tup_iter_ne k4 tu) us.toArray
    have D2 := Draws.list (prog := X.prog) (w := X.w) (A := X.A.in1) (I.ok.hd hc) i2 b (lst_iter_ne k5 lw.isList) ws.toArray
    refine (GoesN.zip2 (elts := elts) (x1 := kk) (pos := tpos) S D1 D2).goes i sh _ E (by simp; omega) ⟨k1, k2, k3, ⟨k4, tu⟩, ⟨k5, lw.isList⟩⟩ fun v h' tk gives nst old _ => ?_
    obtain ⟨T, u, w', rfl, new, hu, hw, hT⟩ := gives
    obtain ⟨m1, m2, m3, ⟨m4, _⟩, ⟨m5, _⟩⟩ := nst
    have ux : xs[i]? = some xs[i] := List.getElem?_eq_getElem hi
    have uy : ys[i]? = some (ys[i]'(by omega)) := List.getElem?_eq_getElem (by omega)
    obtain ⟨u', hu', r1⟩ := ru.get ux
    obtain ⟨w'', hw', r2⟩ := rw'.get uy
    obtain rfl : u = u' := Option.some.inj (hu.symm.trans (by simpa using hu'))
    obtain rfl : w' = w'' := Option.some.inj (hw.symm.trans (by simpa using hw'))
    have ob : ObjOk X.prog X.w (upd H T (.tup [xs[i], ys[i]'(by omega)])) h' T (.tup [xs[i], ys[i]'(by omega)]) := ⟨by show 2 ≤ sizeLine; decide, [u, w'], .cons r1 (.cons r2 .nil), hT⟩
    have J : Inv X pn σ (upd H T (.tup [xs[i], ys[i]'(by omega)])) { sh with heap := h', toks := tk } := I.turnedNew (t' := tk) (fun c o nc => old c o fun m => nc (five_of m)) fp new ob
    refine ⟨.ref T, _, J, rfl, ⟨T, _, _, rfl, I.hok.fresh new, rfl, fun l hl => ?_, fun l hl => ?_⟩, ⟨m1, m2, m3, m4, m5⟩, fun c mc => ?_⟩
    · rw [I.tuple_inj hl qx]
      exact ux
    · rw [I.list_inj hl qy]
      exact uy
    · obtain ⟨o, ho, _⟩ := there c mc
      rw [upd_ne (Nat.ne_of_lt (Nat.lt_of_lt_of_le (Heap.lt_size ho) new))]
      exact (fp c mc).1
  done := by
    intro X eP ew eK hc i pn sh σ H E I fp st ss
    subst eP ew eK
    obtain ⟨k1, k2, k3, k4, k5⟩ := st
    obtain ⟨xs, ys, qx, qy, same, hi⟩ := ss
    obtain ⟨us, ru, tu, _⟩ := I.tuple qx
    obtain ⟨ws, rw', lw, _⟩ := I.list qy
    have n1 := ru.length
    have n2 := rw'.length
    have D1 := Draws.tuple (prog := X.prog) (w := X.w) (A := X.A.in1) (I.ok.hd hc) i1 a (tup_iter_ne k4 tu) us.toArray
    have D2 := Draws.list (prog := X.prog) (w := X.w) (A := X.A.in1) (I.ok.hd hc) i2 b (lst_iter_ne k5 lw.isList) ws.toArray
    have last : i = min us.toArray.size ws.toArray.size := by simp; omega
    refine (GoesN.zip2 (elts := elts) (x1 := kk) (pos := tpos) S D1 D2).stops sh _ E (by rw [← last]; exact ⟨k1, k2, k3, ⟨k4, tu⟩, ⟨k5, lw.isList⟩⟩) fun h' tk old _ => ?_
    exact I.turnedL (t' := tk) (fun c o nc => old c o fun m => nc (five_of m)) fp
  self := fun A i sh Q E st q => wpAny_pyIter_zip st.1 q
def iZipM (K : PySem.W.Frag) (ta : TA) : TI := fun σ H R => ta σ H fun vs H1 => ∃ a b xs ys, vs = [.ref a, .ref b] ∧ SqT K H1 a xs ∧ SqL K H1 b ys ∧ R (ItzM K a b) H1
theorem pi_zipM {d e : Expr} {ta : TA} {p pos tpos : Pos} {elts : List Expr} {kk : Nat} (hg : Gl X "zip") (hm : X.mg "zip" = none) (ha : PA X [d, e] ta)
    (st : starEach [d, e] X.env = (false, eval d X.env) :: starEach [e] X.env := by rfl) (sp : (backTo pos (starEach [e] X.env)).any (·.1) = false := by rfl) :
    PI X (.Tuple elts kk tpos) (.Call (.Name "zip" p) [d, e] [] pos) (iZipM X.K ta) := by
  constructor
  intro pn sh σ H R I hw
  refine Call_ (ld_blt I hg hm PyProof.Rows.boot_zip (PyProof.Rows.callWith_type1 (thn (ha.run pos pn sh σ H _ I hw) fun us s1 got => ?_) st sp))
  obtain ⟨vs, H1, I1, rv, a, b, xs, ys, rfl, qx, qy, q⟩ := got
  obtain ⟨u, u2, rfl, ra, rb⟩ := rv.two
  cases ra
  cases rb
  obtain ⟨its, _, tu, _⟩ := I1.tuple qx
  obtain ⟨its2, _, lw, _⟩ := I1.list qy
  refine zip_begins2 (begins_tuple a its.toArray) (begins_list b its2.toArray) tu lw.isList fun h' k1 k2 k3 g1 g2 _ hk => wpAny_pyIter_zip k1 ?_
  have la : ∀ c ∈ [a], c < s1.heap.objs.size := fun c hc => by
    obtain ⟨o, ho, _⟩ := id tu
    rw [List.mem_singleton.mp hc]
    exact Heap.lt_size ho
  have lb : ∀ c ∈ [b], c < s1.heap.objs.size := fun c hc => by
    rw [List.mem_singleton.mp hc]
    exact lw.lt
  have fr : ∀ n : Nat, FpOk X pn H1 (s1.heap.objs.size + n) := fun n => I1.fpOk (Nat.le_add_right _ n) (I1.hok.fresh (Nat.le_add_right _ n))
  exact ⟨_, _, _, _, H1, rfl, I1.kept (t' := s1.toks) hk, turn_zipM (zip_sep2 la lb), ⟨k1, k2, ⟨_, _, k3⟩, ⟨_, g1, rfl, rfl⟩, ⟨_, g2, rfl, rfl⟩⟩, five_all (fr 4) (fr 2) (fr 3) (fr 0) (fr 1), q⟩
theorem walk_zipM {K : PySem.W.Frag} {a b : Addr} {xs ys : List V} (hl : xs.length = ys.length) : Walk (ItzM K a b) xs.length (fun H => SqT K H a xs ∧ SqL K H b ys) (YPair (fun i => xs[i]?) (fun i => ys[i]?)) where
  goes := fun i H hi q => ⟨xs, ys, q.1, q.2, hl, hi⟩
  stops := fun H q => ⟨xs, ys, q.1, q.2, hl, rfl⟩
  yields := fun i H v H' _ q y => by
    obtain ⟨T, x, u, ev, nT, eH, fx, fy⟩ := y
    exact ⟨T, x, u, ev, nT, eH, fx xs q.1, fy ys q.2⟩
end
end L2
namespace K23
/-! ### terms of the calculus, and what the program's lists hold of them -/
inductive Tm where
  | var (n : Nat)
  | lam (b : Tm)
  | app (f a : Tm)
/-- a node of the prefix order -/
inductive Nd where
  | v (n : Nat)
  | l
  | a
  deriving DecidableEq
inductive Dir where
  | b
  | f
  | a
  deriving DecidableEq
def Tm.size : Tm → Nat
  | .var _ => 1
  | .lam b => b.size + 1
  | .app f a => f.size + a.size + 1
def enc : Tm → List Nd
  | .var n => [.v n]
  | .lam b => .l :: enc b
  | .app f a => .a :: (enc f ++ enc a)
def dep : Tm → Nat → List Nat
  | .var _, d => [d]
  | .lam b, d => d :: dep b (d + 1)
  | .app f a, d => d :: (dep f d ++ dep a d)
theorem enc_len : ∀ t : Tm, (enc t).length = t.size
  | .var _ => rfl
  | .lam b => by simp [enc, Tm.size, enc_len b]
  | .app f a => by simp [enc, Tm.size, enc_len f, enc_len a]
theorem dep_len : ∀ (t : Tm) (d : Nat), (dep t d).length = t.size
  | .var _, _ => rfl
  | .lam b, d => by simp [dep, Tm.size, dep_len b]
  | .app f a, d => by simp [dep, Tm.size, dep_len f, dep_len a]
theorem size_pos (t : Tm) : 0 < t.size := by cases t <;> simp [Tm.size]
/-- nodes with their depths -/
def zp (t : Tm) (d : Nat) : List (Nd × Nat) := (enc t).zip (dep t d)
theorem zp_var (n d : Nat) : zp (.var n) d = [(.v n, d)] := rfl
theorem zp_lam (b : Tm) (d : Nat) : zp (.lam b) d = (.l, d) :: zp b (d + 1) := rfl
theorem zp_app (f a : Tm) (d : Nat) : zp (.app f a) d = (.a, d) :: (zp f d ++ zp a d) := by
  show (Nd.a, d) :: (enc f ++ enc a).zip (dep f d ++ dep a d) = _
  rw [List.zip_append (by rw [enc_len, dep_len])]
  rfl
theorem zp_len (t : Tm) (d : Nat) : (zp t d).length = t.size := by
  unfold zp
  rw [List.length_zip, enc_len, dep_len, Nat.min_self]
/-! ### lifting, putting -/
def liftT (c : Nat) : Nat → Tm → Tm
  | d, .var n => if d ≤ n then .var (n + c) else .var n
  | d, .lam b => .lam (liftT c (d + 1) b)
  | d, .app f a => .app (liftT c d f) (liftT c d a)
def putT (v : Tm) : Nat → Tm → Tm
  | d, .var n => if n < d then .var n else if d < n then .var (n - 1) else liftT d 0 v
  | d, .lam b => .lam (putT v (d + 1) b)
  | d, .app f a => .app (putT v d f) (putT v d a)
/-- what the loop of lifted appends for one node -/
def liftN (c : Nat) : Nd × Nat → Nd
  | (.v n, d) => if d ≤ n then .v (n + c) else .v n
  | (x, _) => x
/-- what the loop of placed appends for one node -/
def putN (v : Tm) : Nd × Nat → List Nd
  | (.v n, d) => if n < d then [.v n] else if d < n then [.v (n - 1)] else enc (liftT d 0 v)
  | (x, _) => [x]
theorem lift_enc (c : Nat) : ∀ (t : Tm) (d : Nat), (zp t d).map (liftN c) = enc (liftT c d t)
  | .var n, d => by
    rw [zp_var]
    show [if d ≤ n then Nd.v (n + c) else Nd.v n] = enc (if d ≤ n then Tm.var (n + c) else Tm.var n)
    split <;> rfl
  | .lam b, d => by
    rw [zp_lam, List.map_cons, lift_enc c b (d + 1)]
    rfl
  | .app f a, d => by
    rw [zp_app, List.map_cons, List.map_append, lift_enc c f d, lift_enc c a d]
    rfl
theorem put_enc (v : Tm) : ∀ (t : Tm) (d : Nat), (zp t d).flatMap (putN v) = enc (putT v d t)
  | .var n, d => by
    rw [zp_var]
    show (if n < d then [Nd.v n] else if d < n then [Nd.v (n - 1)] else enc (liftT d 0 v)) ++ [] = enc (if n < d then Tm.var n else if d < n then Tm.var (n - 1) else liftT d 0 v)
    rw [List.append_nil]
    split
    · rfl
    · split <;> rfl
  | .lam b, d => by
    rw [zp_lam, List.flatMap_cons, put_enc v b (d + 1)]
    rfl
  | .app f a, d => by
    rw [zp_app, List.flatMap_cons, List.flatMap_append, put_enc v f d, put_enc v a d]
    rfl
/-! ### the law of putting, on trees -/
theorem lift_lift (j m : Nat) (v : Tm) : ∀ (i d : Nat), d ≤ i → i ≤ d + m → liftT j i (liftT m d v) = liftT (m + j) d v := by
  induction v with
  | var n =>
    intro i d h1 h2
    by_cases h : d ≤ n
    · have h3 : i ≤ n + m := by omega
      simp only [liftT, if_pos h, if_pos h3]
      congr 1
      omega
    · have h3 : ¬ i ≤ n := by omega
      simp only [liftT, if_neg h, if_neg h3]
  | lam b ih =>
    intro i d h1 h2
    simp only [liftT]
    rw [ih (i + 1) (d + 1) (by omega) (by omega)]
  | app f a ihf iha =>
    intro i d h1 h2
    simp only [liftT]
    rw [ihf i d h1 h2, iha i d h1 h2]
theorem put_lift (u v : Tm) (m : Nat) : ∀ (j d : Nat), d ≤ j → j ≤ d + m → putT u j (liftT (m + 1) d v) = liftT m d v := by
  induction v with
  | var n =>
    intro j d h1 h2
    by_cases h : d ≤ n
    · have h3 : ¬ n + (m + 1) < j := by omega
      have h4 : j < n + (m + 1) := by omega
      simp only [liftT, if_pos h, putT, if_neg h3, if_pos h4]
      congr 1
    · have h3 : n < j := by omega
      simp only [liftT, if_neg h, putT, if_pos h3]
  | lam b ih =>
    intro j d h1 h2
    simp only [liftT, putT]
    rw [ih (j + 1) (d + 1) (by omega) (by omega)]
  | app f a ihf iha =>
    intro j d h1 h2
    simp only [liftT, putT]
    rw [ihf j d h1 h2, iha j d h1 h2]
theorem put_over_lift (v : Tm) (j k : Nat) (a : Tm) : ∀ i : Nat, putT v (k + i + j) (liftT j i a) = liftT j i (putT v (k + i) a) := by
  induction a with
  | var n =>
    intro i
    by_cases h : i ≤ n
    · by_cases h1 : n < k + i
      · have h2 : n + j < k + i + j := by omega
        simp only [liftT, if_pos h, putT, if_pos h1, if_pos h2]
      · have h2 : ¬ n + j < k + i + j := by omega
        by_cases h3 : k + i < n
        · have h4 : k + i + j < n + j := by omega
          have h5 : i ≤ n - 1 := by omega
          simp only [liftT, if_pos h, putT, if_neg h1, if_neg h2, if_pos h3, if_pos h4, if_pos h5]
          congr 1
          omega
        · have h4 : ¬ k + i + j < n + j := by omega
          simp only [liftT, if_pos h, putT, if_neg h1, if_neg h2, if_neg h3, if_neg h4]
          rw [lift_lift j (k + i) v i 0 (Nat.zero_le _) (by omega)]
    · have h1 : n < k + i := by omega
      have h2 : n < k + i + j := by omega
      simp only [liftT, if_neg h, putT, if_pos h1, if_pos h2]
  | lam b ih =>
    intro i
    simp only [liftT, putT]
    have e := ih (i + 1)
    rw [show k + (i + 1) + j = k + i + j + 1 by omega, show k + (i + 1) = k + i + 1 by omega] at e
    rw [e]
  | app f a ihf iha =>
    intro i
    simp only [liftT, putT]
    rw [ihf i, iha i]
theorem put_put (v a : Tm) (k : Nat) (b : Tm) : ∀ j : Nat, putT v (k + j) (putT a j b) = putT (putT v k a) j (putT v (k + j + 1) b) := by
  induction b with
  | var n =>
    intro j
    by_cases h1 : n < j
    · have h2 : n < k + j := by omega
      have h3 : n < k + j + 1 := by omega
      simp only [putT, if_pos h1, if_pos h2, if_pos h3]
    · by_cases h2 : j < n
      · by_cases h3 : n < k + j + 1
        · have h4 : n - 1 < k + j := by omega
          simp only [putT, if_neg h1, if_pos h2, if_pos h3, if_pos h4]
        · have h4 : ¬ n - 1 < k + j := by omega
          by_cases h5 : k + j + 1 < n
          · have h6 : k + j < n - 1 := by omega
            have h7 : ¬ n - 1 < j := by omega
            have h8 : j < n - 1 := by omega
            simp only [putT, if_neg h1, if_pos h2, if_neg h3, if_pos h5, if_neg h4, if_pos h6, if_neg h7, if_pos h8]
          · have h6 : ¬ k + j < n - 1 := by omega
            simp only [putT, if_neg h1, if_pos h2, if_neg h3, if_neg h5, if_neg h4, if_neg h6]
            rw [put_lift (putT v k a) v (k + j) j 0 (Nat.zero_le _) (by omega)]
      · have h3 : n < k + j + 1 := by omega
        simp only [putT, if_neg h1, if_neg h2, if_pos h3]
        have e := put_over_lift v j k a 0
        rw [show k + 0 + j = k + j from rfl, show k + 0 = k from rfl] at e
        exact e
  | lam b ih =>
    intro j
    simp only [putT]
    have e := ih (j + 1)
    rw [show k + (j + 1) = k + j + 1 by omega] at e
    rw [e]
  | app f a ihf iha =>
    intro j
    simp only [putT]
    rw [ihf j, iha j]
/-! ### steps -/
def stepT : Tm → List Dir → Option Tm
  | .app (.lam b) a, [] => some (putT a 0 b)
  | .lam b, .b :: p => (stepT b p).map .lam
  | .app f a, .f :: p => (stepT f p).map (.app · a)
  | .app f a, .a :: p => (stepT a p).map (.app f ·)
  | _, _ => none
theorem step_put (v : Tm) : ∀ (p : List Dir) (t r : Tm) (k : Nat), stepT t p = some r → stepT (putT v k t) p = some (putT v k r) := by
  intro p
  induction p with
  | nil =>
    intro t r k h
    cases t with
    | var n => simp [stepT] at h
    | lam b => simp [stepT] at h
    | app f a =>
      cases f with
      | var n => simp [stepT] at h
      | app f' a' => simp [stepT] at h
      | lam b =>
        simp only [stepT, Option.some.injEq] at h
        subst h
        simp only [putT, stepT, Option.some.injEq]
        have e := put_put v a k b 0
        exact e.symm
  | cons c p ih =>
    intro t r k h
    cases t with
    | var n => simp [stepT] at h
    | lam b =>
      cases c with
      | b =>
        simp only [stepT, Option.map_eq_some_iff] at h
        obtain ⟨r', h', rfl⟩ := h
        simp only [putT, stepT, ih b r' (k + 1) h', Option.map_some]
      | f => simp [stepT] at h
      | a => simp [stepT] at h
    | app f a =>
      cases c with
      | b => simp [stepT] at h
      | f =>
        simp only [stepT, Option.map_eq_some_iff] at h
        obtain ⟨r', h', rfl⟩ := h
        simp only [putT, stepT, ih f r' k h', Option.map_some]
      | a =>
        simp only [stepT, Option.map_eq_some_iff] at h
        obtain ⟨r', h', rfl⟩ := h
        simp only [putT, stepT, ih a r' k h', Option.map_some]
/-! ### free variables -/
/-- the number that a node gives as a free variable -/
def freeN : Nd × Nat → Option Int
  | (.v n, d) => if d ≤ n then some ((n : Int) - d) else none
  | _ => none
def fvs (t : Tm) (d : Nat) : List Int := (zp t d).filterMap freeN
theorem fvs_lam (b : Tm) (d : Nat) : fvs (.lam b) d = fvs b (d + 1) := by
  unfold fvs
  rw [zp_lam]
  rfl
theorem fvs_app (f a : Tm) (d : Nat) : fvs (.app f a) d = fvs f d ++ fvs a d := by
  unfold fvs
  rw [zp_app, List.filterMap_cons]
  show (zp f d ++ zp a d).filterMap freeN = _
  rw [List.filterMap_append]
theorem fvs_var (n d : Nat) (i : Int) : i ∈ fvs (.var n) d ↔ d ≤ n ∧ i = (n : Int) - d := by
  unfold fvs
  rw [zp_var]
  by_cases h : d ≤ n
  · simp [freeN, h]
  · simp [freeN, h]
theorem fvs_lift (j : Nat) (a : Tm) : ∀ (c d : Nat) (i : Int), i ∈ fvs (liftT j c a) (d + j + c) → i ∈ fvs a (d + c) := by
  induction a with
  | var n =>
    intro c d i h
    by_cases h1 : c ≤ n
    · simp only [liftT, if_pos h1, fvs_var] at h ⊢
      omega
    · simp only [liftT, if_neg h1, fvs_var] at h ⊢
      omega
  | lam b ih =>
    intro c d i h
    simp only [liftT, fvs_lam] at h ⊢
    exact ih (c + 1) d i h
  | app f a ihf iha =>
    intro c d i h
    simp only [liftT, fvs_app, List.mem_append] at h ⊢
    exact h.imp (ihf c d i) (iha c d i)
theorem fvs_put (a : Tm) (b : Tm) : ∀ (j d : Nat) (i : Int), i ∈ fvs (putT a j b) (d + j) → i ∈ fvs b (d + j + 1) ∨ i ∈ fvs a d := by
  induction b with
  | var n =>
    intro j d i h
    by_cases h1 : n < j
    · simp only [putT, if_pos h1, fvs_var] at h ⊢
      omega
    · by_cases h2 : j < n
      · simp only [putT, if_neg h1, if_pos h2, fvs_var] at h ⊢
        left
        omega
      · simp only [putT, if_neg h1, if_neg h2] at h
        exact .inr (fvs_lift j a 0 d i h)
  | lam b ih =>
    intro j d i h
    simp only [putT, fvs_lam] at h ⊢
    exact ih (j + 1) d i h
  | app f a' ihf iha =>
    intro j d i h
    simp only [putT, fvs_app, List.mem_append] at h ⊢
    rcases h with h | h
    · exact (ihf j d i h).imp .inl id
    · exact (iha j d i h).imp .inr id
theorem step_fvs : ∀ (p : List Dir) (t r : Tm) (d : Nat), stepT t p = some r → ∀ i, i ∈ fvs r d → i ∈ fvs t d := by
  intro p
  induction p with
  | nil =>
    intro t r d h i hi
    cases t with
    | var n => simp [stepT] at h
    | lam b => simp [stepT] at h
    | app f a =>
      cases f with
      | var n => simp [stepT] at h
      | app f' a' => simp [stepT] at h
      | lam b =>
        simp only [stepT, Option.some.injEq] at h
        subst h
        rw [fvs_app, fvs_lam, List.mem_append]
        exact fvs_put a b 0 d i hi
  | cons c p ih =>
    intro t r d h i hi
    cases t with
    | var n => simp [stepT] at h
    | lam b =>
      cases c with
      | b =>
        simp only [stepT, Option.map_eq_some_iff] at h
        obtain ⟨r', h', rfl⟩ := h
        rw [fvs_lam] at hi ⊢
        exact ih b r' (d + 1) h' i hi
      | f => simp [stepT] at h
      | a => simp [stepT] at h
    | app f a =>
      cases c with
      | b => simp [stepT] at h
      | f =>
        simp only [stepT, Option.map_eq_some_iff] at h
        obtain ⟨r', h', rfl⟩ := h
        rw [fvs_app, List.mem_append] at hi ⊢
        exact hi.imp (ih f r' d h' i) id
      | a =>
        simp only [stepT, Option.map_eq_some_iff] at h
        obtain ⟨r', h', rfl⟩ := h
        rw [fvs_app, List.mem_append] at hi ⊢
        exact hi.imp id (ih a r' d h' i)
/-! ### places -/
def plc : Tm → List Dir → List (List Dir)
  | .var _, p => [p]
  | .lam b, p => p :: plc b (p ++ [.b])
  | .app f a, p => p :: (plc f (p ++ [.f]) ++ plc a (p ++ [.a]))
theorem plc_len : ∀ (t : Tm) (p : List Dir), (plc t p).length = t.size
  | .var _, _ => rfl
  | .lam b, p => by simp [plc, Tm.size, plc_len b]
  | .app f a, p => by simp [plc, Tm.size, plc_len f, plc_len a]
/-- the index of the part at a place -/
def ixOf : Tm → List Dir → Option Nat
  | _, [] => some 0
  | .lam b, .b :: p => (ixOf b p).map (· + 1)
  | .app f _, .f :: p => (ixOf f p).map (· + 1)
  | .app f a, .a :: p => (ixOf a p).map (· + (f.size + 1))
  | _, _ => none
/-- a redex by its place: what stands ahead of it and behind it -/
theorem step_at : ∀ (p : List Dir) (t r : Tm), stepT t p = some r → ∃ (pre post : List Nd) (b c : Tm),
    enc t = pre ++ (.a :: .l :: (enc b ++ (enc c ++ post))) ∧ enc r = pre ++ (enc (putT c 0 b) ++ post) ∧ ixOf t p = some pre.length := by
  intro p
  induction p with
  | nil =>
    intro t r h
    cases t with
    | var n => simp [stepT] at h
    | lam b => simp [stepT] at h
    | app f a =>
      cases f with
      | var n => simp [stepT] at h
      | app f' a' => simp [stepT] at h
      | lam b =>
        simp only [stepT, Option.some.injEq] at h
        subst h
        exact ⟨[], [], b, a, by simp [enc], by simp, rfl⟩
  | cons d p ih =>
    intro t r h
    cases t with
    | var n => simp [stepT] at h
    | lam b =>
      cases d with
      | b =>
        simp only [stepT, Option.map_eq_some_iff] at h
        obtain ⟨r', h', rfl⟩ := h
        obtain ⟨pre, post, b', c, e1, e2, e3⟩ := ih b r' h'
        refine ⟨.l :: pre, post, b', c, ?_, ?_, ?_⟩
        · rw [enc, e1]; rfl
        · rw [enc, e2]; rfl
        · simp only [ixOf, e3, Option.map_some, List.length_cons]
      | f => simp [stepT] at h
      | a => simp [stepT] at h
    | app f a =>
      cases d with
      | b => simp [stepT] at h
      | f =>
        simp only [stepT, Option.map_eq_some_iff] at h
        obtain ⟨r', h', rfl⟩ := h
        obtain ⟨pre, post, b', c, e1, e2, e3⟩ := ih f r' h'
        refine ⟨.a :: pre, post ++ enc a, b', c, ?_, ?_, ?_⟩
        · rw [enc, e1]; simp
        · rw [enc, e2]; simp
        · simp only [ixOf, e3, Option.map_some, List.length_cons]
      | a =>
        simp only [stepT, Option.map_eq_some_iff] at h
        obtain ⟨r', h', rfl⟩ := h
        obtain ⟨pre, post, b', c, e1, e2, e3⟩ := ih a r' h'
        refine ⟨.a :: (enc f ++ pre), post, b', c, ?_, ?_, ?_⟩
        · rw [enc, e1]; simp
        · rw [enc, e2]; simp
        · simp only [ixOf, e3, Option.map_some, List.length_cons, List.length_append, enc_len, Option.some.injEq]
          omega
/-- the place at an index whose node is an application of an abstraction -/
theorem redex_of : ∀ (t : Tm) (q : List Dir) (i : Nat) (x : List Dir), (plc t q)[i]? = some x → (enc t)[i]? = some .a → (enc t)[i + 1]? = some .l → ∃ p r, x = q ++ p ∧ stepT t p = some r := by
  intro t
  induction t with
  | var n =>
    intro q i x h1 h2 h3
    cases i with
    | zero => simp [enc] at h2
    | succ i => simp [enc] at h2
  | lam b ih =>
    intro q i x h1 h2 h3
    cases i with
    | zero => simp [enc] at h2
    | succ i =>
      simp only [plc, enc, List.getElem?_cons_succ] at h1 h2 h3
      obtain ⟨p, r, e1, e2⟩ := ih (q ++ [.b]) i x h1 h2 h3
      exact ⟨.b :: p, .lam r, by rw [e1]; simp, by simp [stepT, e2]⟩
  | app f a ihf iha =>
    intro q i x h1 h2 h3
    cases i with
    | zero =>
      simp only [plc, enc, List.getElem?_cons_zero, Option.some.injEq] at h1
      simp only [enc, Nat.zero_add, List.getElem?_cons_succ] at h3
      subst h1
      cases f with
      | var n => simp [enc] at h3
      | lam b => exact ⟨[], _, by simp, rfl⟩
      | app f' a' => simp [enc] at h3
    | succ i =>
      simp only [plc, enc, List.getElem?_cons_succ] at h1 h2 h3
      by_cases hi : i < f.size
      · rw [List.getElem?_append_left (by rw [plc_len]; exact hi)] at h1
        rw [List.getElem?_append_left (by rw [enc_len]; exact hi)] at h2
        by_cases hi' : i + 1 < f.size
        · rw [List.getElem?_append_left (by rw [enc_len]; exact hi')] at h3
          obtain ⟨p, r, e1, e2⟩ := ihf (q ++ [.f]) i x h1 h2 h3
          exact ⟨.f :: p, .app r a, by rw [e1]; simp, by simp [stepT, e2]⟩
        · -- the last node of f is a variable
          exfalso
          have hl : i = f.size - 1 := by omega
          have last : ∀ u : Tm, (enc u)[u.size - 1]? ≠ some .a := by
            intro u
            induction u with
            | var n => simp [enc, Tm.size]
            | lam b ihb =>
              have hp := size_pos b
              simp only [enc, Tm.size]
              rw [show b.size + 1 - 1 = (b.size - 1) + 1 by omega, List.getElem?_cons_succ]
              exact ihb
            | app g c _ ihc =>
              have hp := size_pos c
              simp only [enc, Tm.size]
              rw [show g.size + c.size + 1 - 1 = (g.size + (c.size - 1)) + 1 by omega, List.getElem?_cons_succ, List.getElem?_append_right (by rw [enc_len]; omega), enc_len]
              rw [show g.size + (c.size - 1) - g.size = c.size - 1 by omega]
              exact ihc
          rw [hl] at h2
          exact last f h2
      · rw [List.getElem?_append_right (by rw [plc_len]; omega), plc_len] at h1
        rw [List.getElem?_append_right (by rw [enc_len]; omega), enc_len] at h2
        rw [List.getElem?_append_right (by rw [enc_len]; omega), enc_len] at h3
        rw [show i + 1 - f.size = i - f.size + 1 by omega] at h3
        obtain ⟨p, r, e1, e2⟩ := iha (q ++ [.a]) (i - f.size) x h1 h2 h3
        exact ⟨.a :: p, .app f r, by rw [e1]; simp, by simp [stepT, e2]⟩
/-- the index of a redex -/
theorem redex_ix : ∀ (p : List Dir) (t r : Tm) (q : List Dir), stepT t p = some r → ∃ i, (plc t q)[i]? = some (q ++ p) ∧ (enc t)[i]? = some .a ∧ (enc t)[i + 1]? = some .l := by
  intro p
  induction p with
  | nil =>
    intro t r q h
    cases t with
    | var n => simp [stepT] at h
    | lam b => simp [stepT] at h
    | app f a =>
      cases f with
      | var n => simp [stepT] at h
      | app f' a' => simp [stepT] at h
      | lam b => exact ⟨0, by simp [plc], by simp [enc], by simp [enc]⟩
  | cons d p ih =>
    intro t r q h
    cases t with
    | var n => simp [stepT] at h
    | lam b =>
      cases d with
      | b =>
        simp only [stepT, Option.map_eq_some_iff] at h
        obtain ⟨r', h', _⟩ := h
        obtain ⟨i, e1, e2, e3⟩ := ih b r' (q ++ [.b]) h'
        refine ⟨i + 1, ?_, ?_, ?_⟩
        · simp only [plc, List.getElem?_cons_succ, e1]; simp
        · simp only [enc, List.getElem?_cons_succ, e2]
        · simp only [enc, List.getElem?_cons_succ, e3]
      | f => simp [stepT] at h
      | a => simp [stepT] at h
    | app f a =>
      cases d with
      | b => simp [stepT] at h
      | f =>
        simp only [stepT, Option.map_eq_some_iff] at h
        obtain ⟨r', h', _⟩ := h
        obtain ⟨i, e1, e2, e3⟩ := ih f r' (q ++ [.f]) h'
        have l1 := (List.getElem?_eq_some_iff.mp e1).1
        have l2 := (List.getElem?_eq_some_iff.mp e2).1
        have l3 := (List.getElem?_eq_some_iff.mp e3).1
        refine ⟨i + 1, ?_, ?_, ?_⟩
        · simp only [plc, List.getElem?_cons_succ, List.getElem?_append_left l1, e1]; simp
        · simp only [enc, List.getElem?_cons_succ, List.getElem?_append_left l2, e2]
        · simp only [enc, List.getElem?_cons_succ, List.getElem?_append_left l3, e3]
      | a =>
        simp only [stepT, Option.map_eq_some_iff] at h
        obtain ⟨r', h', _⟩ := h
        obtain ⟨i, e1, e2, e3⟩ := ih a r' (q ++ [.a]) h'
        refine ⟨f.size + i + 1, ?_, ?_, ?_⟩
        · simp only [plc, List.getElem?_cons_succ]
          rw [List.getElem?_append_right (by rw [plc_len]; omega), plc_len, show f.size + i - f.size = i by omega, e1]; simp
        · simp only [enc, List.getElem?_cons_succ]
          rw [List.getElem?_append_right (by rw [enc_len]; omega), enc_len, show f.size + i - f.size = i by omega, e2]
        · simp only [enc, List.getElem?_cons_succ]
          rw [List.getElem?_append_right (by rw [enc_len]; omega), enc_len, show f.size + i + 1 - f.size = i + 1 by omega, e3]
end K23
namespace K23
open PySem PyProof.Rows PySem.Spec L2
/-! ### the text by places -/
def topS (i : Nat) : Stmt := PySem.Challenge.pw_lydite_k23_whole_steps_under_putting.main.body.getD i (.Pass ⟨0, 0, 0, 0⟩)
abbrev sChecked : Stmt := topS 7
abbrev sEndOf : Stmt := topS 8
abbrev sDepths : Stmt := topS 9
abbrev sFree : Stmt := topS 10
abbrev sLifted : Stmt := topS 11
abbrev sPlaced : Stmt := topS 12
abbrev sPut : Stmt := topS 13
abbrev sPlNodes : Stmt := topS 15
abbrev sIndexOf : Stmt := topS 16
abbrev sIsRedex : Stmt := topS 18
abbrev sRedexes : Stmt := topS 19
abbrev sStepped : Stmt := topS 20
abbrev sStep : Stmt := topS 21
abbrev sStream : Stmt := topS 23
abbrev sDraw : Stmt := topS 24
abbrev sIsLam : Stmt := topS 25
abbrev sLDepths : Stmt := topS 26
abbrev sTerm : Stmt := topS 27
abbrev sClosed : Stmt := topS 28
abbrev sRich : Stmt := topS 29
abbrev sLFree : Stmt := topS 30
abbrev sBoth : Stmt := topS 31
abbrev sAfter : Stmt := topS 32
abbrev sLaw : Stmt := topS 33
/-! ### nodes as values -/
def nv : Nd → V
  | .v n => .int n
  | .l => .str "lam"
  | .a => .str "app"
abbrev tmV (t : Tm) : List V := (enc t).map nv
abbrev ds (l : List Nat) : List V := l.map fun d => V.int (d : Nat)
theorem nv_inj : ∀ {x y : Nd}, nv x = nv y → x = y
  | .v n, .v m, h => by
    have e : ((n : Nat) : Int) = (m : Nat) := V.int.inj h
    rw [show n = m by omega]
  | .v n, .l, h => nomatch h
  | .v n, .a, h => nomatch h
  | .l, .v n, h => nomatch h
  | .a, .v n, h => nomatch h
  | .l, .l, _ => rfl
  | .a, .a, _ => rfl
  | .l, .a, h => absurd h (by decide +kernel)
  | .a, .l, h => absurd h (by decide +kernel)
theorem map_nv_inj : ∀ {xs ys : List Nd}, xs.map nv = ys.map nv → xs = ys
  | [], [], _ => rfl
  | [], _ :: _, h => nomatch h
  | _ :: _, [], h => nomatch h
  | x :: xs, y :: ys, h => by
    exact congr (congrArg List.cons (nv_inj (List.cons.inj h).1)) (map_nv_inj (List.cons.inj h).2)
theorem scal_nv (x : Nd) (s : Str) : scal (nv x) (.str s) = true := by cases x <;> rfl
theorem is_app : ∀ x : Nd, decide (nv x = V.str "app") = decide (x = .a)
  | .v n => decide_eq_false (fun h => nomatch h)
  | .l => by decide +kernel
  | .a => by rw [decide_eq_true (show nv .a = V.str "app" from rfl)]; rfl
theorem is_lam : ∀ x : Nd, decide (nv x = V.str "lam") = decide (x = .l)
  | .v n => decide_eq_false (fun h => nomatch h)
  | .a => by decide +kernel
  | .l => by rw [decide_eq_true (show nv .l = V.str "lam" from rfl)]; rfl
def Nd.isV : Nd → Bool
  | .v _ => true
  | _ => false
theorem nv_int (K : PySem.W.Frag) (H : Hp) : ∀ x : Nd, ∃ t, TyX K H (nv x) t ∧ PySem.W.kitOne K t (.type "int") = some x.isV
  | .v n => ⟨_, .base (.int _), kit_ty (show kitB "int" "int" = some true by decide +kernel)⟩
  | .l => ⟨_, .base (.str _), kit_ty (by decide +kernel)⟩
  | .a => ⟨_, .base (.str _), kit_ty (by decide +kernel)⟩
theorem nv_tup (K : PySem.W.Frag) (H : Hp) : ∀ x : Nd, ∃ t, TyX K H (nv x) t ∧ PySem.W.kitOne K t (.type "tuple") = some false
  | .v n => ⟨_, .base (.int _), kit_ty (by decide +kernel)⟩
  | .l => ⟨_, .base (.str _), kit_ty (by decide +kernel)⟩
  | .a => ⟨_, .base (.str _), kit_ty (by decide +kernel)⟩
/-! ### tests that are known -/
theorem yes {c : Bool} {A B : Prop} (h : c = true) (a : A) : if c = true then A else B := by
  rw [if_pos h]
  exact a
theorem noo {c : Bool} {A B : Prop} (h : c = false) (b : B) : if c = true then A else B := by
  rw [h, if_neg Bool.false_ne_true]
  exact b
theorem both {c : Bool} {A B : Prop} (a : c = true → A) (b : c = false → B) : if c = true then A else B := by
  cases c with
  | true => exact iteT (a rfl)
  | false => exact iteF (b rfl)
/-! ### heaps -/
theorem same_new {H : Hp} {p : Addr} (h : H p = none) (o : HO) : Same H (upd H p o) := fun b u q => by rw [upd_ne (ne_of_none q h)]; exact q
/-- a new object, written again -/
theorem same_upd {H H' : Hp} {p : Addr} (s : Same H H') (h : H p = none) (o : HO) : Same H (upd H' p o) := fun b u q => by
  rw [upd_ne (ne_of_none q h)]
  exact s b u q
theorem same_tup {K : PySem.W.Frag} {H H' : Hp} {a : Addr} {xs : List V} (e : Same H H') (h : SqT K H a xs) : SqT K H' a xs := by
  refine h.imp_left fun r => ?_
  exact r.elim (fun q => .inl (e _ _ q)) fun ⟨o, q⟩ => .inr ⟨o, e _ _ q⟩
theorem sl1000 {n : Nat} (h : n ≤ 100000) : n < sizeLine := Nat.lt_of_le_of_lt h (by decide)
/-! ### a pile of terms that are still to be read -/
section
variable {α : Type}
def hd : Tm → Nd
  | .var n => .v n
  | .lam _ => .l
  | .app _ _ => .a
def flat (fs : List (Tm × α)) : List Nd := fs.flatMap fun p => enc p.1
theorem flat_cons (u : Tm) (d : α) (r : List (Tm × α)) : flat ((u, d) :: r) = enc u ++ flat r := rfl
theorem flat_pos : ∀ {fs : List (Tm × α)}, flat fs = [] → fs = []
  | [], _ => rfl
  | (u, d) :: r, h => by
    have hl := congrArg List.length h
    have hp := size_pos u
    rw [flat_cons, List.length_append, enc_len, List.length_nil] at hl
    omega
/-- the next node is the head of the first term -/
theorem flat_next {xs pre : List Nd} {fs : List (Tm × α)} {x : V} {i : Nat} (e : xs = pre ++ flat fs) (hi : pre.length = i) (hx : (xs.map nv)[i]? = some x) : ∃ u d r, fs = (u, d) :: r ∧ x = nv (hd u) := by
  subst e hi
  rw [List.getElem?_map, List.getElem?_append_right (Nat.le_refl _), Nat.sub_self] at hx
  cases fs with
  | nil => simp [flat] at hx
  | cons p r =>
    obtain ⟨u, d⟩ := p
    refine ⟨u, d, r, rfl, ?_⟩
    rw [flat_cons] at hx
    cases u <;> simpa [enc, hd, eq_comm] using hx
theorem flat_end {t : Tm} {pre : List Nd} {fs : List (Tm × α)} (e : enc t = pre ++ flat fs) (hi : pre.length = t.size) : fs = [] := by
  have := congrArg List.length e
  rw [enc_len, List.length_append] at this
  exact flat_pos (List.eq_nil_of_length_eq_zero (by omega))
end
/-- depths: the terms that follow a head -/
def kidsD : Tm → Nat → List (Tm × Nat)
  | .var _, _ => []
  | .lam b, d => [(b, d + 1)]
  | .app f a, d => [(f, d), (a, d)]
def depF (fs : List (Tm × Nat)) : List Nat := fs.flatMap fun p => dep p.1 p.2
theorem flat_kidsD (u : Tm) (d : Nat) (r : List (Tm × Nat)) : flat ((u, d) :: r) = hd u :: flat (kidsD u d ++ r) := by
  cases u <;> simp [flat, enc, hd, kidsD]
theorem depF_kids (u : Tm) (d : Nat) (r : List (Tm × Nat)) : depF ((u, d) :: r) = d :: depF (kidsD u d ++ r) := by
  cases u <;> simp [depF, dep, kidsD]
/-- places -/
def kidsP : Tm → List Dir → List (Tm × List Dir)
  | .var _, _ => []
  | .lam b, p => [(b, p ++ [.b])]
  | .app f a, p => [(f, p ++ [.f]), (a, p ++ [.a])]
def plcF (fs : List (Tm × List Dir)) : List (List Dir) := fs.flatMap fun p => plc p.1 p.2
theorem flat_kidsP (u : Tm) (d : List Dir) (r : List (Tm × List Dir)) : flat ((u, d) :: r) = hd u :: flat (kidsP u d ++ r) := by
  cases u <;> simp [flat, enc, hd, kidsP]
theorem plcF_kids (u : Tm) (d : List Dir) (r : List (Tm × List Dir)) : plcF ((u, d) :: r) = d :: plcF (kidsP u d ++ r) := by
  cases u <;> simp [plcF, plc, kidsP]
/-! ### what the top has written -/
/-- the names that stay built in, the constants, the class of the error -/
structure Known (K : PySem.W.Frag) (mg : Str → Option Value) (C : Addr) : Prop where
  len : mg "len" = none
  isi : mg "isinstance" = none
  int : mg "int" = none
  tuple : mg "tuple" = none
  list : mg "list" = none
  max : mg "max" = none
  zip : mg "zip" = none
  set : mg "set" = none
  sorted : mg "sorted" = none
  enum : mg "enumerate" = none
  abs : mg "abs" = none
  range : mg "range" = none
  most : ∃ t, mg "MOST_NODES" = some (.int 1000 t)
  mostV : ∃ t, mg "MOST_VARIABLE" = some (.int 1000000 t)
  gC : mg "TooLarge" = some (.ref C)
  xC : PySem.W.excIn K C [.type "ValueError", .type "Exception", .type "BaseException", .type "object"] "ValueError.__new__" = true
  kC : PySem.W.keepIn K (.ref C) = true
  bC : PySem.W.subIn K (.ref C) (.type "BaseException") = some true
  tC : PySem.W.typeIn K (.ref C) = some (.type "type")
  eC : PySem.W.exmOne K (.ref C) (.ref C) = some true
/-- a def as its callers need it -/
structure Def (K : PySem.W.Frag) (mg : Str → Option Value) (x : Str) (f : Addr) (fd : FuncData) (ps : List Str) : Prop where
  m : mg x = some (.ref f)
  k : PySem.W.keepIn K (.ref f) = true
  b : Binds K fd ps []
end K23
namespace K23
open PySem PyProof.Rows PySem.Spec L2
section
variable {P : Program} {w : World} {K : PySem.W.Frag} {mg : Str → Option Value} {base : Heap} {C : Addr}
/-! ### depths -/
def spDepths (K : PySem.W.Frag) : Sp := fun vs H Q _ => ∃ (a : Addr) (t : Tm), vs = [.ref a] ∧ SqT K H a (tmV t) ∧ t.size ≤ 1000 ∧ ∀ r H', Same H H' → H r = none → H' r = some (.lst (ds (dep t 0))) → Q (.ref r) H'
theorem scDepths : FnScope ["nodes", "found", "waiting", "node", "depth"] ["nodes"] (defScope sDepths) := ⟨rfl, rfl, rfl, by decide +kernel, rfl, by decide +kernel, by decide +kernel⟩
theorem kids_len (u : Tm) (d : Nat) : (kidsD u d).length ≤ 2 := by cases u <;> simp [kidsD]
theorem ok_depths {f : Addr} {fd : FuncData} {k : Nat} (F : Fun K "depths" "depths" sDepths f fd) (T : Known K mg C) : FnOk P w K mg base CX0 (k + 1) f fd ["nodes"] (spDepths K) := by
  refine F.ok scDepths (fun vs H Q E h => ?_) (fun cdv A outer s H vs Q E hr h => ?_)
  · obtain ⟨a, t, rfl, _⟩ := h
    rfl
  obtain ⟨a, t, rfl, hT, hsz, q⟩ := h
  refine ⟨_, pss_cons (ps_set (i := 1) scDepths.nd rfl (.inl rfl) (pe_lst pa_nil))
    (pss_cons (ps_set (i := 2) scDepths.nd rfl (.inl rfl) (pe_lst (pa_cons pe_int pa_nil)))
    (pss_cons (ps_for PassesOwn.never rfl (pi_tup (pv 0)) (pg_name (i := 3) scDepths.nd rfl (.inl rfl))
      (pss_cons (ps_set (i := 4) scDepths.nd rfl (.inl rfl) (pe_bm0 PySem.F.plainAttrs_list PySem.F.slot_list_pop PySem.F.type_list_pop mt_pop (pv 2)))
      (pss_cons (ps_expr (pe_bm PySem.F.plainAttrs_list PySem.F.slot_list_append PySem.F.type_list_append mt_append (pv 1) (pa_cons (pv 4) pa_nil)))
      (pss_one (ps_if (pt_cmpR op_eq (pv 3) pe_str (nomark _))
        (pss_cons (ps_expr (pe_bm PySem.F.plainAttrs_list PySem.F.slot_list_append PySem.F.type_list_append mt_append (pv 2) (pa_cons (pv 4) pa_nil)))
          (pss_one (ps_expr (pe_bm PySem.F.plainAttrs_list PySem.F.slot_list_append PySem.F.type_list_append mt_append (pv 2) (pa_cons (pv 4) pa_nil)))))
        (pss_one (ps_if (pt_not (pt_val (pe_callB call_isi (by rfl) T.isi (by decide +kernel) (pa_cons (pv 3) (pa_cons (pe_bltn (v := .ty "int") (by rfl) T.int boot_int rfl) pa_nil)))))
          (pss_one (ps_expr (pe_bm PySem.F.plainAttrs_list PySem.F.slot_list_append PySem.F.type_list_append mt_append (pv 2) (pa_cons (pe_op op_add (pv 4) pe_int) pa_nil))))
          pss_nil)))))))
    (pss_one (ps_ret (pv 1))))), ?_⟩
  -- found = [], waiting = [0]
  refine ⟨Nat.zero_le _, fun o no => ⟨by show 1 ≤ sizeLine; decide, fun x nx => ?_⟩⟩
  have s1 : Same H (upd H o (.lst [])) := same_new no _
  have s2 := s1.trans (same_new nx (.lst [.int 0]))
  have nxo : x ≠ o := fun e => by
    rw [e, upd_same] at nx
    cases nx
  have nxH : H x = none := s1.free nx
  refine ⟨_, rfl, a, rfl, ⟨_, same_tup s2 hT⟩, for_it (walk_tup (xs := tmV t)) (fun i σ H3 => ∃ (y3 y4 : Option V) (pre : List Nd) (dn : List Nat) (fs : List (Tm × Nat)),
      σ = [some (.ref a), some (.ref o), some (.ref x), y3, y4] ∧ enc t = pre ++ flat fs ∧ pre.length = i ∧ dep t 0 = dn ++ depF fs ∧ dn.length = i ∧ fs.length ≤ i + 1 ∧
      Same H H3 ∧ H3 o = some (.lst (ds dn)) ∧ H3 x = some (.lst (ds (fs.map (·.2)).reverse)))
    ⟨none, none, [], [], [(t, 0)], rfl, by simp [flat], rfl, by simp [depF], rfl, by simp, s2, by rw [upd_ne nxo.symm, upd_same]; rfl, by rw [upd_same]; rfl⟩
    (fun i σ H3 _ hp => by obtain ⟨_, _, _, _, _, _, _, _, _, _, _, sm, _⟩ := hp; exact same_tup sm hT) ?_ ?_⟩
  · rintro i y σ H4 H3 hi ⟨y3, y4, pre, dn, fs, rfl, e1, e2, e3, e4, e5, sm, eo, ex⟩ ⟨rfl, hy⟩
    obtain ⟨u, d, r, rfl, rfl⟩ := flat_next e1 e2 hy
    have hlen : (tmV t).length ≤ 1000 := by rw [List.length_map, enc_len]; exact hsz
    -- depth = waiting.pop()
    have hl : (ds (((u, d) :: r).map (·.2)).reverse) = ds (r.map (·.2)).reverse ++ [V.int (d : Nat)] := by simp [ds]
    rw [hl] at ex
    refine ⟨_, rfl, .inl ⟨rfl, _, .inl (.inl ex)⟩, x, _, V.int (d : Nat), rfl, rfl, ex, by simp, ?_⟩
    rw [List.dropLast_concat]
    -- found.append(depth)
    refine ⟨_, rfl, .inl ⟨rfl, _, .inl (.inl (by rw [upd_ne nxo.symm]; exact eo))⟩, _, rfl, o, _, _, rfl, rfl, (by rw [upd_ne nxo.symm]; exact eo), sl1000 (by simp [ds]; omega), ?_⟩
    have fin : ∀ H5 : Hp, (∀ b, b ≠ o → b ≠ x → H5 b = H3 b) → H5 o = some (.lst (ds dn ++ [V.int (d : Nat)])) → H5 x = some (.lst (ds ((kidsD u d ++ r).map (·.2)).reverse)) →
        (∃ (y3' y4' : Option V) (pre' : List Nd) (dn' : List Nat) (fs' : List (Tm × Nat)), [some (V.ref a), some (.ref o), some (.ref x), some (nv (hd u)), some (V.int (d : Nat))] = [some (V.ref a), some (.ref o), some (.ref x), y3', y4'] ∧ enc t = pre' ++ flat fs' ∧ pre'.length = i + 1 ∧
          dep t 0 = dn' ++ depF fs' ∧ dn'.length = i + 1 ∧ fs'.length ≤ i + 1 + 1 ∧ Same H H5 ∧ H5 o = some (.lst (ds dn')) ∧ H5 x = some (.lst (ds (fs'.map (·.2)).reverse))) := fun H5 k1 k2 k3 => by
      refine ⟨_, _, pre ++ [hd u], dn ++ [d], kidsD u d ++ r, rfl, by rw [e1, flat_kidsD]; simp, by simp [e2], by rw [e3, depF_kids]; simp, by simp [e4], ?_, fun b z e => ?_, by rw [k2]; simp [ds], k3⟩
      · have := kids_len u d
        simp only [List.length_cons, List.length_append] at e5 ⊢
        omega
      · rw [k1 b (ne_of_none e no) (ne_of_none e nxH)]
        exact sm b z e
    have er : r.length ≤ i := by simp only [List.length_cons] at e5; omega
    have hx5 : (upd (upd H3 x (.lst (ds (r.map (·.2)).reverse))) o (.lst (ds dn ++ [V.int (d : Nat)]))) x = some (.lst (ds (r.map (·.2)).reverse)) := by rw [upd_ne nxo, upd_same]
    refine ⟨_, rfl, scal_nv _ _, _, rfl, ?_⟩
    rw [is_app]
    cases u with
    | var n =>
      refine noo rfl ?_
      obtain ⟨ty, h1, h2⟩ := nv_int K (upd (upd H3 x (.lst (ds (r.map (·.2)).reverse))) o (.lst (ds dn ++ [V.int (d : Nat)]))) (.v n)
      refine ⟨_, rfl, _, _, ty, _, true, rfl, .ty "int", h1, h2, _, rfl, noo rfl ?_⟩
      exact fin _ (fun b b1 b2 => by rw [upd_ne b1, upd_ne b2]) upd_same hx5
    | lam c =>
      refine noo rfl ?_
      obtain ⟨ty, h1, h2⟩ := nv_int K (upd (upd H3 x (.lst (ds (r.map (·.2)).reverse))) o (.lst (ds dn ++ [V.int (d : Nat)]))) .l
      refine ⟨_, rfl, _, _, ty, _, false, rfl, .ty "int", h1, h2, _, rfl, yes rfl ?_⟩
      refine ⟨_, rfl, .inl ⟨rfl, _, .inl (.inl hx5)⟩, _, rfl, _, _, rfl, rfl, x, _, _, rfl, rfl, hx5, sl1000 (by simp [ds]; omega), ?_⟩
      refine fin _ (fun b b1 b2 => by rw [upd_ne b2, upd_ne b1, upd_ne b2]) (by rw [upd_ne nxo.symm, upd_same]) ?_
      rw [upd_same]
      simp [ds, kidsD]
    | app g c =>
      refine yes rfl ?_
      refine ⟨_, rfl, .inl ⟨rfl, _, .inl (.inl hx5)⟩, _, rfl, x, _, _, rfl, rfl, hx5, sl1000 (by simp [ds]; omega), ?_⟩
      refine ⟨_, rfl, .inl ⟨rfl, _, .inl (.inl upd_same)⟩, _, rfl, x, _, _, rfl, rfl, upd_same, sl1000 (by simp [ds]; omega), ?_⟩
      refine fin _ (fun b b1 b2 => by rw [upd_ne b2, upd_ne b2, upd_ne b1, upd_ne b2]) (by rw [upd_ne nxo.symm, upd_ne nxo.symm, upd_same]) ?_
      rw [upd_same]
      simp [ds, kidsD]
  · rintro σ H3 ⟨y3, y4, pre, dn, fs, rfl, e1, e2, e3, e4, e5, sm, eo, ex⟩
    have hf := flat_end e1 (by rw [e2, List.length_map, enc_len])
    subst hf
    refine ⟨_, rfl, q o H3 sm no ?_⟩
    rw [eo, e3]
    simp [depF]
end
end K23
namespace K23
open PySem PyProof.Rows PySem.Spec L2
section
variable {P : Program} {w : World} {K : PySem.W.Frag} {mg : Str → Option Value} {base : Heap} {C : Addr}
/-! ### end_of -/
def spEndOf (K : PySem.W.Frag) : Sp := fun vs H Q _ => ∃ (a : Addr) (t : Tm) (pre post : List Nd), vs = [.ref a, .int (pre.length : Nat)] ∧ SqT K H a ((pre ++ (enc t ++ post)).map nv) ∧ Q (.int ((pre.length + t.size : Nat) : Int)) H
theorem scEndOf : FnScope ["nodes", "start", "missing", "at", "node"] ["nodes", "start"] (defScope sEndOf) := ⟨rfl, rfl, rfl, by decide +kernel, rfl, by decide +kernel, by decide +kernel⟩
theorem at_mid {pre rest : List Nd} {x : Nd} : atI ((pre ++ x :: rest).map nv) ((pre.length : Nat) : Int) = some (nv x) :=
  atI_nat (by rw [List.getElem?_map, List.getElem?_append_right (Nat.le_refl _), Nat.sub_self]; rfl)
theorem ok_end {f : Addr} {fd : FuncData} {k : Nat} (F : Fun K "end_of" "end_of" sEndOf f fd) (T : Known K mg C) : FnOk P w K mg base CX0 (k + 1) f fd ["nodes", "start"] (spEndOf K) := by
  refine F.ok scEndOf (fun vs H Q E h => ?_) (fun cdv A outer s H vs Q E hr h => ?_)
  · obtain ⟨a, t, pre, post, rfl, _⟩ := h
    rfl
  obtain ⟨a, t, pre, post, rfl, hT, q⟩ := h
  refine ⟨_, pss_cons (ps_set (i := 2) scEndOf.nd rfl (.inl rfl) pe_int)
    (pss_cons (ps_set (i := 3) scEndOf.nd rfl (.inl rfl) (pv 1))
    (pss_cons (ps_while PassesOwn.never (pt_cmpR op_gt (pv 2) pe_int (nomark _))
      (pss_cons (ps_set (i := 4) scEndOf.nd rfl (.inl rfl) (pe_ix ix_tup (pv 0) (pv 3) (fun _ _ => rfl)))
      (pss_cons (ps_if (pt_cmpR op_eq (pv 4) pe_str (nomark _))
          (pss_one (ps_aug (i := 2) scEndOf.nd rfl (.inl rfl) pe_int ip_add))
          (pss_one (ps_if (pt_val (pe_callB call_isi (by rfl) T.isi (by decide +kernel) (pa_cons (pv 4) (pa_cons (pe_bltn (v := .ty "int") (by rfl) T.int boot_int rfl) pa_nil))))
            (pss_one (ps_aug (i := 2) scEndOf.nd rfl (.inl rfl) pe_int ip_sub)) pss_nil)))
      (pss_one (ps_aug (i := 3) scEndOf.nd rfl (.inl rfl) pe_int ip_add)))))
    (pss_one (ps_ret (pv 3))))), ?_⟩
  refine ⟨_, rfl, ?_⟩
  refine ⟨fun m σ H' => H' = H ∧ ∃ (p : List Nd) (fs : List (Tm × Nat)) (y : Option V), σ = [some (.ref a), some (.int (pre.length : Nat)), some (.int (fs.length : Nat)), some (.int (p.length : Nat)), y] ∧
      pre ++ (enc t ++ post) = p ++ (flat fs ++ post) ∧ p.length + m = pre.length + t.size ∧ (flat fs).length = m,
    ⟨t.size, rfl, pre, [(t, 0)], none, rfl, by simp [flat], rfl, by simp [flat, enc_len]⟩, ?_⟩
  rintro m σ H' ⟨rfl, p, fs, y, rfl, e1, e2, e3⟩
  refine ⟨_, rfl, _, _, rfl, rfl, _, rfl, ?_⟩
  cases fs with
  | nil =>
    refine noo rfl ⟨_, rfl, ?_⟩
    have e : p.length = pre.length + t.size := by
      have : m = 0 := by rw [← e3]; rfl
      omega
    rw [e]
    exact q
  | cons ud r =>
    obtain ⟨u, d⟩ := ud
    rw [flat_kidsD] at e1 e3
    refine yes (decide_eq_true (by simp only [List.length_cons]; omega)) ⟨fun σ' H' => ∃ m', m' < m ∧ _, fun _ _ h => h, ?_⟩
    refine ⟨_, rfl, _, rfl, a, _, _, _, rfl, rfl, hT, (by rw [e1]; exact at_mid), ?_⟩
    have fin : ∀ z : Int, z = ((kidsD u d ++ r).length : Nat) → ∃ m', m' < m ∧ (H' = H' ∧ ∃ (p' : List Nd) (fs' : List (Tm × Nat)) (y : Option V), [some (V.ref a), some (.int (pre.length : Nat)), some (.int z), some (.int ((p.length : Nat) + 1 : Int)), some (nv (hd u))] = [some (V.ref a), some (.int (pre.length : Nat)), some (.int (fs'.length : Nat)), some (.int (p'.length : Nat)), y] ∧
        pre ++ (enc t ++ post) = p' ++ (flat fs' ++ post) ∧ p'.length + m' = pre.length + t.size ∧ (flat fs').length = m') := fun z hz => by
      refine ⟨(flat (kidsD u d ++ r)).length, by rw [← e3]; simp, rfl, p ++ [hd u], kidsD u d ++ r, some (nv (hd u)), ?_, by rw [e1]; simp, ?_, rfl⟩
      · rw [hz, show (p ++ [hd u]).length = p.length + 1 by simp]
        rfl
      · rw [← e2, ← e3, List.length_append]
        simp
        omega
    refine ⟨_, rfl, scal_nv _ _, _, rfl, ?_⟩
    rw [is_app]
    cases u with
    | var n =>
      refine noo rfl ?_
      obtain ⟨ty, h1, h2⟩ := nv_int K H' (.v n)
      refine ⟨_, rfl, _, _, ty, _, true, rfl, .ty "int", h1, h2, _, rfl, yes rfl ?_⟩
      refine ⟨_, rfl, _, _, rfl, rfl, ?_⟩
      refine ⟨_, rfl, _, _, rfl, rfl, fin _ ?_⟩
      simp only [kidsD, List.nil_append, List.length_cons]
      omega
    | lam c =>
      refine noo rfl ?_
      obtain ⟨ty, h1, h2⟩ := nv_int K H' .l
      refine ⟨_, rfl, _, _, ty, _, false, rfl, .ty "int", h1, h2, _, rfl, noo rfl ?_⟩
      exact ⟨_, rfl, _, _, rfl, rfl, fin _ rfl⟩
    | app g c =>
      refine yes rfl ?_
      refine ⟨_, rfl, _, _, rfl, rfl, ?_⟩
      refine ⟨_, rfl, _, _, rfl, rfl, fin _ ?_⟩
      simp only [kidsD, List.cons_append, List.nil_append, List.length_cons]
      omega
end
end K23
namespace K23
open PySem PyProof.Rows PySem.Spec L2
/-! ### what is too large -/
def numOf : Nd → Option Int
  | .v n => some (n : Nat)
  | _ => none
def big (xs : List Nd) : Bool := decide (1000 < xs.length) || xs.any fun x => match x with
  | .v n => decide (1000000 < n)
  | _ => false
theorem nums_mem {xs : List Nd} {i : Int} : i ∈ xs.filterMap numOf ↔ ∃ n : Nat, i = (n : Nat) ∧ Nd.v n ∈ xs := by
  rw [List.mem_filterMap]
  constructor
  · rintro ⟨x, hx, h⟩
    cases x with
    | v n => exact ⟨n, (Option.some.inj h).symm, hx⟩
    | l => cases h
    | a => cases h
  · rintro ⟨n, rfl, h⟩
    exact ⟨.v n, h, rfl⟩
/-- what the test of checked says, by the greatest number -/
theorem big_of {xs : List Nd} {m : Int} (h1 : m ∈ xs.filterMap numOf) (h2 : ∀ y, y ∈ xs.filterMap numOf → y ≤ m) (hl : ¬ 1000 < xs.length) : big xs = decide (1000000 < m) := by
  unfold big
  rw [decide_eq_false hl, Bool.false_or]
  by_cases h : (1000000 : Int) < m
  · rw [decide_eq_true h, List.any_eq_true]
    obtain ⟨n, rfl, hn⟩ := nums_mem.mp h1
    exact ⟨.v n, hn, decide_eq_true (by omega)⟩
  · rw [decide_eq_false h, List.any_eq_false]
    intro x hx
    cases x with
    | v n =>
      have := h2 (n : Nat) (nums_mem.mpr ⟨n, rfl, hx⟩)
      show ¬ decide (1000000 < n) = true
      rw [decide_eq_true_eq]
      omega
    | l => exact Bool.false_ne_true
    | a => exact Bool.false_ne_true
theorem big_long {xs : List Nd} (h : 1000 < xs.length) : big xs = true := by
  unfold big
  rw [decide_eq_true h, Bool.true_or]
theorem boot_isi : bootBuiltins "isinstance" = some (.builtin "isinstance") := by decide +kernel
section
variable {P : Program} {w : World} {K : PySem.W.Frag} {mg : Str → Option Value} {base : Heap} {C : Addr}
/-! ### checked -/
def spChecked (K : PySem.W.Frag) (C : Addr) : Sp := fun vs H Q E => ∃ (a : Addr) (xs : List Nd), vs = [.ref a] ∧ SqL K H a (xs.map nv) ∧ xs.length ≤ 10000 ∧ xs.filterMap numOf ≠ [] ∧
  (big xs = true → ∀ H', Same H H' → E (.ref C) none H') ∧ (big xs = false → ∀ r H', Same H H' → H r = none → H' r = some (.tup (xs.map nv)) → Q (.ref r) H')
theorem scChecked : FnScope ["nodes", "node"] ["nodes"] (defScope sChecked) := ⟨rfl, rfl, rfl, by decide +kernel, rfl, by decide +kernel, by decide +kernel⟩
theorem ok_checked {f : Addr} {fd : FuncData} {k : Nat} (F : Fun K "checked" "checked" sChecked f fd) (T : Known K mg C) : FnOk P w K mg base (L2.CX P w) (k + 1) f fd ["nodes"] (spChecked K C) := by
  obtain ⟨t1, m1⟩ := T.most
  obtain ⟨t2, m2⟩ := T.mostV
  refine F.okX scChecked (fun vs H Q E h => ?_) (fun cdv A outer s H vs Q E hr h => ?_)
  · obtain ⟨a, xs, rfl, _⟩ := h
    rfl
  obtain ⟨a, xs, rfl, hS, hl, hne, qE, qQ⟩ := h
  refine ⟨_, pss_cons (ps_if (PW.pt (pw_or (pt_cmpR op_gt (pe_callB call_len_seq (by rfl) T.len PySem.boot_len (pa_cons (pv 0) pa_nil)) (pe_glob (v := .int 1000) rfl m1 ⟨_, rfl⟩) (nomark _))
      (pw_or1 (pt_cmpR op_gt (pe_callBK (crk_max rfl hr.units) (by rfl) T.max boot_max
        (pa_cons (pe_lc (own := [("node", 1)]) (g := gName 1) rfl scChecked.nd (pi_list (pv 0)) (blkOk_by (N := ["nodes", "node"]) (sc := defScope sChecked) (by decide +kernel)) (fun _ _ _ _ _ => pg_name (i := 1) scChecked.nd rfl (Or.inl rfl))
          (fun _ _ _ _ _ => pts_one (pt_val (pe_callB (r := rIsi K) call_isi (by rfl) T.isi boot_isi (pa_cons (pv 1) (pa_cons (pe_bltn (v := .ty "int") (by rfl) T.int boot_int rfl) pa_nil)))))
          (fun _ _ _ _ _ => pv 1)) pa_nil) (pk_cons pe_int pk_nil)) (pe_glob (v := .int 1000000) rfl m2 ⟨_, rfl⟩) (nomark _)))))
      (pss_one (ps_raise rfl (takes_of rfl rfl rfl rfl) (pmk_own PySem.F.excBase_ValueError T.xC T.gC T.kC (raises_own T.bC T.tC) (by exact rfl)))) pss_nil)
    (pss_one (ps_ret (pe_callTy call_tuple_of (by rfl) T.tuple boot_tuple (pa_cons (pv 0) pa_nil)))), ?_⟩
  have hlm : (xs.map nv).length = xs.length := List.length_map _
  -- the end: tuple(nodes)
  have fin : ∀ H', Same H H' → big xs = false → ∀ σ : L2.St, σ[0]? = some (some (.ref a)) → ∃ v, σ[0]? = some (some v) ∧ ∃ p ys, [v] = [V.ref p] ∧ ((SqL K H' p ys ∧ ∀ l, H' l = none → Q (.ref l) (upd H' l (.tup ys))) ∨ (SqT K H' p ys ∧ Q (.ref p) H')) := fun H' s' hb σ hσ =>
    ⟨_, hσ, a, _, rfl, .inl ⟨s'.seq hS, fun l nl => qQ hb l _ (s'.trans (same_new nl _)) (s'.free nl) upd_same⟩⟩
  -- len(nodes) > MOST_NODES
  refine ⟨_, rfl, _, _, rfl, .inl hS, _, _, rfl, rfl, _, rfl, ?_⟩
  rw [hlm]
  refine both (fun c => ?_) (fun c => ?_)
  · -- too long
    have h1 : 1000 < xs.length := by have := of_decide_eq_true c; omega
    exact iteT (qE (big_long h1) H (Same.refl H))
  · have h1 : ¬ 1000 < xs.length := by have := of_decide_eq_false c; omega
    refine ⟨_, rfl, a, rfl, ⟨_, hS⟩, fun D nD => lc_it (walk_list (xs := xs.map nv)) (fun i H3 => Same H H3 ∧ H3 D = some (.lst (((xs.take i).filterMap numOf).map V.int))) ⟨same_new nD _, upd_same⟩ (fun i H3 _ hp => hp.1.seq hS) ?_ ?_⟩
    · rintro i y H4 H3 hi ⟨sm, eD⟩ ⟨rfl, hy⟩
      rw [hlm] at hi
      have hx : xs[i]? = some xs[i] := List.getElem?_eq_getElem hi
      have ey : y = nv xs[i] := by
        rw [List.getElem?_map, hx] at hy
        exact (Option.some.inj hy).symm
      subst ey
      obtain ⟨ty, k1, k2⟩ := nv_int K H3 xs[i]
      refine ⟨rfl, _, rfl, _, _, ty, _, xs[i].isV, rfl, .ty "int", k1, k2, _, rfl, ?_⟩
      have tk : xs.take (i + 1) = xs.take i ++ [xs[i]] := by rw [List.take_add_one, hx]; rfl
      rw [tk, List.filterMap_append]
      cases e : xs[i] with
      | v n =>
        refine yes rfl ⟨_, rfl, _, eD, sl1000 ?_, same_upd sm nD _, ?_⟩
        · rw [List.length_map]
          have z1 := List.length_filterMap_le numOf (xs.take i)
          rw [List.length_take] at z1
          omega
        · rw [upd_same, List.map_append]
          rfl
      | l => exact noo rfl ⟨sm, by rw [eD]; simp [numOf]⟩
      | a => exact noo rfl ⟨sm, by rw [eD]; simp [numOf]⟩
    · rintro H3 ⟨sm, eD⟩
      rw [hlm, List.take_length] at eD
      refine ⟨D, _, _, rfl, rfl, SqL.of eD, List.length_pos_iff.mpr hne, fun m hm hmax => ?_⟩
      refine ⟨_, _, rfl, rfl, _, rfl, ?_⟩
      have hb := big_of hm hmax h1
      refine both (fun c2 => ?_) (fun c2 => ?_)
      · exact qE (by rw [hb]; exact c2) H3 sm
      · exact fin H3 sm (by rw [hb]; exact c2) _ rfl
end
end K23
namespace K23
open PySem PyProof.Rows PySem.Spec L2
/-! ### the loops over nodes and depths -/
theorem zp_at {t : Tm} {i : Nat} {x y : V} (hx : (tmV t)[i]? = some x) (hy : (ds (dep t 0))[i]? = some y) : ∃ nd d, (zp t 0)[i]? = some (nd, d) ∧ x = nv nd ∧ y = V.int (d : Nat) := by
  rw [List.getElem?_map, Option.map_eq_some_iff] at hx hy
  obtain ⟨nd, h1, rfl⟩ := hx
  obtain ⟨d, h2, rfl⟩ := hy
  exact ⟨nd, d, by unfold zp; rw [List.getElem?_zip_eq_some]; exact ⟨h1, h2⟩, rfl, rfl⟩
theorem take_one_more {α : Type} {l : List α} {i : Nat} {x : α} (h : l[i]? = some x) : l.take (i + 1) = l.take i ++ [x] := by
  rw [List.take_add_one, h]
  rfl
theorem two_len (t : Tm) : (tmV t).length = (ds (dep t 0)).length := by rw [List.length_map, List.length_map, enc_len, dep_len]
theorem flat_take {α β : Type} (f : α → List β) (l : List α) (k : Nat) : ((l.take k).flatMap f).length ≤ (l.flatMap f).length := by
  have e : l.flatMap f = (l.take k).flatMap f ++ (l.drop k).flatMap f := by rw [← List.flatMap_append, List.take_append_drop]
  rw [e, List.length_append]
  omega
theorem enc_num : ∀ t : Tm, (enc t).filterMap numOf ≠ []
  | .var n => by simp [enc, numOf]
  | .lam b => by
    have := enc_num b
    simpa [enc, numOf] using this
  | .app f a => by
    have := enc_num f
    intro h
    rw [enc, List.filterMap_cons] at h
    have h' : (enc f ++ enc a).filterMap numOf = [] := h
    rw [List.filterMap_append, List.append_eq_nil_iff] at h'
    exact this h'.1
theorem lift_size (c : Nat) : ∀ (t : Tm) (d : Nat), (liftT c d t).size = t.size
  | .var n, d => by simp only [liftT]; split <;> rfl
  | .lam b, d => by simp only [liftT, Tm.size, lift_size c b]
  | .app f a, d => by simp only [liftT, Tm.size, lift_size c f, lift_size c a]
/-- a pair is laid, found is written: what stands -/
theorem turn_keep {H H3 : Hp} {T o r : Addr} {x z rr : HO} (sm : Same H H3) (no : H o = none) (er : H3 r = some rr) (nT : H3 T = none) (nro : r ≠ o) : Same H (upd (upd H3 T x) o z) ∧ (upd (upd H3 T x) o z) r = some rr :=
  ⟨same_upd (sm.trans (same_new nT x)) no z, by rw [upd_ne nro, upd_ne (ne_of_none er nT)]; exact er⟩
section
variable {P : Program} {w : World} {K : PySem.W.Frag} {mg : Str → Option Value} {base : Heap} {C : Addr} {fD fL fC fP : Addr} {dD dL dC dP : FuncData}
/-! ### lifted -/
def spLifted (K : PySem.W.Frag) : Sp := fun vs H Q _ => ∃ (a : Addr) (t : Tm) (c : Nat), vs = [.ref a, .int (c : Nat)] ∧ SqT K H a (tmV t) ∧ t.size ≤ 1000 ∧ ∀ r H', Same H H' → H r = none → H' r = some (.tup (tmV (liftT c 0 t))) → Q (.ref r) H'
theorem scLifted : FnScope ["nodes", "count", "found", "node", "depth"] ["nodes", "count"] (defScope sLifted) := ⟨rfl, rfl, rfl, by decide +kernel, rfl, by decide +kernel, by decide +kernel⟩
theorem ok_lifted {f : Addr} {fd : FuncData} (F : Fun K "lifted" "lifted" sLifted f fd) (T : Known K mg C) (GD : FnOk P w K mg base CX0 1 fD dD ["nodes"] (spDepths K)) (DD : Def K mg "depths" fD dD ["nodes"]) :
    FnOk P w K mg base CX0 2 f fd ["nodes", "count"] (spLifted K) := by
  refine F.ok scLifted (fun vs H Q E h => ?_) (fun cdv A outer s H vs Q E hr h => ?_)
  · obtain ⟨a, t, c, rfl, _⟩ := h
    rfl
  obtain ⟨a, t, c, rfl, hT, hsz, q⟩ := h
  refine ⟨_, pss_cons (ps_set (i := 2) scLifted.nd rfl (.inl rfl) (pe_lst pa_nil))
    (pss_cons (ps_for PassesOwn.never rfl (pi_zipM (by rfl) T.zip (pa_cons (pv 0) (pa_cons (pe_call GD hr rfl DD.m DD.k DD.b .nil pass0 (pa_cons (pv 0) pa_nil)) pa_nil)))
        (pg_tup rfl (pgs_cons (pg_name (i := 3) scLifted.nd rfl (.inl rfl)) (pgs_cons (pg_name (i := 4) scLifted.nd rfl (.inl rfl)) pgs_nil)))
      (pss_one (ps_if (PW.pt (pw_and (pt_val (pe_callB call_isi (by rfl) T.isi boot_isi (pa_cons (pv 3) (pa_cons (pe_bltn (v := .ty "int") (by rfl) T.int boot_int rfl) pa_nil)))) (pw_and1 (pt_cmpR op_ge (pv 3) (pv 4) (nomark _)))))
        (pss_one (ps_expr (pe_bm PySem.F.plainAttrs_list PySem.F.slot_list_append PySem.F.type_list_append mt_append (pv 2) (pa_cons (pe_op op_add (pv 3) (pv 1)) pa_nil))))
        (pss_one (ps_expr (pe_bm PySem.F.plainAttrs_list PySem.F.slot_list_append PySem.F.type_list_append mt_append (pv 2) (pa_cons (pv 3) pa_nil)))))))
    (pss_one (ps_ret (pe_callTy call_tuple_of (by rfl) T.tuple boot_tuple (pa_cons (pv 2) pa_nil))))), ?_⟩
  refine ⟨Nat.zero_le _, fun o no => ?_⟩
  have s1 : Same H (upd H o (.lst [])) := same_new no _
  refine ⟨_, rfl, _, rfl, a, t, rfl, same_tup s1 hT, hsz, fun r H1 s2 nr er => ?_⟩
  have nro : r ≠ o := fun e => by
    rw [e, upd_same] at nr
    cases nr
  have s3 := s1.trans s2
  refine ⟨a, r, tmV t, _, rfl, same_tup s3 hT, SqL.of er, for_it (walk_zipM (two_len t)) (fun i σ H3 => ∃ (y3 y4 : Option V), σ = [some (.ref a), some (.int (c : Nat)), some (.ref o), y3, y4] ∧ Same H H3 ∧
      H3 r = some (.lst (ds (dep t 0))) ∧ H3 o = some (.lst ((((zp t 0).take i).map (liftN c)).map nv)))
    ⟨none, none, rfl, s3, er, s2 _ _ upd_same⟩ (fun i σ H3 _ hp => by obtain ⟨_, _, _, sm, er', _⟩ := hp; exact ⟨same_tup sm hT, SqL.of er'⟩) ?_ ?_⟩
  · rintro i z σ H3 H4 hi ⟨y3, y4, rfl, sm, er', eo⟩ ⟨T', x, y, rfl, nT, rfl, hx, hy⟩
    obtain ⟨nd, d, hz, rfl, rfl⟩ := zp_at hx hy
    have eo' : (upd H3 T' (.tup [nv nd, V.int (d : Nat)])) o = some (.lst ((((zp t 0).take i).map (liftN c)).map nv)) := by
      rw [upd_ne (ne_of_none eo nT)]
      exact eo
    have room : ((((zp t 0).take i).map (liftN c)).map nv).length < sizeLine := sl1000 (by
      rw [List.length_map, List.length_map, List.length_take, zp_len]
      omega)
    refine ⟨T', _, rfl, .inl (.inl upd_same), rfl, _, _, rfl, _, _, rfl, rfl, ?_⟩
    obtain ⟨ty, k1, k2⟩ := nv_int K (upd H3 T' (.tup [nv nd, V.int (d : Nat)])) nd
    refine ⟨_, rfl, _, _, ty, _, nd.isV, rfl, .ty "int", k1, k2, _, rfl, ?_⟩
    rw [take_one_more hz, List.map_append, List.map_append]
    cases nd with
    | v n =>
      refine yes rfl ⟨_, rfl, _, rfl, _, _, rfl, rfl, _, rfl, both (fun c1 => ?_) (fun c1 => ?_)⟩
      · have h1 : d ≤ n := by have := of_decide_eq_true c1; omega
        refine ⟨_, rfl, .inl ⟨rfl, _, .inl (.inl eo')⟩, _, rfl, _, rfl, _, _, rfl, rfl, o, _, _, rfl, rfl, eo', room, ?_⟩
        obtain ⟨g1, g2⟩ := turn_keep (x := .tup [nv (.v n), V.int (d : Nat)]) (z := .lst (((((zp t 0).take i).map (liftN c)).map nv) ++ [V.int ((n : Nat) + (c : Nat) : Int)])) sm no er' nT nro
        refine ⟨_, _, rfl, g1, g2, ?_⟩
        rw [upd_same]
        simp only [List.map_cons, List.map_nil, liftN, if_pos h1]
        rfl
      · have h1 : ¬ d ≤ n := by have := of_decide_eq_false c1; omega
        refine ⟨_, rfl, .inl ⟨rfl, _, .inl (.inl eo')⟩, _, rfl, o, _, _, rfl, rfl, eo', room, ?_⟩
        obtain ⟨g1, g2⟩ := turn_keep (x := .tup [nv (.v n), V.int (d : Nat)]) (z := .lst (((((zp t 0).take i).map (liftN c)).map nv) ++ [nv (.v n)])) sm no er' nT nro
        refine ⟨_, _, rfl, g1, g2, ?_⟩
        rw [upd_same]
        simp only [List.map_cons, List.map_nil, liftN, if_neg h1]
    | l =>
      refine noo rfl (iteF ⟨_, rfl, .inl ⟨rfl, _, .inl (.inl eo')⟩, _, rfl, o, _, _, rfl, rfl, eo', room, ?_⟩)
      obtain ⟨g1, g2⟩ := turn_keep (x := .tup [nv .l, V.int (d : Nat)]) (z := .lst (((((zp t 0).take i).map (liftN c)).map nv) ++ [nv .l])) sm no er' nT nro
      exact ⟨_, _, rfl, g1, g2, by rw [upd_same]; rfl⟩
    | a =>
      refine noo rfl (iteF ⟨_, rfl, .inl ⟨rfl, _, .inl (.inl eo')⟩, _, rfl, o, _, _, rfl, rfl, eo', room, ?_⟩)
      obtain ⟨g1, g2⟩ := turn_keep (x := .tup [nv .a, V.int (d : Nat)]) (z := .lst (((((zp t 0).take i).map (liftN c)).map nv) ++ [nv .a])) sm no er' nT nro
      exact ⟨_, _, rfl, g1, g2, by rw [upd_same]; rfl⟩
  · rintro σ H3 ⟨y3, y4, rfl, sm, _, eo⟩
    have e : ((zp t 0).take (tmV t).length).map (liftN c) = enc (liftT c 0 t) := by
      rw [List.length_map, enc_len, ← zp_len t 0, List.take_length, lift_enc]
    rw [e] at eo
    exact ⟨_, rfl, o, _, rfl, .inl ⟨SqL.of eo, fun l nl => q l _ (sm.trans (same_new nl _)) (sm.free nl) upd_same⟩⟩
end
end K23
namespace K23
open PySem PyProof.Rows PySem.Spec L2
section
variable {P : Program} {w : World} {K : PySem.W.Frag} {mg : Str → Option Value} {base : Heap} {C : Addr} {fD fL fC fP : Addr} {dD dL dC dP : FuncData}
/-! ### placed, put -/
def spPlaced (K : PySem.W.Frag) (C : Addr) : Sp := fun vs H Q E => ∃ (a b : Addr) (t v : Tm), vs = [.ref a, .ref b] ∧ SqT K H a (tmV t) ∧ SqT K H b (tmV v) ∧ t.size ≤ 1000 ∧ v.size ≤ 1000 ∧
  (big (enc (putT v 0 t)) = true → ∀ H', Same H H' → E (.ref C) none H') ∧ (big (enc (putT v 0 t)) = false → ∀ r H', Same H H' → H r = none → H' r = some (.tup (tmV (putT v 0 t))) → Q (.ref r) H')
theorem scPlaced : FnScope ["nodes", "value", "found", "node", "depth"] ["nodes", "value"] (defScope sPlaced) := ⟨rfl, rfl, rfl, by decide +kernel, rfl, by decide +kernel, by decide +kernel⟩
theorem ok_placed {f : Addr} {fd : FuncData} (F : Fun K "placed" "placed" sPlaced f fd) (T : Known K mg C) (GD : FnOk P w K mg base CX0 1 fD dD ["nodes"] (spDepths K)) (DD : Def K mg "depths" fD dD ["nodes"])
    (GL : FnOk P w K mg base CX0 2 fL dL ["nodes", "count"] (spLifted K)) (DL : Def K mg "lifted" fL dL ["nodes", "count"]) (GC : FnOk P w K mg base (L2.CX P w) 1 fC dC ["nodes"] (spChecked K C)) (DC : Def K mg "checked" fC dC ["nodes"]) :
    FnOk P w K mg base (L2.CX P w) 3 f fd ["nodes", "value"] (spPlaced K C) := by
  obtain ⟨t1, m1⟩ := T.most
  refine F.okX scPlaced (fun vs H Q E h => ?_) (fun cdv A outer s H vs Q E hr h => ?_)
  · obtain ⟨a, b, t, v, rfl, _⟩ := h
    rfl
  obtain ⟨a, b, t, v, rfl, hT, hV, hsz, hvz, qE, qQ⟩ := h
  have hr1 : Room 1 _ := hr.mono (by decide)
  refine ⟨_, pss_cons (ps_set (i := 2) scPlaced.nd rfl (.inl rfl) (pe_lst pa_nil))
    (pss_cons (ps_for (passes_of rfl) rfl (pi_zipM (by rfl) T.zip (pa_cons (pv 0) (pa_cons (pe_call GD hr1 rfl DD.m DD.k DD.b .nil pass0 (pa_cons (pv 0) pa_nil)) pa_nil)))
        (pg_tup rfl (pgs_cons (pg_name (i := 3) scPlaced.nd rfl (.inl rfl)) (pgs_cons (pg_name (i := 4) scPlaced.nd rfl (.inl rfl)) pgs_nil)))
      (pss_cons (ps_if (PW.pt (pw_or (pt_not (pt_val (pe_callB call_isi (by rfl) T.isi boot_isi (pa_cons (pv 3) (pa_cons (pe_bltn (v := .ty "int") (by rfl) T.int boot_int rfl) pa_nil))))) (pw_or1 (pt_cmpR op_lt (pv 3) (pv 4) (nomark _)))))
        (pss_one (ps_expr (pe_bm PySem.F.plainAttrs_list PySem.F.slot_list_append PySem.F.type_list_append mt_append (pv 2) (pa_cons (pv 3) pa_nil))))
        (pss_one (ps_if (pt_cmpR op_gt (pv 3) (pv 4) (nomark _))
          (pss_one (ps_expr (pe_bm PySem.F.plainAttrs_list PySem.F.slot_list_append PySem.F.type_list_append mt_append (pv 2) (pa_cons (pe_op op_sub (pv 3) pe_int) pa_nil))))
          (pss_one (ps_expr (pe_bm PySem.F.plainAttrs_list PySem.F.slot_list_extend PySem.F.type_list_extend mt_extT (pv 2) (pa_cons (pe_call GL hr rfl DL.m DL.k DL.b .nil pass0 (pa_cons (pv 1) (pa_cons (pv 4) pa_nil))) pa_nil)))))))
      (pss_one (ps_if (pt_cmpR op_gt (pe_callB call_len_seq (by rfl) T.len PySem.boot_len (pa_cons (pv 2) pa_nil)) (pe_glob (v := .int 1000) rfl m1 ⟨_, rfl⟩) (nomark _))
        (pss_one (ps_raise rfl (takes_of rfl rfl rfl rfl) (pmk_own PySem.F.excBase_ValueError T.xC T.gC T.kC (raises_own T.bC T.tC) (by exact rfl)))) pss_nil))))
    (pss_one (ps_ret (pe_callS GC hr1 rfl DC.m DC.k DC.b (fun σ => passAt (takes_of rfl rfl rfl rfl) σ) (pa_cons (pv 2) pa_nil))))), ?_⟩
  refine ⟨Nat.zero_le _, fun o no => ?_⟩
  have s1 : Same H (upd H o (.lst [])) := same_new no _
  refine ⟨_, rfl, _, rfl, a, t, rfl, same_tup s1 hT, hsz, fun r H1 s2 nr er => ?_⟩
  have nro : r ≠ o := fun e => by
    rw [e, upd_same] at nr
    cases nr
  have s3 := s1.trans s2
  refine ⟨a, r, tmV t, _, rfl, same_tup s3 hT, SqL.of er, for_it (walk_zipM (two_len t)) (fun i σ H3 => ∃ (y3 y4 : Option V), σ = [some (.ref a), some (.ref b), some (.ref o), y3, y4] ∧ Same H H3 ∧
      H3 r = some (.lst (ds (dep t 0))) ∧ H3 o = some (.lst ((((zp t 0).take i).flatMap (putN v)).map nv)) ∧ (((zp t 0).take i).flatMap (putN v)).length ≤ 1000)
    ⟨none, none, rfl, s3, er, s2 _ _ upd_same, Nat.zero_le _⟩ (fun i σ H3 _ hp => by obtain ⟨_, _, _, sm, er', _⟩ := hp; exact ⟨same_tup sm hT, SqL.of er'⟩) ?_ ?_⟩
  · rintro i z σ H3 H4 hi ⟨y3, y4, rfl, sm, er', eo, hle⟩ ⟨T', x, y, rfl, nT, rfl, hx, hy⟩
    obtain ⟨nd, d, hz, rfl, rfl⟩ := zp_at hx hy
    have eo' : (upd H3 T' (.tup [nv nd, V.int (d : Nat)])) o = some (.lst ((((zp t 0).take i).flatMap (putN v)).map nv)) := by
      rw [upd_ne (ne_of_none eo nT)]
      exact eo
    have room : ((((zp t 0).take i).flatMap (putN v)).map nv).length < sizeLine := sl1000 (by rw [List.length_map]; omega)
    refine ⟨T', _, rfl, .inl (.inl upd_same), rfl, _, _, rfl, _, _, rfl, rfl, ?_⟩
    -- behind the if: is it too long?
    have nxt : ((zp t 0).take (i + 1)).flatMap (putN v) = ((zp t 0).take i).flatMap (putN v) ++ putN v (nd, d) := by
      rw [take_one_more hz, List.flatMap_append, List.flatMap_cons, List.flatMap_nil, List.append_nil]
    have fin : ∀ (σ : L2.St) (H5 : Hp) (R1 R2 : Prop), σ[2]? = some (some (.ref o)) → H5 o = some (.lst ((((zp t 0).take (i + 1)).flatMap (putN v)).map nv)) → Same H H5 → (E (.ref C) none H5 → R1) → ((((zp t 0).take (i + 1)).flatMap (putN v)).length ≤ 1000 → R2) →
        ∃ u, σ[2]? = some (some u) ∧ ∃ p ys, [u] = [V.ref p] ∧ (SqL K H5 p ys ∨ SqT K H5 p ys) ∧ ∃ i' j', V.int (ys.length : Nat) = V.int i' ∧ V.int 1000 = V.int j' ∧ ∃ k, V.bl (decide (j' < i')) = V.bl k ∧ if k = true then R1 else R2 := fun σ H5 R1 R2 hσ e5 s5 f1 f2 => by
      refine ⟨_, hσ, o, _, rfl, .inl (SqL.of e5), _, _, rfl, rfl, _, rfl, ?_⟩
      rw [List.length_map]
      refine both (fun c1 => ?_) (fun c1 => ?_)
      · have h1 := of_decide_eq_true c1
        refine f1 (qE (big_long ?_) H5 s5)
        have h2 := flat_take (putN v) (zp t 0) (i + 1)
        rw [put_enc] at h2
        omega
      · have h1 := of_decide_eq_false c1
        exact f2 (by omega)
    obtain ⟨ty, k1, k2⟩ := nv_int K (upd H3 T' (.tup [nv nd, V.int (d : Nat)])) nd
    refine ⟨_, rfl, _, _, ty, _, nd.isV, rfl, .ty "int", k1, k2, _, rfl, ?_⟩
    cases nd with
    | v n =>
      refine noo rfl ⟨_, rfl, _, rfl, _, _, rfl, rfl, _, rfl, both (fun c1 => ?_) (fun c1 => ?_)⟩
      · have h1 : n < d := by have := of_decide_eq_true c1; omega
        refine ⟨_, rfl, .inl ⟨rfl, _, .inl (.inl eo')⟩, _, rfl, o, _, _, rfl, rfl, eo', room, ?_⟩
        obtain ⟨g1, g2⟩ := turn_keep (x := .tup [nv (.v n), V.int (d : Nat)]) (z := .lst (((((zp t 0).take i).flatMap (putN v)).map nv) ++ [nv (.v n)])) sm no er' nT nro
        have g3 : (upd (upd H3 T' (.tup [nv (.v n), V.int (d : Nat)])) o (.lst (((((zp t 0).take i).flatMap (putN v)).map nv) ++ [nv (.v n)]))) o = some (.lst ((((zp t 0).take (i + 1)).flatMap (putN v)).map nv)) := by
          rw [upd_same, nxt, List.map_append]
          simp only [putN, if_pos h1, List.map_cons, List.map_nil]
        exact fin _ _ _ _ rfl g3 g1 id fun h => ⟨_, _, rfl, g1, g2, g3, h⟩
      · have h1 : ¬ n < d := by have := of_decide_eq_false c1; omega
        refine ⟨_, rfl, _, rfl, _, _, rfl, rfl, _, rfl, both (fun c2 => ?_) (fun c2 => ?_)⟩
        · have h2 : d < n := by have := of_decide_eq_true c2; omega
          refine ⟨_, rfl, .inl ⟨rfl, _, .inl (.inl eo')⟩, _, rfl, _, _, rfl, rfl, o, _, _, rfl, rfl, eo', room, ?_⟩
          obtain ⟨g1, g2⟩ := turn_keep (x := .tup [nv (.v n), V.int (d : Nat)]) (z := .lst (((((zp t 0).take i).flatMap (putN v)).map nv) ++ [V.int ((n : Nat) - 1 : Int)])) sm no er' nT nro
          have g3 : (upd (upd H3 T' (.tup [nv (.v n), V.int (d : Nat)])) o (.lst (((((zp t 0).take i).flatMap (putN v)).map nv) ++ [V.int ((n : Nat) - 1 : Int)]))) o = some (.lst ((((zp t 0).take (i + 1)).flatMap (putN v)).map nv)) := by
            rw [upd_same, nxt, List.map_append]
            simp only [putN, if_neg h1, if_pos h2, List.map_cons, List.map_nil, nv]
            rw [show ((n : Nat) - 1 : Int) = ((n - 1 : Nat) : Int) by omega]
          exact fin _ _ _ _ rfl g3 g1 id fun h => ⟨_, _, rfl, g1, g2, g3, h⟩
        · have h2 : ¬ d < n := by have := of_decide_eq_false c2; omega
          have sm4 : Same H (upd H3 T' (.tup [nv (.v n), V.int (d : Nat)])) := sm.trans (same_new nT _)
          refine ⟨_, rfl, .inl ⟨rfl, _, .inl (.inl eo')⟩, _, rfl, _, rfl, b, v, d, rfl, same_tup sm4 hV, hvz, fun p H5 s5 np ep => ?_⟩
          have eo5 := s5 _ _ eo'
          have er5 := s5 r _ (by rw [upd_ne (ne_of_none er' nT)]; exact er')
          refine ⟨o, p, _, _, rfl, rfl, eo5, SqT.of ep, ?_, ?_⟩
          · have l1 := lift_size d v 0
            rw [List.length_map, List.length_map, enc_len, l1]
            exact Nat.le_of_lt (sl1000 (by omega))
          · have g1 : Same H (upd H5 o (.lst (((((zp t 0).take i).flatMap (putN v)).map nv) ++ tmV (liftT d 0 v)))) := same_upd (sm4.trans s5) no _
            have g2 : (upd H5 o (.lst (((((zp t 0).take i).flatMap (putN v)).map nv) ++ tmV (liftT d 0 v)))) r = some (.lst (ds (dep t 0))) := by rw [upd_ne nro]; exact er5
            have g3 : (upd H5 o (.lst (((((zp t 0).take i).flatMap (putN v)).map nv) ++ tmV (liftT d 0 v)))) o = some (.lst ((((zp t 0).take (i + 1)).flatMap (putN v)).map nv)) := by
              rw [upd_same, nxt, List.map_append]
              simp only [putN, if_neg h1, if_neg h2]
            exact fin _ _ _ _ rfl g3 g1 id fun h => ⟨_, _, rfl, g1, g2, g3, h⟩
    | l =>
      refine yes rfl (iteT ⟨_, rfl, .inl ⟨rfl, _, .inl (.inl eo')⟩, _, rfl, o, _, _, rfl, rfl, eo', room, ?_⟩)
      obtain ⟨g1, g2⟩ := turn_keep (x := .tup [nv .l, V.int (d : Nat)]) (z := .lst (((((zp t 0).take i).flatMap (putN v)).map nv) ++ [nv .l])) sm no er' nT nro
      have g3 : (upd (upd H3 T' (.tup [nv .l, V.int (d : Nat)])) o (.lst (((((zp t 0).take i).flatMap (putN v)).map nv) ++ [nv .l]))) o = some (.lst ((((zp t 0).take (i + 1)).flatMap (putN v)).map nv)) := by
        rw [upd_same, nxt, List.map_append]
        rfl
      exact fin _ _ _ _ rfl g3 g1 id fun h => ⟨_, _, rfl, g1, g2, g3, h⟩
    | a =>
      refine yes rfl (iteT ⟨_, rfl, .inl ⟨rfl, _, .inl (.inl eo')⟩, _, rfl, o, _, _, rfl, rfl, eo', room, ?_⟩)
      obtain ⟨g1, g2⟩ := turn_keep (x := .tup [nv .a, V.int (d : Nat)]) (z := .lst (((((zp t 0).take i).flatMap (putN v)).map nv) ++ [nv .a])) sm no er' nT nro
      have g3 : (upd (upd H3 T' (.tup [nv .a, V.int (d : Nat)])) o (.lst (((((zp t 0).take i).flatMap (putN v)).map nv) ++ [nv .a]))) o = some (.lst ((((zp t 0).take (i + 1)).flatMap (putN v)).map nv)) := by
        rw [upd_same, nxt, List.map_append]
        rfl
      exact fin _ _ _ _ rfl g3 g1 id fun h => ⟨_, _, rfl, g1, g2, g3, h⟩
  · rintro σ H3 ⟨y3, y4, rfl, sm, _, eo, hle⟩
    have e : ((zp t 0).take (tmV t).length).flatMap (putN v) = enc (putT v 0 t) := by
      rw [List.length_map, enc_len, ← zp_len t 0, List.take_length, put_enc]
    rw [e] at eo hle
    exact ⟨_, rfl, o, enc (putT v 0 t), rfl, SqL.of eo, by omega, enc_num _, fun hb H' s' => qE hb H' (sm.trans s'), fun hb p H' s' np ep => qQ hb p H' (sm.trans s') (sm.free np) ep⟩
theorem scPut : FnScope ["term", "value"] ["term", "value"] (defScope sPut) := ⟨rfl, rfl, rfl, by decide +kernel, rfl, by decide +kernel, by decide +kernel⟩
theorem ok_put {f : Addr} {fd : FuncData} (F : Fun K "put" "put" sPut f fd) (GP : FnOk P w K mg base (L2.CX P w) 3 fP dP ["nodes", "value"] (spPlaced K C)) (DP : Def K mg "placed" fP dP ["nodes", "value"]) :
    FnOk P w K mg base (L2.CX P w) 4 f fd ["term", "value"] (spPlaced K C) := by
  refine F.okX scPut (fun vs H Q E h => ?_) (fun cdv A outer s H vs Q E hr h => ?_)
  · obtain ⟨a, b, t, v, rfl, _⟩ := h
    rfl
  obtain ⟨a, b, t, v, rfl, hh⟩ := h
  exact ⟨_, pss_one (ps_ret (pe_callS GP hr rfl DP.m DP.k DP.b (fun σ => passAt (takes_of rfl rfl rfl rfl) σ) (pa_cons (pv 0) (pa_cons (pv 1) pa_nil)))), _, rfl, _, rfl, a, b, t, v, rfl, hh⟩
end
end K23
namespace K23
open PySem PyProof.Rows PySem.Spec L2
/-! ### places as texts -/
def code : Dir → Nat
  | .b => 98
  | .f => 102
  | .a => 97
def pstr (p : List Dir) : Str := ⟨(p.map code).toArray⟩
theorem pstr_len (p : List Dir) : (pstr p).length = p.length := by
  show (p.map code).toArray.size = p.length
  simp
theorem pstr_add (p : List Dir) (d : Dir) (s : Str) (h : s = ⟨#[code d]⟩) : pstr p ++ s = pstr (p ++ [d]) := by
  subst h
  show Str.append (pstr p) ⟨#[code d]⟩ = pstr (p ++ [d])
  simp [Str.append, pstr]
theorem code_inj : ∀ {c d : Dir}, code c = code d → c = d
  | .b, .b, _ => rfl
  | .f, .f, _ => rfl
  | .a, .a, _ => rfl
  | .b, .f, h => absurd h (by decide)
  | .b, .a, h => absurd h (by decide)
  | .f, .b, h => absurd h (by decide)
  | .f, .a, h => absurd h (by decide)
  | .a, .b, h => absurd h (by decide)
  | .a, .f, h => absurd h (by decide)
theorem codes_inj : ∀ {p q : List Dir}, p.map code = q.map code → p = q
  | [], [], _ => rfl
  | [], _ :: _, h => nomatch h
  | _ :: _, [], h => nomatch h
  | c :: p, d :: q, h => by
    exact congr (congrArg List.cons (code_inj (List.cons.inj h).1)) (codes_inj (List.cons.inj h).2)
theorem pstr_inj {p q : List Dir} (h : pstr p = pstr q) : p = q := codes_inj (by
  have := congrArg (fun s : Str => s.cps.toList) h
  simpa [pstr] using this)
abbrev sa : Str := "a"
theorem str_a : (Str.ofString "a") = ⟨#[code .a]⟩ := by decide +kernel
theorem str_f : (Str.ofString "f") = ⟨#[code .f]⟩ := by decide +kernel
theorem str_b : (Str.ofString "b") = ⟨#[code .b]⟩ := by decide +kernel
theorem str_e : (Str.ofString "") = pstr [] := by decide +kernel
theorem let_a : ∀ d : Dir, decide (V.str ⟨#[code d]⟩ = V.str "a") = decide (d = .a)
  | .a => by decide +kernel
  | .b => by decide +kernel
  | .f => by decide +kernel
theorem let_f : ∀ d : Dir, decide (V.str ⟨#[code d]⟩ = V.str "f") = decide (d = .f)
  | .a => by decide +kernel
  | .b => by decide +kernel
  | .f => by decide +kernel
theorem let_b : ∀ d : Dir, decide (V.str ⟨#[code d]⟩ = V.str "b") = decide (d = .b)
  | .a => by decide +kernel
  | .b => by decide +kernel
  | .f => by decide +kernel
abbrev ps (l : List (List Dir)) : List V := l.map fun p => V.str (pstr p)
section
variable {P : Program} {w : World} {K : PySem.W.Frag} {mg : Str → Option Value} {base : Heap} {C : Addr} {fE : Addr} {dE : FuncData}
/-! ### placed_nodes -/
def spPlNodes (K : PySem.W.Frag) : Sp := fun vs H Q _ => ∃ (a : Addr) (t : Tm), vs = [.ref a] ∧ SqT K H a (tmV t) ∧ t.size ≤ 1000 ∧ ∀ r H', Same H H' → H r = none → H' r = some (.lst (ps (plc t []))) → Q (.ref r) H'
theorem scPlNodes : FnScope ["nodes", "found", "waiting", "node", "place"] ["nodes"] (defScope sPlNodes) := ⟨rfl, rfl, rfl, by decide +kernel, rfl, by decide +kernel, by decide +kernel⟩
theorem kidsP_len (u : Tm) (d : List Dir) : (kidsP u d).length ≤ 2 := by cases u <;> simp [kidsP]
theorem kidsP_bound {u : Tm} {d : List Dir} {N : Nat} (h : d.length + u.size ≤ N) : ∀ x ∈ kidsP u d, x.2.length + x.1.size ≤ N := by
  intro x hx
  cases u with
  | var n => simp [kidsP] at hx
  | lam b =>
    simp only [kidsP, List.mem_singleton] at hx
    subst hx
    simp only [List.length_append, List.length_singleton, Tm.size] at h ⊢
    omega
  | app f a =>
    simp only [kidsP, List.mem_cons, List.not_mem_nil, or_false] at hx
    rcases hx with rfl | rfl <;> (simp only [List.length_append, List.length_singleton, Tm.size] at h ⊢; omega)
theorem ok_plnodes {f : Addr} {fd : FuncData} {k : Nat} (F : Fun K "placed_nodes" "placed_nodes" sPlNodes f fd) (T : Known K mg C) : FnOk P w K mg base CX0 (k + 1) f fd ["nodes"] (spPlNodes K) := by
  refine F.ok scPlNodes (fun vs H Q E h => ?_) (fun cdv A outer s H vs Q E hr h => ?_)
  · obtain ⟨a, t, rfl, _⟩ := h
    rfl
  obtain ⟨a, t, rfl, hT, hsz, q⟩ := h
  refine ⟨_, pss_cons (ps_set (i := 1) scPlNodes.nd rfl (.inl rfl) (pe_lst pa_nil))
    (pss_cons (ps_set (i := 2) scPlNodes.nd rfl (.inl rfl) (pe_lst (pa_cons pe_str pa_nil)))
    (pss_cons (ps_for PassesOwn.never rfl (pi_tup (pv 0)) (pg_name (i := 3) scPlNodes.nd rfl (.inl rfl))
      (pss_cons (ps_set (i := 4) scPlNodes.nd rfl (.inl rfl) (pe_bm0 PySem.F.plainAttrs_list PySem.F.slot_list_pop PySem.F.type_list_pop mt_pop (pv 2)))
      (pss_cons (ps_expr (pe_bm PySem.F.plainAttrs_list PySem.F.slot_list_append PySem.F.type_list_append mt_append (pv 1) (pa_cons (pv 4) pa_nil)))
      (pss_one (ps_if (pt_cmpR op_eq (pv 3) pe_str (nomark _))
        (pss_cons (ps_expr (pe_bm PySem.F.plainAttrs_list PySem.F.slot_list_append PySem.F.type_list_append mt_append (pv 2) (pa_cons (pe_op op_add_str (pv 4) pe_str) pa_nil)))
          (pss_one (ps_expr (pe_bm PySem.F.plainAttrs_list PySem.F.slot_list_append PySem.F.type_list_append mt_append (pv 2) (pa_cons (pe_op op_add_str (pv 4) pe_str) pa_nil)))))
        (pss_one (ps_if (pt_not (pt_val (pe_callB call_isi (by rfl) T.isi boot_isi (pa_cons (pv 3) (pa_cons (pe_bltn (v := .ty "int") (by rfl) T.int boot_int rfl) pa_nil)))))
          (pss_one (ps_expr (pe_bm PySem.F.plainAttrs_list PySem.F.slot_list_append PySem.F.type_list_append mt_append (pv 2) (pa_cons (pe_op op_add_str (pv 4) pe_str) pa_nil))))
          pss_nil)))))))
    (pss_one (ps_ret (pv 1))))), ?_⟩
  refine ⟨Nat.zero_le _, fun o no => ⟨by show 1 ≤ sizeLine; decide, fun x nx => ?_⟩⟩
  have s1 : Same H (upd H o (.lst [])) := same_new no _
  have s2 := s1.trans (same_new nx (.lst [.str (Str.ofString "")]))
  have nxo : x ≠ o := fun e => by
    rw [e, upd_same] at nx
    cases nx
  have nxH : H x = none := s1.free nx
  refine ⟨_, rfl, a, rfl, ⟨_, same_tup s2 hT⟩, for_it (walk_tup (xs := tmV t)) (fun i σ H3 => ∃ (y3 y4 : Option V) (pre : List Nd) (dn : List (List Dir)) (fs : List (Tm × List Dir)),
      σ = [some (.ref a), some (.ref o), some (.ref x), y3, y4] ∧ enc t = pre ++ flat fs ∧ pre.length = i ∧ plc t [] = dn ++ plcF fs ∧ dn.length = i ∧ fs.length ≤ i + 1 ∧ (∀ z ∈ fs, z.2.length + z.1.size ≤ t.size) ∧
      Same H H3 ∧ H3 o = some (.lst (ps dn)) ∧ H3 x = some (.lst (ps (fs.map (·.2)).reverse)))
    ⟨none, none, [], [], [(t, [])], rfl, by simp [flat], rfl, by simp [plcF], rfl, by simp, by simp, s2, by rw [upd_ne nxo.symm, upd_same]; rfl, by rw [upd_same, str_e]; rfl⟩
    (fun i σ H3 _ hp => by obtain ⟨_, _, _, _, _, _, _, _, _, _, _, _, sm, _⟩ := hp; exact same_tup sm hT) ?_ ?_⟩
  · rintro i y σ H4 H3 hi ⟨y3, y4, pre, dn, fs, rfl, e1, e2, e3, e4, e5, eb, sm, eo, ex⟩ ⟨rfl, hy⟩
    obtain ⟨u, d, r, rfl, rfl⟩ := flat_next e1 e2 hy
    have hlen : (tmV t).length ≤ 1000 := by rw [List.length_map, enc_len]; exact hsz
    have hd0 : d.length + u.size ≤ t.size := eb (u, d) List.mem_cons_self
    have hup := size_pos u
    -- place = waiting.pop()
    have hl : (ps (((u, d) :: r).map (·.2)).reverse) = ps (r.map (·.2)).reverse ++ [V.str (pstr d)] := by simp [ps]
    rw [hl] at ex
    refine ⟨_, rfl, .inl ⟨rfl, _, .inl (.inl ex)⟩, x, _, V.str (pstr d), rfl, rfl, ex, by simp, ?_⟩
    rw [List.dropLast_concat]
    -- found.append(place)
    refine ⟨_, rfl, .inl ⟨rfl, _, .inl (.inl (by rw [upd_ne nxo.symm]; exact eo))⟩, _, rfl, o, _, _, rfl, rfl, (by rw [upd_ne nxo.symm]; exact eo), sl1000 (by simp [ps]; omega), ?_⟩
    have fin : ∀ H5 : Hp, (∀ b, b ≠ o → b ≠ x → H5 b = H3 b) → H5 o = some (.lst (ps dn ++ [V.str (pstr d)])) → H5 x = some (.lst (ps ((kidsP u d ++ r).map (·.2)).reverse)) →
        (∃ (y3' y4' : Option V) (pre' : List Nd) (dn' : List (List Dir)) (fs' : List (Tm × List Dir)), [some (V.ref a), some (.ref o), some (.ref x), some (nv (hd u)), some (V.str (pstr d))] = [some (V.ref a), some (.ref o), some (.ref x), y3', y4'] ∧ enc t = pre' ++ flat fs' ∧ pre'.length = i + 1 ∧
          plc t [] = dn' ++ plcF fs' ∧ dn'.length = i + 1 ∧ fs'.length ≤ i + 1 + 1 ∧ (∀ z ∈ fs', z.2.length + z.1.size ≤ t.size) ∧ Same H H5 ∧ H5 o = some (.lst (ps dn')) ∧ H5 x = some (.lst (ps (fs'.map (·.2)).reverse))) := fun H5 k1 k2 k3 => by
      refine ⟨_, _, pre ++ [hd u], dn ++ [d], kidsP u d ++ r, rfl, by rw [e1, flat_kidsP]; simp, by simp [e2], by rw [e3, plcF_kids]; simp, by simp [e4], ?_, fun z hz => ?_, fun b z e => ?_, by rw [k2]; simp [ps], k3⟩
      · have := kidsP_len u d
        simp only [List.length_cons, List.length_append] at e5 ⊢
        omega
      · rcases List.mem_append.mp hz with hz | hz
        · exact kidsP_bound hd0 z hz
        · exact eb z (List.mem_cons_of_mem _ hz)
      · rw [k1 b (ne_of_none e no) (ne_of_none e nxH)]
        exact sm b z e
    have er : r.length ≤ i := by simp only [List.length_cons] at e5; omega
    have hx5 : (upd (upd H3 x (.lst (ps (r.map (·.2)).reverse))) o (.lst (ps dn ++ [V.str (pstr d)]))) x = some (.lst (ps (r.map (·.2)).reverse)) := by rw [upd_ne nxo, upd_same]
    have room : ∀ s : Str, s.length ≤ 1 → (pstr d).length + s.length ≤ sizeLine := fun s hs => by
      rw [pstr_len]
      exact Nat.le_of_lt (sl1000 (by omega))
    have ra : (Str.ofString "a").length ≤ 1 := by rw [str_a]; exact Nat.le_refl 1
    have rf : (Str.ofString "f").length ≤ 1 := by rw [str_f]; exact Nat.le_refl 1
    have rb : (Str.ofString "b").length ≤ 1 := by rw [str_b]; exact Nat.le_refl 1
    refine ⟨_, rfl, scal_nv _ _, _, rfl, ?_⟩
    rw [is_app]
    cases u with
    | var n =>
      refine noo rfl ?_
      obtain ⟨ty, h1, h2⟩ := nv_int K (upd (upd H3 x (.lst (ps (r.map (·.2)).reverse))) o (.lst (ps dn ++ [V.str (pstr d)]))) (.v n)
      refine ⟨_, rfl, _, _, ty, _, true, rfl, .ty "int", h1, h2, _, rfl, noo rfl ?_⟩
      exact fin _ (fun b b1 b2 => by rw [upd_ne b1, upd_ne b2]) upd_same hx5
    | lam c =>
      refine noo rfl ?_
      obtain ⟨ty, h1, h2⟩ := nv_int K (upd (upd H3 x (.lst (ps (r.map (·.2)).reverse))) o (.lst (ps dn ++ [V.str (pstr d)]))) .l
      refine ⟨_, rfl, _, _, ty, _, false, rfl, .ty "int", h1, h2, _, rfl, yes rfl ?_⟩
      refine ⟨_, rfl, .inl ⟨rfl, _, .inl (.inl hx5)⟩, _, rfl, _, _, rfl, rfl, room _ rb, x, _, _, rfl, rfl, hx5, sl1000 (by simp [ps]; omega), ?_⟩
      refine fin _ (fun b b1 b2 => by rw [upd_ne b2, upd_ne b1, upd_ne b2]) (by rw [upd_ne nxo.symm, upd_same]) ?_
      rw [upd_same, pstr_add d .b _ str_b]
      simp [ps, kidsP]
    | app g c =>
      refine yes rfl ?_
      refine ⟨_, rfl, .inl ⟨rfl, _, .inl (.inl hx5)⟩, _, rfl, _, _, rfl, rfl, room _ ra, x, _, _, rfl, rfl, hx5, sl1000 (by simp [ps]; omega), ?_⟩
      refine ⟨_, rfl, .inl ⟨rfl, _, .inl (.inl upd_same)⟩, _, rfl, _, _, rfl, rfl, room _ rf, x, _, _, rfl, rfl, upd_same, sl1000 (by simp [ps]; omega), ?_⟩
      refine fin _ (fun b b1 b2 => by rw [upd_ne b2, upd_ne b2, upd_ne b1, upd_ne b2]) (by rw [upd_ne nxo.symm, upd_ne nxo.symm, upd_same]) ?_
      rw [upd_same, pstr_add d .a _ str_a, pstr_add d .f _ str_f]
      simp [ps, kidsP]
  · rintro σ H3 ⟨y3, y4, pre, dn, fs, rfl, e1, e2, e3, e4, e5, eb, sm, eo, ex⟩
    have hf := flat_end e1 (by rw [e2, List.length_map, enc_len])
    subst hf
    refine ⟨_, rfl, q o H3 sm no ?_⟩
    rw [eo, e3]
    simp [plcF]
/-! ### index_of -/
def spIndexOf (K : PySem.W.Frag) : Sp := fun vs H Q _ => ∃ (a : Addr) (t : Tm) (p : List Dir) (i : Nat), vs = [.ref a, .str (pstr p)] ∧ SqT K H a (tmV t) ∧ ixOf t p = some i ∧ Q (.int (i : Nat)) H
theorem scIndexOf : FnScope ["nodes", "place", "at", "letter", "node"] ["nodes", "place"] (defScope sIndexOf) := ⟨rfl, rfl, rfl, by decide +kernel, rfl, by decide +kernel, by decide +kernel⟩
theorem ok_index {f : Addr} {fd : FuncData} (F : Fun K "index_of" "index_of" sIndexOf f fd) (T : Known K mg C) (GE : FnOk P w K mg base CX0 1 fE dE ["nodes", "start"] (spEndOf K)) (DE : Def K mg "end_of" fE dE ["nodes", "start"]) :
    FnOk P w K mg base CX0 2 f fd ["nodes", "place"] (spIndexOf K) := by
  refine F.ok scIndexOf (fun vs H Q E h => ?_) (fun cdv A outer s H vs Q E hr h => ?_)
  · obtain ⟨a, t, p, i, rfl, _⟩ := h
    rfl
  obtain ⟨a, t, p, tot, rfl, hT, hix, q⟩ := h
  refine ⟨_, pss_cons (ps_set (i := 2) scIndexOf.nd rfl (.inl rfl) pe_int)
    (pss_cons (ps_for PassesOwn.never rfl (pi_str (pv 1)) (pg_name (i := 3) scIndexOf.nd rfl (.inl rfl))
      (pss_cons (ps_set (i := 4) scIndexOf.nd rfl (.inl rfl) (pe_ix ix_tup (pv 0) (pv 2) (fun _ _ => rfl)))
      (pss_cons (ps_if (pt_val (pe_callB call_isi (by rfl) T.isi boot_isi (pa_cons (pv 4) (pa_cons (pe_bltn (v := .ty "int") (by rfl) T.int boot_int rfl) pa_nil)))) (pss_one (ps_ret (pe_un un_neg pe_int))) pss_nil)
      (pss_one (ps_if (PW.pt (pw_and (pt_cmpR op_eq (pv 4) pe_str (nomark _)) (pw_and1 (pt_cmpR op_eq (pv 3) pe_str (nomark _)))))
        (pss_one (ps_set (i := 2) scIndexOf.nd rfl (.inl rfl) (pe_call GE hr rfl DE.m DE.k DE.b .nil pass0 (pa_cons (pv 0) (pa_cons (pe_op op_add (pv 2) pe_int) pa_nil)))))
        (pss_one (ps_if (PW.pt (pw_or (PW.pt (pw_and (pt_cmpR op_eq (pv 4) pe_str (nomark _)) (pw_and1 (pt_cmpR op_eq (pv 3) pe_str (nomark _)))))
            (pw_or1 (PW.pt (pw_and (pt_cmpR op_ne (pv 4) pe_str (nomark _)) (pw_and1 (pt_cmpR op_eq (pv 3) pe_str (nomark _))))))))
          (pss_one (ps_aug (i := 2) scIndexOf.nd rfl (.inl rfl) pe_int ip_add))
          (pss_one (ps_ret (pe_un un_neg pe_int))))))))))
    (pss_one (ps_ret (pv 2)))), ?_⟩
  have hn : (pstr p).cps.size = p.length := pstr_len p
  refine ⟨_, rfl, _, rfl, for_it walk_str (fun i σ H3 => H3 = H ∧ ∃ (pre post : List Nd) (u : Tm) (j : Nat) (y3 y4 : Option V), σ = [some (.ref a), some (.str (pstr p)), some (.int (pre.length : Nat)), y3, y4] ∧
      enc t = pre ++ (enc u ++ post) ∧ ixOf u (p.drop i) = some j ∧ pre.length + j = tot)
    ⟨rfl, [], [], t, tot, none, none, rfl, by simp, hix, by simp⟩ (fun _ _ _ _ _ => trivial) ?_ ?_⟩
  · rintro i y σ H4 H3 hi ⟨rfl, pre, post, u, j, y3, y4, rfl, e1, e2, e3⟩ ⟨rfl, c, hc, rfl⟩
    rw [hn] at hi
    have hp : p.drop i = p[i] :: p.drop (i + 1) := List.drop_eq_getElem_cons hi
    have ec : c = code p[i] := by
      have h1 : (p.map code)[i]? = some c := by simpa [pstr] using hc
      rw [List.getElem?_map, List.getElem?_eq_getElem hi] at h1
      exact Option.some.inj h1.symm
    subst ec
    rw [hp] at e2
    generalize p[i] = d at e2
    have fin : ∀ (pre' post' : List Nd) (u' : Tm) (j' : Nat) (z : Int) (y4' : Option V), z = (pre'.length : Nat) → enc t = pre' ++ (enc u' ++ post') → ixOf u' (p.drop (i + 1)) = some j' → pre'.length + j' = tot →
        (H3 = H3 ∧ ∃ (pre post : List Nd) (u : Tm) (j : Nat) (y3 y4 : Option V), [some (V.ref a), some (V.str (pstr p)), some (V.int z), some (V.str ⟨#[code d]⟩), y4'] = [some (V.ref a), some (.str (pstr p)), some (.int (pre.length : Nat)), y3, y4] ∧
          enc t = pre ++ (enc u ++ post) ∧ ixOf u (p.drop (i + 1)) = some j ∧ pre.length + j = tot) := fun pre' post' u' j' z y4' hz h1 h2 h3 => by subst hz; exact ⟨rfl, pre', post', u', j', _, y4', rfl, h1, h2, h3⟩
    cases u with
    | var n => cases d <;> simp [ixOf] at e2
    | lam b =>
      cases d with
      | f => simp [ixOf] at e2
      | a => simp [ixOf] at e2
      | b =>
        simp only [ixOf, Option.map_eq_some_iff] at e2
        obtain ⟨j', h', rfl⟩ := e2
        have e1' : enc t = pre ++ .l :: (enc b ++ post) := e1
        refine ⟨_, rfl, _, rfl, a, _, _, _, rfl, rfl, hT, (by unfold tmV; rw [e1']; exact at_mid), ?_⟩
        obtain ⟨ty, k1, k2⟩ := nv_int K H3 .l
        refine ⟨_, rfl, _, _, ty, _, false, rfl, .ty "int", k1, k2, _, rfl, noo rfl ?_⟩
        refine ⟨_, rfl, scal_nv _ _, _, rfl, ?_⟩
        rw [is_app]
        refine noo rfl (iteF ⟨_, rfl, scal_nv _ _, _, rfl, ?_⟩)
        rw [is_app]
        refine noo rfl (iteF ⟨_, rfl, scal_nv _ _, _, rfl, ?_⟩)
        rw [is_app]
        refine yes rfl ⟨_, rfl, rfl, _, rfl, ?_⟩
        rw [let_b]
        refine yes rfl ⟨_, rfl, _, _, rfl, rfl, ?_⟩
        exact fin (pre ++ [.l]) post b j' _ _ (by simp) (by rw [e1']; simp) h' (by simp; omega)
    | app g c =>
      have e1' : enc t = pre ++ .a :: (enc g ++ (enc c ++ post)) := by rw [e1]; simp [enc]
      cases d with
      | b => simp [ixOf] at e2
      | f =>
        simp only [ixOf, Option.map_eq_some_iff] at e2
        obtain ⟨j', h', rfl⟩ := e2
        refine ⟨_, rfl, _, rfl, a, _, _, _, rfl, rfl, hT, (by unfold tmV; rw [e1']; exact at_mid), ?_⟩
        obtain ⟨ty, k1, k2⟩ := nv_int K H3 .a
        refine ⟨_, rfl, _, _, ty, _, false, rfl, .ty "int", k1, k2, _, rfl, noo rfl ?_⟩
        refine ⟨_, rfl, scal_nv _ _, _, rfl, ?_⟩
        rw [is_app]
        refine yes rfl ⟨_, rfl, rfl, _, rfl, ?_⟩
        rw [let_a]
        refine noo rfl ⟨_, rfl, scal_nv _ _, _, rfl, ?_⟩
        rw [is_app]
        refine yes rfl ⟨_, rfl, rfl, _, rfl, ?_⟩
        rw [let_f]
        refine yes rfl (iteT ⟨_, rfl, _, _, rfl, rfl, ?_⟩)
        exact fin (pre ++ [.a]) (enc c ++ post) g j' _ _ (by simp) (by rw [e1']; simp) h' (by simp; omega)
      | a =>
        simp only [ixOf, Option.map_eq_some_iff] at e2
        obtain ⟨j', h', rfl⟩ := e2
        refine ⟨_, rfl, _, rfl, a, _, _, _, rfl, rfl, hT, (by unfold tmV; rw [e1']; exact at_mid), ?_⟩
        obtain ⟨ty, k1, k2⟩ := nv_int K H3 .a
        refine ⟨_, rfl, _, _, ty, _, false, rfl, .ty "int", k1, k2, _, rfl, noo rfl ?_⟩
        refine ⟨_, rfl, scal_nv _ _, _, rfl, ?_⟩
        rw [is_app]
        refine yes rfl ⟨_, rfl, rfl, _, rfl, ?_⟩
        rw [let_a]
        refine yes rfl ⟨_, rfl, _, rfl, _, _, rfl, rfl, a, g, pre ++ [.a], enc c ++ post, ?_, ?_, ?_⟩
        · simp
        · rw [show (pre ++ [Nd.a] ++ (enc g ++ (enc c ++ post))) = enc t by rw [e1']; simp]
          exact hT
        · exact fin (pre ++ [.a] ++ enc g) post c j' _ _ (by simp [enc_len]; omega) (by rw [e1']; simp) h' (by simp [enc_len]; omega)
  · rintro σ H3 ⟨rfl, pre, post, u, j, y3, y4, rfl, e1, e2, e3⟩
    rw [hn, List.drop_length] at e2
    have ej : j = 0 := by
      cases u <;> (simp only [ixOf, Option.some.injEq] at e2; exact e2.symm)
    refine ⟨_, rfl, ?_⟩
    rw [show pre.length = tot by omega]
    exact q
end
end K23
namespace K23
open PySem PyProof.Rows PySem.Spec L2
/-! ### behind an application stands a node -/
theorem last_var : ∀ u : Tm, (enc u)[u.size - 1]? ≠ some .a
  | .var n => by simp [enc, Tm.size]
  | .lam b => by
    have hp := size_pos b
    have ih := last_var b
    simp only [enc, Tm.size]
    rw [show b.size + 1 - 1 = (b.size - 1) + 1 by omega, List.getElem?_cons_succ]
    exact ih
  | .app g c => by
    have hp := size_pos c
    have ih := last_var c
    simp only [enc, Tm.size]
    rw [show g.size + c.size + 1 - 1 = (g.size + (c.size - 1)) + 1 by omega, List.getElem?_cons_succ, List.getElem?_append_right (by rw [enc_len]; omega), enc_len, show g.size + (c.size - 1) - g.size = c.size - 1 by omega]
    exact ih
theorem app_next {t : Tm} {i : Nat} (h : (enc t)[i]? = some .a) : ∃ y, (enc t)[i + 1]? = some y := by
  have hi := (List.getElem?_eq_some_iff.mp h).1
  rw [enc_len] at hi
  have hl : i ≠ t.size - 1 := fun e => last_var t (by rw [← e]; exact h)
  have h2 : i + 1 < (enc t).length := by rw [enc_len]; omega
  exact ⟨_, List.getElem?_eq_getElem h2⟩
/-- is there a redex at the index -/
def rdxAt (xs : List Nd) (i : Nat) : Bool := decide (xs[i]? = some .a) && decide (xs[i + 1]? = some .l)
section
variable {P : Program} {w : World} {K : PySem.W.Frag} {mg : Str → Option Value} {base : Heap} {C : Addr} {fE fN fR fI fP fS : Addr} {dE dN dR dI dP dS : FuncData}
/-! ### is_redex -/
def spIsRedex (K : PySem.W.Frag) : Sp := fun vs H Q _ => ∃ (a : Addr) (xs : List Nd) (i : Nat) (x : Nd), vs = [.ref a, .int (i : Nat)] ∧ SqT K H a (xs.map nv) ∧ xs[i]? = some x ∧ (x = .a → ∃ y, xs[i + 1]? = some y) ∧ Q (.bl (rdxAt xs i)) H
theorem scIsRedex : FnScope ["nodes", "at"] ["nodes", "at"] (defScope sIsRedex) := ⟨rfl, rfl, rfl, by decide +kernel, rfl, by decide +kernel, by decide +kernel⟩
theorem at_nv {xs : List Nd} {i : Nat} {x : Nd} (h : xs[i]? = some x) : atI (xs.map nv) ((i : Nat) : Int) = some (nv x) := atI_nat (by rw [List.getElem?_map, h]; rfl)
theorem ok_isredex {f : Addr} {fd : FuncData} {k : Nat} (F : Fun K "is_redex" "is_redex" sIsRedex f fd) (T : Known K mg C) : FnOk P w K mg base CX0 (k + 1) f fd ["nodes", "at"] (spIsRedex K) := by
  refine F.ok scIsRedex (fun vs H Q E h => ?_) (fun cdv A outer s H vs Q E hr h => ?_)
  · obtain ⟨a, xs, i, x, rfl, _⟩ := h
    rfl
  obtain ⟨a, xs, i, x, rfl, hT, hx, hn, q⟩ := h
  refine ⟨_, pss_one (ps_ret (pe_and (pe_cmpR op_eq (pe_ix ix_tup (pv 0) (pv 1) (fun _ _ => rfl)) pe_str (nomark _)) (pe_and (pe_cmpR op_ne (pe_ix ix_tup (pv 0) (pe_op op_add (pv 1) pe_int) (fun _ _ => rfl)) pe_str (nomark _))
    (pe_one (pe_not (pe_callB call_isi (by rfl) T.isi boot_isi (pa_cons (pe_ix ix_tup (pv 0) (pe_op op_add (pv 1) pe_int) (fun _ _ => rfl)) (pa_cons (pe_bltn (v := .ty "int") (by rfl) T.int boot_int rfl) pa_nil)))))))), ?_⟩
  refine ⟨_, rfl, _, rfl, a, _, _, _, rfl, rfl, hT, at_nv hx, scal_nv _ _, _, rfl, ?_⟩
  rw [is_app]
  by_cases ha : x = .a
  · obtain ⟨y, hy⟩ := hn ha
    have e1 : decide (xs[i]? = some Nd.a) = true := decide_eq_true (by rw [hx, ha])
    refine yes (decide_eq_true ha) ⟨_, rfl, _, rfl, _, _, rfl, rfl, a, _, _, _, rfl, rfl, hT, at_nv hy, scal_nv _ _, _, rfl, ?_⟩
    rw [is_app]
    unfold rdxAt at q
    rw [e1, Bool.true_and, hy] at q
    cases y with
    | a => exact noo rfl q
    | v n =>
      obtain ⟨ty, k1, k2⟩ := nv_int K H (.v n)
      exact yes rfl ⟨_, rfl, _, rfl, _, _, rfl, rfl, a, _, _, _, rfl, rfl, hT, at_nv hy, _, _, ty, _, true, rfl, .ty "int", k1, k2, _, rfl, q⟩
    | l =>
      obtain ⟨ty, k1, k2⟩ := nv_int K H .l
      exact yes rfl ⟨_, rfl, _, rfl, _, _, rfl, rfl, a, _, _, _, rfl, rfl, hT, at_nv hy, _, _, ty, _, false, rfl, .ty "int", k1, k2, _, rfl, q⟩
  · have e1 : decide (xs[i]? = some Nd.a) = false := decide_eq_false (by rw [hx]; exact fun e => ha (Option.some.inj e))
    refine noo (decide_eq_false ha) ?_
    unfold rdxAt at q
    rw [e1, Bool.false_and] at q
    exact q
/-! ### redexes -/
def spRedexes (K : PySem.W.Frag) : Sp := fun vs H Q _ => ∃ (a : Addr) (t : Tm), vs = [.ref a] ∧ SqT K H a (tmV t) ∧ t.size ≤ 1000 ∧
  ∀ r H' l, Same H H' → H r = none → H' r = some (.lst (ps l)) → (∀ p, p ∈ l ↔ ∃ u, stepT t p = some u) → l.length ≤ 1000 → Q (.ref r) H'
theorem scRedexes : FnScope ["term", "found", "at", "place"] ["term"] (defScope sRedexes) := ⟨rfl, rfl, rfl, by decide +kernel, rfl, by decide +kernel, by decide +kernel⟩
theorem ok_redexes {f : Addr} {fd : FuncData} (F : Fun K "redexes" "redexes" sRedexes f fd) (T : Known K mg C) (GN : FnOk P w K mg base CX0 1 fN dN ["nodes"] (spPlNodes K)) (DN : Def K mg "placed_nodes" fN dN ["nodes"])
    (GR : FnOk P w K mg base CX0 1 fR dR ["nodes", "at"] (spIsRedex K)) (DR : Def K mg "is_redex" fR dR ["nodes", "at"]) : FnOk P w K mg base CX0 2 f fd ["term"] (spRedexes K) := by
  refine F.ok scRedexes (fun vs H Q E h => ?_) (fun cdv A outer s H vs Q E hr h => ?_)
  · obtain ⟨a, t, rfl, _⟩ := h
    rfl
  obtain ⟨a, t, rfl, hT, hsz, q⟩ := h
  refine ⟨_, pss_cons (ps_set (i := 1) scRedexes.nd rfl (.inl rfl) (pe_lst pa_nil))
    (pss_cons (ps_for PassesOwn.never rfl (pi_enum (by rfl) T.enum (pa_cons (pe_call GN hr rfl DN.m DN.k DN.b .nil pass0 (pa_cons (pv 0) pa_nil)) pa_nil))
        (pg_tup rfl (pgs_cons (pg_name (i := 2) scRedexes.nd rfl (.inl rfl)) (pgs_cons (pg_name (i := 3) scRedexes.nd rfl (.inl rfl)) pgs_nil)))
      (pss_one (ps_if (pt_val (pe_call GR hr rfl DR.m DR.k DR.b .nil pass0 (pa_cons (pv 0) (pa_cons (pv 2) pa_nil))))
        (pss_one (ps_expr (pe_bm PySem.F.plainAttrs_list PySem.F.slot_list_append PySem.F.type_list_append mt_append (pv 1) (pa_cons (pv 3) pa_nil)))) pss_nil)))
    (pss_one (ps_ret (pv 1)))), ?_⟩
  refine ⟨Nat.zero_le _, fun o no => ?_⟩
  have s1 : Same H (upd H o (.lst [])) := same_new no _
  refine ⟨_, rfl, a, t, rfl, same_tup s1 hT, hsz, fun r H1 s2 nr er => ?_⟩
  have nro : r ≠ o := fun e => by
    rw [e, upd_same] at nr
    cases nr
  have s3 := s1.trans s2
  have hpl : (ps (plc t [])).length = t.size := by rw [List.length_map, plc_len]
  refine ⟨r, ps (plc t []), rfl, SqL.of er, for_it (walk_enum (xs := ps (plc t []))) (fun i σ H3 => ∃ (y2 y3 : Option V) (l : List (List Dir)), σ = [some (.ref a), some (.ref o), y2, y3] ∧ Same H H3 ∧
      H3 r = some (.lst (ps (plc t []))) ∧ H3 o = some (.lst (ps l)) ∧ l.length ≤ i ∧ ∀ p, p ∈ l ↔ ∃ j, j < i ∧ (plc t [])[j]? = some p ∧ rdxAt (enc t) j = true)
    ⟨none, none, [], rfl, s3, er, s2 _ _ upd_same, Nat.le_refl _, fun p => ⟨fun h => (List.not_mem_nil h).elim, fun ⟨j, hj, _⟩ => absurd hj (Nat.not_lt_zero j)⟩⟩
    (fun i σ H3 _ hp => by obtain ⟨_, _, _, _, sm, er', _⟩ := hp; exact SqL.of er') ?_ ?_⟩
  · rintro i z σ H3 H4 hi ⟨y2, y3, l, rfl, sm, er', eo, hl, hm⟩ ⟨T', x, y, rfl, nT, rfl, hx, hy⟩
    rw [hpl] at hi
    obtain rfl : x = V.int (i : Nat) := (Option.some.inj hx).symm
    have hy' : (ps (plc t []))[i]? = some y := hy
    rw [List.getElem?_map, Option.map_eq_some_iff] at hy'
    obtain ⟨p, hp, rfl⟩ := hy'
    have sm4 : Same H (upd H3 T' (.tup [V.int (i : Nat), V.str (pstr p)])) := sm.trans (same_new nT _)
    have hi2 : i < (enc t).length := by rw [enc_len]; exact hi
    have hx2 : (enc t)[i]? = some (enc t)[i] := List.getElem?_eq_getElem hi2
    have eo' : (upd H3 T' (.tup [V.int (i : Nat), V.str (pstr p)])) o = some (.lst (ps l)) := by
      rw [upd_ne (ne_of_none eo nT)]
      exact eo
    refine ⟨T', _, rfl, .inl (.inl upd_same), rfl, _, _, rfl, _, _, rfl, rfl, ?_⟩
    refine ⟨_, rfl, _, rfl, a, enc t, i, _, rfl, same_tup sm4 hT, hx2, fun e => app_next (hx2.trans (congrArg some e)), _, rfl, both (fun c => ?_) (fun c => ?_)⟩
    · refine ⟨_, rfl, .inl ⟨rfl, _, .inl (.inl eo')⟩, _, rfl, o, _, _, rfl, rfl, eo', sl1000 (by rw [List.length_map]; omega), ?_⟩
      obtain ⟨g1, g2⟩ := turn_keep (x := .tup [V.int (i : Nat), V.str (pstr p)]) (z := .lst (ps l ++ [V.str (pstr p)])) sm no er' nT nro
      refine ⟨_, _, l ++ [p], rfl, g1, g2, by rw [upd_same]; simp [ps], by simp; omega, fun x => ?_⟩
      rw [List.mem_append, List.mem_singleton, hm]
      constructor
      · rintro (⟨j, h1, h2⟩ | rfl)
        · exact ⟨j, by omega, h2⟩
        · exact ⟨i, Nat.lt_succ_self i, hp, c⟩
      · rintro ⟨j, h1, h2, h3⟩
        by_cases e : j = i
        · subst e
          rw [hp] at h2
          exact .inr (Option.some.inj h2).symm
        · exact .inl ⟨j, by omega, h2, h3⟩
    · refine ⟨_, _, l, rfl, sm4, by rw [upd_ne (ne_of_none er' nT)]; exact er', eo', by omega, fun x => ?_⟩
      rw [hm]
      constructor
      · rintro ⟨j, h1, h2⟩
        exact ⟨j, by omega, h2⟩
      · rintro ⟨j, h1, h2, h3⟩
        refine ⟨j, ?_, h2, h3⟩
        by_cases e : j = i
        · subst e
          rw [c] at h3
          cases h3
        · omega
  · rintro σ H3 ⟨y2, y3, l, rfl, sm, _, eo, hl, hm⟩
    rw [hpl] at hl hm
    refine ⟨_, rfl, q o H3 l sm no eo (fun p => ?_) (by omega)⟩
    rw [hm]
    constructor
    · rintro ⟨j, h1, h2, h3⟩
      simp only [rdxAt, Bool.and_eq_true, decide_eq_true_eq] at h3
      obtain ⟨p', u, e1, e2⟩ := redex_of t [] j p h2 h3.1 h3.2
      rw [List.nil_append] at e1
      subst e1
      exact ⟨u, e2⟩
    · rintro ⟨u, hu⟩
      obtain ⟨i, h1, h2, h3⟩ := redex_ix p t u [] hu
      have hi := (List.getElem?_eq_some_iff.mp h1).1
      rw [plc_len] at hi
      exact ⟨i, hi, h1, by simp only [rdxAt, Bool.and_eq_true, decide_eq_true_eq]; exact ⟨h2, h3⟩⟩
end
end K23
namespace K23
open PySem PyProof.Rows PySem.Spec L2
/-! ### slices of tuples, tuples one behind the other -/
theorem cut_mid {xs p m s : List V} {lo hi : Int} (e : xs = p ++ (m ++ s)) (h1 : lo = (p.length : Nat)) (h2 : hi = ((p.length + m.length : Nat) : Int)) : cutV xs (some lo) (some hi) = m := by
  subst e h1 h2
  unfold cutV
  have z : (p ++ (m ++ s)).length = p.length + (m.length + s.length) := by simp
  rw [HT.sIx_nat, HT.sIx_nat, z, show min p.length (p.length + (m.length + s.length)) = p.length by omega, show min (p.length + m.length) (p.length + (m.length + s.length)) - p.length = m.length by omega, List.drop_left, List.take_left]
theorem cut_lo {xs m s : List V} {hi : Int} (e : xs = m ++ s) (h : hi = (m.length : Nat)) : cutV xs none (some hi) = m := by
  subst e h
  unfold cutV
  have z : (m ++ s).length = m.length + s.length := by simp
  rw [HT.sIx_nat, HT.sIx_none, z, show min m.length (m.length + s.length) - 0 = m.length by omega, List.drop_zero, List.take_left]
theorem cut_hi {xs p s : List V} {lo : Int} (e : xs = p ++ s) (h : lo = (p.length : Nat)) : cutV xs (some lo) none = s := by
  subst e h
  unfold cutV
  have z : (p ++ s).length = p.length + s.length := by simp
  rw [HT.sIx_nat, HT.sIx_none, z, show min p.length (p.length + s.length) = p.length by omega, show p.length + s.length - p.length = s.length by omega, List.drop_left, List.take_length]
/-- a slice that begins behind the start is not the whole -/
theorem not_whole {n : Nat} {lo : Int} {k : Nat} {hi : Option Int} (h : lo = (k : Nat)) (h0 : 0 < k) (hn : 0 < n) : ¬ (HT.sIx n 0 (some lo) = 0 ∧ HT.sIx n n hi = n) := fun z => by
  have := z.1
  rw [h, HT.sIx_nat] at this
  omega
theorem not_whole2 {n : Nat} {hi : Int} {k : Nat} (h : hi = (k : Nat)) (hn : k < n) : ¬ (HT.sIx n 0 none = 0 ∧ HT.sIx n n (some hi) = n) := fun z => by
  have := z.2
  rw [h, HT.sIx_nat] at this
  omega
section
variable {P : Program} {w : World} {K : PySem.W.Frag} {mg : Str → Option Value} {base : Heap} {C : Addr} {fE fN fR fI fP fS : Addr} {dE dN dR dI dP dS : FuncData}
theorem cat_of {H : Hp} {a b : Addr} {xs ys : List V} {Q : VK} (ha : SqT K H a xs) (hb : SqT K H b ys) (q : ∀ p H', Same H H' → SqT K H' p (xs ++ ys) → Q (.ref p) H') :
    (xs = [] → Q (.ref b) H) ∧ (xs ≠ [] → ys = [] → Q (.ref a) H) ∧ (xs ≠ [] → ys ≠ [] → ∀ p, H p = none → Q (.ref p) (upd H p (.tup (xs ++ ys)))) := by
  refine ⟨fun e => q b H (Same.refl H) ?_, fun _ e => q a H (Same.refl H) ?_, fun _ _ p np => q p _ (same_new np _) (SqT.of upd_same)⟩
  · subst e
    exact hb
  · subst e
    rw [List.append_nil]
    exact ha
theorem rcat_of {H : Hp} {a b : Addr} {xs ys : List V} {Q : VK} (ha : SqT K H a xs) (hb : SqT K H b ys) (hz : xs.length + ys.length ≤ sizeLine) (q : ∀ p H', Same H H' → SqT K H' p (xs ++ ys) → Q (.ref p) H') : rCatA K (.ref a) (.ref b) H Q :=
  ⟨a, b, xs, ys, rfl, rfl, ha, hb, hz, cat_of ha hb q⟩
/-! ### stepped, step -/
def spStepped (K : PySem.W.Frag) (C : Addr) : Sp := fun vs H Q E => ∃ (a : Addr) (t r : Tm) (p : List Dir), vs = [.ref a, .str (pstr p)] ∧ SqT K H a (tmV t) ∧ t.size ≤ 1000 ∧ stepT t p = some r ∧ (∀ H', Same H H' → E (.ref C) none H') ∧
  (r.size ≤ 1000 → ∀ q H', Same H H' → SqT K H' q (tmV r) → Q (.ref q) H')
theorem scStepped : FnScope ["nodes", "place", "at", "middle", "end", "found"] ["nodes", "place"] (defScope sStepped) := ⟨rfl, rfl, rfl, by decide +kernel, rfl, by decide +kernel, by decide +kernel⟩
theorem ok_stepped {f : Addr} {fd : FuncData} (F : Fun K "stepped" "stepped" sStepped f fd) (T : Known K mg C) (GI : FnOk P w K mg base CX0 2 fI dI ["nodes", "place"] (spIndexOf K)) (DI : Def K mg "index_of" fI dI ["nodes", "place"])
    (GR : FnOk P w K mg base CX0 1 fR dR ["nodes", "at"] (spIsRedex K)) (DR : Def K mg "is_redex" fR dR ["nodes", "at"]) (GE : FnOk P w K mg base CX0 1 fE dE ["nodes", "start"] (spEndOf K)) (DE : Def K mg "end_of" fE dE ["nodes", "start"])
    (GP : FnOk P w K mg base (L2.CX P w) 3 fP dP ["nodes", "value"] (spPlaced K C)) (DP : Def K mg "placed" fP dP ["nodes", "value"]) : FnOk P w K mg base (L2.CX P w) 4 f fd ["nodes", "place"] (spStepped K C) := by
  obtain ⟨t1, m1⟩ := T.most
  refine F.okX scStepped (fun vs H Q E h => ?_) (fun cdv A outer s H vs Q E hr h => ?_)
  · obtain ⟨a, t, r, p, rfl, _⟩ := h
    rfl
  obtain ⟨a, t, r, p, rfl, hT, hsz, hst, qE, qQ⟩ := h
  have hr2 : Room 2 _ := hr.mono (by decide)
  have hr1 : Room 1 _ := hr.mono (by decide)
  refine ⟨_, pss_cons (ps_set (i := 2) scStepped.nd rfl (.inl rfl) (pe_call GI hr2 rfl DI.m DI.k DI.b .nil pass0 (pa_cons (pv 0) (pa_cons (pv 1) pa_nil))))
    (pss_cons (ps_if (PW.pt (pw_or (pt_cmpR op_lt (pv 2) pe_int (nomark _)) (pw_or1 (pt_not (pt_val (pe_call GR hr1 rfl DR.m DR.k DR.b .nil pass0 (pa_cons (pv 0) (pa_cons (pv 2) pa_nil)))))))) (pss_one ps_never) pss_nil)
    (pss_cons (ps_set (i := 3) scStepped.nd rfl (.inl rfl) (pe_call GE hr1 rfl DE.m DE.k DE.b .nil pass0 (pa_cons (pv 0) (pa_cons (pe_op op_add (pv 2) pe_int) pa_nil))))
    (pss_cons (ps_set (i := 4) scStepped.nd rfl (.inl rfl) (pe_call GE hr1 rfl DE.m DE.k DE.b .nil pass0 (pa_cons (pv 0) (pa_cons (pv 3) pa_nil))))
    (pss_cons (ps_set (i := 5) scStepped.nd rfl (.inl rfl) (pe_op op_catA (pe_op op_catA (pe_slice sl_tupA (pv 0) po_none (po_some (pv 2)))
        (pe_callS GP hr rfl DP.m DP.k DP.b (fun σ => passAt (takes_of rfl rfl rfl rfl) σ) (pa_cons (pe_slice sl_tupA (pv 0) (po_some (pe_op op_add (pv 2) pe_int)) (po_some (pv 3))) (pa_cons (pe_slice sl_tupA (pv 0) (po_some (pv 3)) (po_some (pv 4))) pa_nil))))
        (pe_slice sl_tupA (pv 0) (po_some (pv 4)) po_none)))
    (pss_cons (ps_if (pt_cmpR op_gt (pe_callB call_len_seq (by rfl) T.len PySem.boot_len (pa_cons (pv 5) pa_nil)) (pe_glob (v := .int 1000) rfl m1 ⟨_, rfl⟩) (nomark _))
        (pss_one (ps_raise rfl (takes_of rfl rfl rfl rfl) (pmk_own PySem.F.excBase_ValueError T.xC T.gC T.kC (raises_own T.bC T.tC) (by exact rfl)))) pss_nil)
    (pss_one (ps_ret (pv 5))))))))
    , ?_⟩
  obtain ⟨pre, post, b, c, e1, e2, e3⟩ := step_at p t r hst
  have en := congrArg List.length e1
  have er := congrArg List.length e2
  simp only [enc_len, List.length_append, List.length_cons] at en er
  have hxs : tmV t = (pre ++ (Nd.a :: Nd.l :: (enc b ++ (enc c ++ post)))).map nv := by unfold tmV; rw [e1]
  have hlen : (tmV t).length = t.size := by rw [List.length_map, enc_len]
  -- at = index_of(nodes, place)
  refine ⟨_, rfl, _, rfl, a, t, p, pre.length, rfl, hT, e3, ?_⟩
  -- it is a redex
  refine ⟨_, rfl, _, _, rfl, rfl, _, rfl, noo (decide_eq_false (by omega)) ?_⟩
  have x1 : (enc t)[pre.length]? = some .a := by rw [e1, List.getElem?_append_right (Nat.le_refl _), Nat.sub_self]; rfl
  have x2 : (enc t)[pre.length + 1]? = some .l := by rw [e1, List.getElem?_append_right (by omega), show pre.length + 1 - pre.length = 1 by omega]; rfl
  have x3 : rdxAt (enc t) pre.length = true := by unfold rdxAt; rw [x1, x2]; rfl
  refine ⟨_, rfl, _, rfl, a, enc t, pre.length, _, rfl, hT, x1, fun _ => ⟨_, x2⟩, _, rfl, ?_⟩
  rw [x3]
  refine iteF ?_
  -- middle, end
  refine ⟨_, rfl, _, rfl, _, _, rfl, rfl, a, .lam b, pre ++ [.a], enc c ++ post, by simp, ?_, ?_⟩
  · rw [show pre ++ [Nd.a] ++ (enc (.lam b) ++ (enc c ++ post)) = enc t by rw [e1]; simp [enc]]
    exact hT
  have em : ((pre ++ [Nd.a]).length + (Tm.lam b).size) = (pre ++ (Nd.a :: Nd.l :: enc b)).length := by simp [Tm.size, enc_len]; omega
  rw [em]
  refine ⟨_, rfl, _, rfl, a, c, pre ++ (Nd.a :: Nd.l :: enc b), post, rfl, ?_, ?_⟩
  · rw [show pre ++ (Nd.a :: Nd.l :: enc b) ++ (enc c ++ post) = enc t by rw [e1]; simp]
    exact hT
  have em2 : (pre ++ (Nd.a :: Nd.l :: enc b)).length = pre.length + 2 + b.size := by simp [enc_len]; omega
  rw [em2]
  -- nodes[:at]
  refine ⟨_, rfl, _, rfl, _, rfl, a, tmV t, rfl, hT, fun z => absurd z (not_whole2 rfl (by rw [hlen]; omega)), fun _ p1 n1 => ?_⟩
  have s1 : Same H (upd H p1 (.tup (cutV (tmV t) none (some ((pre.length : Nat) : Int))))) := same_new n1 _
  have c1 : cutV (tmV t) none (some ((pre.length : Nat) : Int)) = pre.map nv := cut_lo (by rw [hxs, List.map_append]) (by simp)
  rw [c1] at s1 ⊢
  -- nodes[at + 2:middle]
  refine ⟨_, rfl, _, rfl, _, _, rfl, rfl, _, rfl, _, rfl, _, rfl, a, tmV t, rfl, same_tup s1 hT, fun z => absurd z (not_whole (k := pre.length + 2) (by omega) (by omega) (by rw [hlen]; omega)), fun _ p2 n2 => ?_⟩
  have c2 : cutV (tmV t) (some ((pre.length : Nat) + 2 : Int)) (some ((pre.length + 2 + b.size : Nat) : Int)) = tmV b := cut_mid (p := (pre ++ [Nd.a, Nd.l]).map nv) (s := (enc c ++ post).map nv)
    (by rw [hxs]; simp) (by simp) (by simp [enc_len])
  rw [c2] at *
  have s2 := s1.trans (same_new n2 (.tup (tmV b)))
  -- nodes[middle:end]
  refine ⟨_, rfl, _, rfl, _, rfl, _, rfl, _, rfl, a, tmV t, rfl, same_tup s2 hT, fun z => absurd z (not_whole (k := pre.length + 2 + b.size) rfl (by omega) (by rw [hlen]; omega)), fun _ p3 n3 => ?_⟩
  have c3 : cutV (tmV t) (some ((pre.length + 2 + b.size : Nat) : Int)) (some ((pre.length + 2 + b.size + c.size : Nat) : Int)) = tmV c := cut_mid (p := (pre ++ (Nd.a :: Nd.l :: enc b)).map nv) (s := post.map nv)
    (by rw [hxs]; simp) (by rw [List.length_map, em2]) (by rw [List.length_map, em2, List.length_map, enc_len])
  rw [c3] at *
  have s3 := s2.trans (same_new n3 (.tup (tmV c)))
  have s23 : Same (upd (upd H p1 (.tup (pre.map nv))) p2 (.tup (tmV b))) (upd (upd (upd H p1 (.tup (pre.map nv))) p2 (.tup (tmV b))) p3 (.tup (tmV c))) := same_new n3 _
  have s13 : Same (upd H p1 (.tup (pre.map nv))) (upd (upd (upd H p1 (.tup (pre.map nv))) p2 (.tup (tmV b))) p3 (.tup (tmV c))) := (same_new n2 _).trans s23
  -- placed
  refine ⟨p2, p3, b, c, rfl, SqT.of (s23 _ _ upd_same), SqT.of upd_same, by omega, by omega, fun _ H' s' => qE H' (s3.trans s'), fun hb p4 H4 s4 n4 e4 => ?_⟩
  have g1 : SqT K H4 p1 (pre.map nv) := SqT.of (s4 _ _ (s13 _ _ upd_same))
  have hb' : (putT c 0 b).size ≤ 1000 := by
    unfold big at hb
    rw [Bool.or_eq_false_iff] at hb
    have := of_decide_eq_false hb.1
    rw [enc_len] at this
    omega
  -- + and nodes[end:]
  refine rcat_of g1 (SqT.of e4) ?_ fun p5 H5 s5 e5 => ?_
  · rw [List.length_map, List.length_map, enc_len]
    exact Nat.le_of_lt (sl1000 (by omega))
  have s05 : Same H H5 := (s3.trans s4).trans s5
  refine ⟨_, rfl, _, rfl, _, rfl, a, tmV t, rfl, same_tup s05 hT, fun z => absurd z (not_whole (k := pre.length + 2 + b.size + c.size) rfl (by omega) (by rw [hlen]; omega)), fun _ p6 n6 => ?_⟩
  have c6 : cutV (tmV t) (some ((pre.length + 2 + b.size + c.size : Nat) : Int)) none = post.map nv := cut_hi (p := (pre ++ (Nd.a :: Nd.l :: (enc b ++ enc c))).map nv)
    (by rw [hxs]; simp) (by simp [enc_len]; omega)
  rw [c6]
  have s6 : Same H5 (upd H5 p6 (.tup (post.map nv))) := same_new n6 _
  refine rcat_of (same_tup s6 e5) (SqT.of upd_same) ?_ fun p7 H7 s7 e7 => ?_
  · rw [List.length_append, List.length_map, List.length_map, List.length_map, enc_len]
    exact Nat.le_of_lt (sl1000 (by omega))
  have e8 : pre.map nv ++ tmV (putT c 0 b) ++ post.map nv = tmV r := by unfold tmV; rw [e2]; simp
  rw [e8] at e7
  have s07 : Same H H7 := (s05.trans s6).trans s7
  -- len(found) > MOST_NODES
  refine ⟨_, rfl, p7, _, rfl, .inr e7, _, _, rfl, rfl, _, rfl, both (fun h1 => ?_) (fun h1 => ?_)⟩
  · exact qE H7 s07
  · have h2 := of_decide_eq_false h1
    rw [List.length_map, enc_len] at h2
    exact ⟨_, rfl, qQ (by omega) p7 H7 s07 e7⟩
theorem scStep : FnScope ["term", "place"] ["term", "place"] (defScope sStep) := ⟨rfl, rfl, rfl, by decide +kernel, rfl, by decide +kernel, by decide +kernel⟩
theorem ok_step {f : Addr} {fd : FuncData} (F : Fun K "step" "step" sStep f fd) (GS : FnOk P w K mg base (L2.CX P w) 4 fS dS ["nodes", "place"] (spStepped K C)) (DS : Def K mg "stepped" fS dS ["nodes", "place"]) :
    FnOk P w K mg base (L2.CX P w) 5 f fd ["term", "place"] (spStepped K C) := by
  refine F.okX scStep (fun vs H Q E h => ?_) (fun cdv A outer s H vs Q E hr h => ?_)
  · obtain ⟨a, t, r, p, rfl, _⟩ := h
    rfl
  obtain ⟨a, t, r, p, rfl, hh⟩ := h
  exact ⟨_, pss_one (ps_ret (pe_callS GS hr rfl DS.m DS.k DS.b (fun σ => passAt (takes_of rfl rfl rfl rfl) σ) (pa_cons (pv 0) (pa_cons (pv 1) pa_nil)))), _, rfl, _, rfl, a, t, r, p, rfl, hh⟩
end
end K23
namespace K23
open PySem PyProof.Rows PySem.Spec L2
/-! ### lists of ints without repetition -/
theorem nodup_few : ∀ (m : Nat) (l : List Int), l.Nodup → (∀ k ∈ l, 0 ≤ k ∧ k < (m : Nat)) → l.length ≤ m
  | 0, l, _, h => by
    cases l with
    | nil => exact Nat.le_refl 0
    | cons a r =>
      have := h a List.mem_cons_self
      omega
  | m + 1, l, hd, h => by
    by_cases hm : ((m : Nat) : Int) ∈ l
    · have h1 := List.length_erase_of_mem hm
      have h2 := List.length_pos_of_mem hm
      have h3 := nodup_few m (l.erase ((m : Nat) : Int)) (hd.erase _) (fun k hk => by
        have h4 := h k (List.mem_of_mem_erase hk)
        have h5 : k ≠ ((m : Nat) : Int) := fun e => by
          subst e
          exact hd.not_mem_erase hk
        omega)
      omega
    · have h3 := nodup_few m l hd (fun k hk => by
        have h4 := h k hk
        have h5 : k ≠ ((m : Nat) : Int) := fun e => hm (e ▸ hk)
        omega)
      omega
/-- two rising lists of the same numbers are one -/
theorem rising_eq : ∀ {a b : List Int}, a.Pairwise (· < ·) → b.Pairwise (· < ·) → (∀ k, k ∈ a ↔ k ∈ b) → a = b
  | [], [], _, _, _ => rfl
  | [], y :: b, _, _, h => absurd ((h y).mpr List.mem_cons_self) List.not_mem_nil
  | x :: a, [], _, _, h => absurd ((h x).mp List.mem_cons_self) List.not_mem_nil
  | x :: a, y :: b, ha, hb, h => by
    rw [List.pairwise_cons] at ha hb
    have e : x = y := by
      have h1 := (h x).mp List.mem_cons_self
      have h2 := (h y).mpr List.mem_cons_self
      rcases List.mem_cons.mp h1 with e | h1
      · exact e
      · rcases List.mem_cons.mp h2 with e | h2
        · exact e.symm
        · have := ha.1 y h2
          have := hb.1 x h1
          omega
    subst e
    rw [rising_eq ha.2 hb.2 fun k => ?_]
    constructor
    · intro hk
      rcases List.mem_cons.mp ((h k).mp (List.mem_cons_of_mem _ hk)) with e | h'
      · subst e
        exact absurd (ha.1 k hk) (Int.lt_irrefl k)
      · exact h'
    · intro hk
      rcases List.mem_cons.mp ((h k).mpr (List.mem_cons_of_mem _ hk)) with e | h'
      · subst e
        exact absurd (hb.1 k hk) (Int.lt_irrefl k)
      · exact h'
theorem rising_of {l : List Int} (h : l.Pairwise (· ≤ ·)) (hd : l.Nodup) : l.Pairwise (· < ·) := by
  have h2 := h.and hd
  exact h2.imp fun ⟨a, b⟩ => by omega
theorem inV_int (k : Int) : ∀ ns : List Int, inV (V.int k) (ns.map V.int) = decide (k ∈ ns)
  | [] => rfl
  | n :: ns => by
    have ih := inV_int k ns
    unfold inV at ih ⊢
    rw [List.map_cons, List.any_cons, ih]
    show ((n == k) || decide (k ∈ ns)) = _
    by_cases e : n = k
    · subst e
      simp
    · have e1 : (n == k) = false := beq_eq_false_iff_ne.mpr e
      rw [e1, Bool.false_or]
      have : (k ∈ n :: ns) ↔ k ∈ ns := by
        rw [List.mem_cons]
        exact ⟨fun h => h.resolve_left (fun z => e z.symm), .inr⟩
      exact decide_eq_decide.mpr this.symm
theorem flat_ints (ns : List Int) : (ns.map V.int).all flatV = true := by
  rw [List.all_map]
  exact List.all_eq_true.mpr (fun _ _ => rfl)
abbrev is (l : List Int) : List V := l.map V.int
theorem free_next {l : List (Nd × Nat)} {i : Nat} {nd : Nd} {d : Nat} (h : l[i]? = some (nd, d)) : (l.take (i + 1)).filterMap freeN = (l.take i).filterMap freeN ++ (freeN (nd, d)).toList := by
  rw [take_one_more h, List.filterMap_append]
  cases e : freeN (nd, d) <;> simp [e]
section
variable {P : Program} {w : World} {K : PySem.W.Frag} {mg : Str → Option Value} {base : Heap} {C : Addr} {fD fI : Addr} {dD dI : FuncData}
/-! ### free -/
def spFree (K : PySem.W.Frag) (few : Bool) : Sp := fun vs H Q _ => ∃ (a : Addr) (t : Tm), vs = [.ref a] ∧ SqT K H a (tmV t) ∧ t.size ≤ 1000 ∧ (few = true → ∀ i, i ∈ fvs t 0 → 0 ≤ i ∧ i < 8) ∧
  ∀ r H' l, Same H H' → H r = none → H' r = some (.lst (is l)) → l.Pairwise (· < ·) → (∀ k, k ∈ l ↔ k ∈ fvs t 0) → Q (.ref r) H'
theorem scFree : FnScope ["term", "found", "node", "depth"] ["term"] (defScope sFree) := ⟨rfl, rfl, rfl, by decide +kernel, rfl, by decide +kernel, by decide +kernel⟩
theorem ok_free {f : Addr} {fd : FuncData} (F : Fun K "free" "free" sFree f fd) (T : Known K mg C) (GD : FnOk P w K mg base CX0 1 fD dD ["nodes"] (spDepths K)) (DD : Def K mg "depths" fD dD ["nodes"]) :
    FnOk P w K mg base CX0 2 f fd ["term"] (spFree K true) := by
  refine F.ok scFree (fun vs H Q E h => ?_) (fun cdv A outer s H vs Q E hr h => ?_)
  · obtain ⟨a, t, rfl, _⟩ := h
    rfl
  obtain ⟨a, t, rfl, hT, hsz, hfew, q⟩ := h
  refine ⟨_, pss_cons (ps_set (i := 1) scFree.nd rfl (.inl rfl) (pe_callTy0 cr_set0 (by rfl) T.set boot_set))
    (pss_cons (ps_for PassesOwn.never rfl (pi_zipM (by rfl) T.zip (pa_cons (pv 0) (pa_cons (pe_call GD hr rfl DD.m DD.k DD.b .nil pass0 (pa_cons (pv 0) pa_nil)) pa_nil)))
        (pg_tup rfl (pgs_cons (pg_name (i := 2) scFree.nd rfl (.inl rfl)) (pgs_cons (pg_name (i := 3) scFree.nd rfl (.inl rfl)) pgs_nil)))
      (pss_one (ps_if (PW.pt (pw_and (pt_val (pe_callB call_isi (by rfl) T.isi boot_isi (pa_cons (pv 2) (pa_cons (pe_bltn (v := .ty "int") (by rfl) T.int boot_int rfl) pa_nil)))) (pw_and1 (pt_cmpR op_ge (pv 2) (pv 3) (nomark _)))))
        (pss_one (ps_expr (pe_sadd (pv 1) (pa_cons (pe_op op_sub (pv 2) (pv 3)) pa_nil)))) pss_nil)))
    (pss_one (ps_ret (pe_callB (cr_sortedSet rfl) (by rfl) T.sorted boot_sorted (pa_cons (pv 1) pa_nil))))), ?_⟩
  refine ⟨rfl, fun o no => ?_⟩
  have s1 : Same H (upd H o (SetO w o (fun _ => false) 0)) := same_new no _
  refine ⟨_, rfl, _, rfl, a, t, rfl, same_tup s1 hT, hsz, fun r H1 s2 nr er => ?_⟩
  have nro : r ≠ o := fun e => by
    rw [e, upd_same] at nr
    cases nr
  have s3 := s1.trans s2
  -- no more than eight
  have eight : ∀ {S : Int → Bool} {i : Nat} {l : List Int}, (∀ k, S k = true ↔ k ∈ ((zp t 0).take i).filterMap freeN) → l.Nodup → (∀ k ∈ l, S k = true) → l.length ≤ 8 := fun hS hd hl =>
    nodup_few 8 _ hd fun k hk => hfew rfl k (by
      obtain ⟨x, hx, hf⟩ := List.mem_filterMap.mp ((hS k).mp (hl k hk))
      exact List.mem_filterMap.mpr ⟨x, List.mem_of_mem_take hx, hf⟩)
  refine ⟨a, r, tmV t, _, rfl, same_tup s3 hT, SqL.of er, for_it (walk_zipM (two_len t)) (fun i σ H3 => ∃ (y2 y3 : Option V) (S : Int → Bool) (n : Nat) (l : List Int), σ = [some (.ref a), some (.ref o), y2, y3] ∧ Same H H3 ∧
      H3 r = some (.lst (ds (dep t 0))) ∧ H3 o = some (SetO w o S n) ∧ (∀ k, S k = true ↔ k ∈ ((zp t 0).take i).filterMap freeN) ∧ l.Nodup ∧ l.length = n ∧ ∀ k ∈ l, S k = true)
    ⟨none, none, fun _ => false, 0, [], rfl, s3, er, s2 _ _ upd_same, fun k => ⟨fun h => absurd h Bool.false_ne_true, fun h => (List.not_mem_nil h).elim⟩, List.nodup_nil, rfl, fun k hk => (List.not_mem_nil hk).elim⟩
    (fun i σ H3 _ hp => by obtain ⟨_, _, _, _, _, _, sm, er', _⟩ := hp; exact ⟨same_tup sm hT, SqL.of er'⟩) ?_ ?_⟩
  · rintro i z σ H3 H4 hi ⟨y2, y3, S, n, l, rfl, sm, er', eo, hS, hd, hln, hl⟩ ⟨T', x, y, rfl, nT, rfl, hx, hy⟩
    obtain ⟨nd, d, hz, rfl, rfl⟩ := zp_at hx hy
    have eo' : (upd H3 T' (.tup [nv nd, V.int (d : Nat)])) o = some (SetO w o S n) := by
      rw [upd_ne (ne_of_none eo nT)]
      exact eo
    have nx := free_next hz
    have stay : freeN (nd, d) = none → ∃ (y2 y3 : Option V) (S' : Int → Bool) (n' : Nat) (l' : List Int), [some (V.ref a), some (.ref o), some (nv nd), some (V.int (d : Nat))] = [some (V.ref a), some (.ref o), y2, y3] ∧ Same H (upd H3 T' (.tup [nv nd, V.int (d : Nat)])) ∧
        (upd H3 T' (.tup [nv nd, V.int (d : Nat)])) r = some (.lst (ds (dep t 0))) ∧ (upd H3 T' (.tup [nv nd, V.int (d : Nat)])) o = some (SetO w o S' n') ∧ (∀ k, S' k = true ↔ k ∈ ((zp t 0).take (i + 1)).filterMap freeN) ∧ l'.Nodup ∧ l'.length = n' ∧ ∀ k ∈ l', S' k = true := fun hf =>
      ⟨_, _, S, n, l, rfl, sm.trans (same_new nT _), by rw [upd_ne (ne_of_none er' nT)]; exact er', eo', fun k => by rw [nx, hf, Option.toList_none, List.append_nil]; exact hS k, hd, hln, hl⟩
    refine ⟨T', _, rfl, .inl (.inl upd_same), rfl, _, _, rfl, _, _, rfl, rfl, ?_⟩
    obtain ⟨ty, k1, k2⟩ := nv_int K (upd H3 T' (.tup [nv nd, V.int (d : Nat)])) nd
    refine ⟨_, rfl, _, _, ty, _, nd.isV, rfl, .ty "int", k1, k2, _, rfl, ?_⟩
    cases nd with
    | l => exact noo rfl (iteF (stay rfl))
    | a => exact noo rfl (iteF (stay rfl))
    | v m =>
      refine yes rfl ⟨_, rfl, _, rfl, _, _, rfl, rfl, _, rfl, both (fun c1 => ?_) (fun c1 => ?_)⟩
      · have h1 : d ≤ m := by have := of_decide_eq_true c1; omega
        have hf : freeN (.v m, d) = some ((m : Int) - d) := if_pos h1
        have few := eight hS hd hl
        refine ⟨_, rfl, ⟨o, S, n, rfl, eo'⟩, _, rfl, _, rfl, _, _, rfl, rfl, o, _, S, n, rfl, rfl, eo', ?_, ?_⟩
        · show n + 1 < 4096
          omega
        obtain ⟨g1, g2⟩ := turn_keep (x := .tup [nv (.v m), V.int (d : Nat)]) (z := SetO w o (fun j => S j || decide (j = (m : Int) - d)) (if S ((m : Int) - d) = true then n else n + 1)) sm no er' nT nro
        refine ⟨_, _, _, _, if S ((m : Int) - d) = true then l else ((m : Int) - d) :: l, rfl, g1, g2, upd_same, fun k => ?_, ?_, ?_, fun k hk => ?_⟩
        · rw [nx, hf, Option.toList_some, List.mem_append, List.mem_singleton, ← hS k, Bool.or_eq_true, decide_eq_true_eq]
        · split
          · exact hd
          · rename_i hn
            exact List.nodup_cons.mpr ⟨fun h => hn (hl _ h), hd⟩
        · split <;> simp [hln]
        · rw [Bool.or_eq_true, decide_eq_true_eq]
          split at hk
          · exact .inl (hl k hk)
          · rcases List.mem_cons.mp hk with e | hk
            · exact .inr e
            · exact .inl (hl k hk)
      · have h1 : ¬ d ≤ m := by have := of_decide_eq_false c1; omega
        exact stay (if_neg h1)
  · rintro σ H3 ⟨y2, y3, S, n, l, rfl, sm, _, eo, hS, hd, hln, hl⟩
    have few := eight hS hd hl
    rw [List.length_map, enc_len, ← zp_len t 0, List.take_length] at hS
    refine ⟨_, rfl, o, S, n, rfl, eo, by omega, fun ns p hp hm hnl np => ?_⟩
    exact q p _ ns (sm.trans (same_new np _)) (sm.free np) upd_same hp fun k => by rw [hm, hS]; rfl
/-! ### _law_is_lam, _law_depths -/
def spIsLam : Sp := fun vs H Q _ => ∃ x : Nd, vs = [nv x] ∧ Q (.bl (decide (x = .l))) H
theorem scIsLam : FnScope ["_law_node"] ["_law_node"] (defScope sIsLam) := ⟨rfl, rfl, rfl, by decide +kernel, rfl, by decide +kernel, by decide +kernel⟩
theorem ok_islam {f : Addr} {fd : FuncData} {k : Nat} (F : Fun K "_law_is_lam" "_law_is_lam" sIsLam f fd) (T : Known K mg C) : FnOk P w K mg base CX0 (k + 1) f fd ["_law_node"] spIsLam := by
  refine F.ok scIsLam (fun vs H Q E h => ?_) (fun cdv A outer s H vs Q E hr h => ?_)
  · obtain ⟨x, rfl, _⟩ := h
    rfl
  obtain ⟨x, rfl, q⟩ := h
  refine ⟨_, pss_one (ps_ret (pe_or (pe_cmpR op_eq (pv 0) pe_str (nomark _)) (pe_one (pe_callB call_isi (by rfl) T.isi boot_isi (pa_cons (pv 0) (pa_cons (pe_bltn (v := .ty "tuple") (by rfl) T.tuple boot_tuple rfl) pa_nil)))))), ?_⟩
  refine ⟨_, rfl, scal_nv _ _, _, rfl, ?_⟩
  rw [is_lam]
  obtain ⟨ty, k1, k2⟩ := nv_tup K H x
  refine both (fun c => ?_) (fun c => ?_)
  · rw [c] at q
    exact q
  · rw [c] at q
    exact ⟨_, rfl, _, _, ty, _, false, rfl, .ty "tuple", k1, k2, q⟩
end
end K23
namespace K23
open PySem PyProof.Rows PySem.Spec L2
section
variable {P : Program} {w : World} {K : PySem.W.Frag} {mg : Str → Option Value} {base : Heap} {C : Addr} {fD fI : Addr} {dD dI : FuncData}
/-! ### _law_depths -/
theorem scLDepths : FnScope ["_law_term_here", "_law_found", "_law_waiting", "_law_node", "_law_depth"] ["_law_term_here"] (defScope sLDepths) := ⟨rfl, rfl, rfl, by decide +kernel, rfl, by decide +kernel, by decide +kernel⟩
theorem ok_ldepths {f : Addr} {fd : FuncData} (F : Fun K "_law_depths" "_law_depths" sLDepths f fd) (GI : FnOk P w K mg base CX0 1 fI dI ["_law_node"] spIsLam) (DI : Def K mg "_law_is_lam" fI dI ["_law_node"]) : FnOk P w K mg base CX0 2 f fd ["_law_term_here"] (spDepths K) := by
  refine F.ok scLDepths (fun vs H Q E h => ?_) (fun cdv A outer s H vs Q E hr h => ?_)
  · obtain ⟨a, t, rfl, _⟩ := h
    rfl
  obtain ⟨a, t, rfl, hT, hsz, q⟩ := h
  refine ⟨_, pss_cons (ps_set (i := 1) scLDepths.nd rfl (.inl rfl) (pe_lst pa_nil))
    (pss_cons (ps_set (i := 2) scLDepths.nd rfl (.inl rfl) (pe_lst (pa_cons pe_int pa_nil)))
    (pss_cons (ps_for PassesOwn.never rfl (pi_tup (pv 0)) (pg_name (i := 3) scLDepths.nd rfl (.inl rfl))
      (pss_cons (ps_set (i := 4) scLDepths.nd rfl (.inl rfl) (pe_bm0 PySem.F.plainAttrs_list PySem.F.slot_list_pop PySem.F.type_list_pop mt_pop (pv 2)))
      (pss_cons (ps_expr (pe_bm PySem.F.plainAttrs_list PySem.F.slot_list_append PySem.F.type_list_append mt_append (pv 1) (pa_cons (pv 4) pa_nil)))
      (pss_one (ps_if (pt_cmpR op_eq (pv 3) pe_str (nomark _))
        (pss_cons (ps_expr (pe_bm PySem.F.plainAttrs_list PySem.F.slot_list_append PySem.F.type_list_append mt_append (pv 2) (pa_cons (pv 4) pa_nil)))
          (pss_one (ps_expr (pe_bm PySem.F.plainAttrs_list PySem.F.slot_list_append PySem.F.type_list_append mt_append (pv 2) (pa_cons (pv 4) pa_nil)))))
        (pss_one (ps_if (pt_val (pe_call GI hr rfl DI.m DI.k DI.b .nil pass0 (pa_cons (pv 3) pa_nil)))
          (pss_one (ps_expr (pe_bm PySem.F.plainAttrs_list PySem.F.slot_list_append PySem.F.type_list_append mt_append (pv 2) (pa_cons (pe_op op_add (pv 4) pe_int) pa_nil))))
          pss_nil)))))))
    (pss_one (ps_ret (pv 1))))), ?_⟩
  -- found = [], waiting = [0]
  refine ⟨Nat.zero_le _, fun o no => ⟨by show 1 ≤ sizeLine; decide, fun x nx => ?_⟩⟩
  have s1 : Same H (upd H o (.lst [])) := same_new no _
  have s2 := s1.trans (same_new nx (.lst [.int 0]))
  have nxo : x ≠ o := fun e => by
    rw [e, upd_same] at nx
    cases nx
  have nxH : H x = none := s1.free nx
  refine ⟨_, rfl, a, rfl, ⟨_, same_tup s2 hT⟩, for_it (walk_tup (xs := tmV t)) (fun i σ H3 => ∃ (y3 y4 : Option V) (pre : List Nd) (dn : List Nat) (fs : List (Tm × Nat)),
      σ = [some (.ref a), some (.ref o), some (.ref x), y3, y4] ∧ enc t = pre ++ flat fs ∧ pre.length = i ∧ dep t 0 = dn ++ depF fs ∧ dn.length = i ∧ fs.length ≤ i + 1 ∧
      Same H H3 ∧ H3 o = some (.lst (ds dn)) ∧ H3 x = some (.lst (ds (fs.map (·.2)).reverse)))
    ⟨none, none, [], [], [(t, 0)], rfl, by simp [flat], rfl, by simp [depF], rfl, by simp, s2, by rw [upd_ne nxo.symm, upd_same]; rfl, by rw [upd_same]; rfl⟩
    (fun i σ H3 _ hp => by obtain ⟨_, _, _, _, _, _, _, _, _, _, _, sm, _⟩ := hp; exact same_tup sm hT) ?_ ?_⟩
  · rintro i y σ H4 H3 hi ⟨y3, y4, pre, dn, fs, rfl, e1, e2, e3, e4, e5, sm, eo, ex⟩ ⟨rfl, hy⟩
    obtain ⟨u, d, r, rfl, rfl⟩ := flat_next e1 e2 hy
    have hlen : (tmV t).length ≤ 1000 := by rw [List.length_map, enc_len]; exact hsz
    -- depth = waiting.pop()
    have hl : (ds (((u, d) :: r).map (·.2)).reverse) = ds (r.map (·.2)).reverse ++ [V.int (d : Nat)] := by simp [ds]
    rw [hl] at ex
    refine ⟨_, rfl, .inl ⟨rfl, _, .inl (.inl ex)⟩, x, _, V.int (d : Nat), rfl, rfl, ex, by simp, ?_⟩
    rw [List.dropLast_concat]
    -- found.append(depth)
    refine ⟨_, rfl, .inl ⟨rfl, _, .inl (.inl (by rw [upd_ne nxo.symm]; exact eo))⟩, _, rfl, o, _, _, rfl, rfl, (by rw [upd_ne nxo.symm]; exact eo), sl1000 (by simp [ds]; omega), ?_⟩
    have fin : ∀ H5 : Hp, (∀ b, b ≠ o → b ≠ x → H5 b = H3 b) → H5 o = some (.lst (ds dn ++ [V.int (d : Nat)])) → H5 x = some (.lst (ds ((kidsD u d ++ r).map (·.2)).reverse)) →
        (∃ (y3' y4' : Option V) (pre' : List Nd) (dn' : List Nat) (fs' : List (Tm × Nat)), [some (V.ref a), some (.ref o), some (.ref x), some (nv (hd u)), some (V.int (d : Nat))] = [some (V.ref a), some (.ref o), some (.ref x), y3', y4'] ∧ enc t = pre' ++ flat fs' ∧ pre'.length = i + 1 ∧
          dep t 0 = dn' ++ depF fs' ∧ dn'.length = i + 1 ∧ fs'.length ≤ i + 1 + 1 ∧ Same H H5 ∧ H5 o = some (.lst (ds dn')) ∧ H5 x = some (.lst (ds (fs'.map (·.2)).reverse))) := fun H5 k1 k2 k3 => by
      refine ⟨_, _, pre ++ [hd u], dn ++ [d], kidsD u d ++ r, rfl, by rw [e1, flat_kidsD]; simp, by simp [e2], by rw [e3, depF_kids]; simp, by simp [e4], ?_, fun b z e => ?_, by rw [k2]; simp [ds], k3⟩
      · have := kids_len u d
        simp only [List.length_cons, List.length_append] at e5 ⊢
        omega
      · rw [k1 b (ne_of_none e no) (ne_of_none e nxH)]
        exact sm b z e
    have er : r.length ≤ i := by simp only [List.length_cons] at e5; omega
    have hx5 : (upd (upd H3 x (.lst (ds (r.map (·.2)).reverse))) o (.lst (ds dn ++ [V.int (d : Nat)]))) x = some (.lst (ds (r.map (·.2)).reverse)) := by rw [upd_ne nxo, upd_same]
    refine ⟨_, rfl, scal_nv _ _, _, rfl, ?_⟩
    rw [is_app]
    cases u with
    | var n =>
      refine noo rfl ?_
      refine ⟨_, rfl, .v n, rfl, _, rfl, noo rfl ?_⟩
      exact fin _ (fun b b1 b2 => by rw [upd_ne b1, upd_ne b2]) upd_same hx5
    | lam c =>
      refine noo rfl ?_
      refine ⟨_, rfl, .l, rfl, _, rfl, yes rfl ?_⟩
      refine ⟨_, rfl, .inl ⟨rfl, _, .inl (.inl hx5)⟩, _, rfl, _, _, rfl, rfl, x, _, _, rfl, rfl, hx5, sl1000 (by simp [ds]; omega), ?_⟩
      refine fin _ (fun b b1 b2 => by rw [upd_ne b2, upd_ne b1, upd_ne b2]) (by rw [upd_ne nxo.symm, upd_same]) ?_
      rw [upd_same]
      simp [ds, kidsD]
    | app g c =>
      refine yes rfl ?_
      refine ⟨_, rfl, .inl ⟨rfl, _, .inl (.inl hx5)⟩, _, rfl, x, _, _, rfl, rfl, hx5, sl1000 (by simp [ds]; omega), ?_⟩
      refine ⟨_, rfl, .inl ⟨rfl, _, .inl (.inl upd_same)⟩, _, rfl, x, _, _, rfl, rfl, upd_same, sl1000 (by simp [ds]; omega), ?_⟩
      refine fin _ (fun b b1 b2 => by rw [upd_ne b2, upd_ne b2, upd_ne b1, upd_ne b2]) (by rw [upd_ne nxo.symm, upd_ne nxo.symm, upd_same]) ?_
      rw [upd_same]
      simp [ds, kidsD]
  · rintro σ H3 ⟨y3, y4, pre, dn, fs, rfl, e1, e2, e3, e4, e5, sm, eo, ex⟩
    have hf := flat_end e1 (by rw [e2, List.length_map, enc_len])
    subst hf
    refine ⟨_, rfl, q o H3 sm no ?_⟩
    rw [eo, e3]
    simp [depF]
/-! ### _law_free -/
theorem scLFree : FnScope ["_law_term_here", "_law_depths_here", "_law_found", "_law_k"] ["_law_term_here"] (defScope sLFree) := ⟨rfl, rfl, rfl, by decide +kernel, rfl, by decide +kernel, by decide +kernel⟩
theorem ok_lfree {f : Addr} {fd : FuncData} (F : Fun K "_law_free" "_law_free" sLFree f fd) (T : Known K mg C) (GD : FnOk P w K mg base CX0 2 fD dD ["_law_term_here"] (spDepths K)) (DD : Def K mg "_law_depths" fD dD ["_law_term_here"]) :
    FnOk P w K mg base CX0 3 f fd ["_law_term_here"] (spFree K false) := by
  refine F.ok scLFree (fun vs H Q E h => ?_) (fun cdv A outer s H vs Q E hr h => ?_)
  · obtain ⟨a, t, rfl, _⟩ := h
    rfl
  obtain ⟨a, t, rfl, hT, hsz, _, q⟩ := h
  refine ⟨_, pss_cons (ps_set (i := 1) scLFree.nd rfl (.inl rfl) (pe_call GD hr rfl DD.m DD.k DD.b .nil pass0 (pa_cons (pv 0) pa_nil)))
    (pss_cons (ps_set (i := 2) scLFree.nd rfl (.inl rfl) (pe_lst pa_nil))
    (pss_cons (ps_for PassesOwn.never rfl (pi_range1 rfl T.range (pa_cons (pe_callB call_len_seq (by rfl) T.len PySem.boot_len (pa_cons (pv 0) pa_nil)) pa_nil)) (pg_name (i := 3) scLFree.nd rfl (.inl rfl))
      (pss_one (ps_if (PW.pt (pw_and (pt_val (pe_callB call_isi (by rfl) T.isi boot_isi (pa_cons (pe_ix ix_tup (pv 0) (pv 3) (fun _ _ => rfl)) (pa_cons (pe_bltn (v := .ty "int") (by rfl) T.int boot_int rfl) pa_nil))))
          (pw_and (pt_cmpR op_ge (pe_ix ix_tup (pv 0) (pv 3) (fun _ _ => rfl)) (pe_ix ix_list (pv 1) (pv 3) (fun _ _ => rfl)) (nomark _))
          (pw_and1 (pt_cmpR op_notIn_seq (pe_op op_sub (pe_ix ix_tup (pv 0) (pv 3) (fun _ _ => rfl)) (pe_ix ix_list (pv 1) (pv 3) (fun _ _ => rfl))) (pv 2) (by rfl))))))
        (pss_one (ps_expr (pe_bm PySem.F.plainAttrs_list PySem.F.slot_list_append PySem.F.type_list_append mt_append (pv 2) (pa_cons (pe_op op_sub (pe_ix ix_tup (pv 0) (pv 3) (fun _ _ => rfl)) (pe_ix ix_list (pv 1) (pv 3) (fun _ _ => rfl))) pa_nil))))
        pss_nil)))
    (pss_one (ps_ret (pe_callB cr_sortedI (by rfl) T.sorted boot_sorted (pa_cons (pv 2) pa_nil)))))), ?_⟩
  refine ⟨_, rfl, a, t, rfl, hT, hsz, fun r H1 s1 nr er => ?_⟩
  refine ⟨Nat.zero_le _, fun o no => ?_⟩
  have s2 : Same H1 (upd H1 o (.lst [])) := same_new no _
  have nro : r ≠ o := ne_of_none er no
  have no' : H o = none := s1.free no
  have hlen : (tmV t).length = t.size := by rw [List.length_map, enc_len]
  refine ⟨_, rfl, a, tmV t, rfl, .inr (same_tup (s1.trans s2) hT), _, rfl, by omega, by rw [hlen]; omega, ?_⟩
  rw [hlen, Int.toNat_natCast]
  refine for_range (lo := 0) (n := t.size) (fun i σ H3 => ∃ (y3 : Option V) (l : List Int), σ = [some (.ref a), some (.ref r), some (.ref o), y3] ∧ Same H H3 ∧
      H3 r = some (.lst (ds (dep t 0))) ∧ H3 o = some (.lst (is l)) ∧ (∀ k, k ∈ l ↔ k ∈ ((zp t 0).take i).filterMap freeN) ∧ l.Nodup ∧ l.length ≤ i)
    ⟨none, [], rfl, s1.trans s2, s2 _ _ er, upd_same, fun k => ⟨fun h => (List.not_mem_nil h).elim, fun h => (List.not_mem_nil h).elim⟩, List.nodup_nil, Nat.le_refl _⟩ ?_ ?_
  · rintro i σ H3 hi ⟨y3, l, rfl, sm, er', eo, hl, hd, hll⟩
    have hlt : i < (zp t 0).length := by rw [zp_len]; exact hi
    obtain ⟨nd, d, hz0⟩ : ∃ nd d, (zp t 0)[i]? = some (nd, d) := ⟨((zp t 0)[i]'hlt).1, ((zp t 0)[i]'hlt).2, List.getElem?_eq_getElem hlt⟩
    obtain ⟨hx, hy⟩ := List.getElem?_zip_eq_some.mp hz0
    have hT3 := same_tup sm hT
    have ax : atI (tmV t) (0 + (i : Nat) : Int) = some (nv nd) := by rw [Int.zero_add]; exact at_nv hx
    have ay : atI (ds (dep t 0)) (0 + (i : Nat) : Int) = some (V.int (d : Nat)) := by rw [Int.zero_add]; exact atI_nat (by rw [List.getElem?_map, hy]; rfl)
    have nx := free_next hz0
    have stay : freeN (nd, d) = none ∨ (∃ k, freeN (nd, d) = some k ∧ k ∈ l) → ∃ (y3 : Option V) (l' : List Int), [some (V.ref a), some (.ref r), some (.ref o), some (V.int (0 + (i : Nat) : Int))] = [some (V.ref a), some (.ref r), some (.ref o), y3] ∧ Same H H3 ∧
        H3 r = some (.lst (ds (dep t 0))) ∧ H3 o = some (.lst (is l')) ∧ (∀ k, k ∈ l' ↔ k ∈ ((zp t 0).take (i + 1)).filterMap freeN) ∧ l'.Nodup ∧ l'.length ≤ i + 1 := fun hf => by
      refine ⟨_, l, rfl, sm, er', eo, fun k => ?_, hd, by omega⟩
      rw [nx, List.mem_append, ← hl]
      rcases hf with hf | ⟨k0, hf, hk0⟩
      · rw [hf]
        exact ⟨.inl, fun h => h.elim id fun h => (List.not_mem_nil h).elim⟩
      · rw [hf]
        refine ⟨.inl, fun h => h.elim id fun h => ?_⟩
        rw [List.mem_singleton.mp h]
        exact hk0
    obtain ⟨ty, k1, k2⟩ := nv_int K H3 nd
    refine ⟨_, rfl, _, rfl, a, _, _, _, rfl, rfl, hT3, ax, _, _, ty, _, nd.isV, rfl, .ty "int", k1, k2, _, rfl, ?_⟩
    cases nd with
    | l => exact noo rfl (iteF (stay (.inl rfl)))
    | a => exact noo rfl (iteF (stay (.inl rfl)))
    | v m =>
      refine yes rfl ⟨_, rfl, _, rfl, a, _, _, _, rfl, rfl, hT3, ax, _, rfl, _, rfl, r, _, _, _, rfl, rfl, SqL.of er', ay, _, _, rfl, rfl, _, rfl, both (fun c1 => ?_) (fun c1 => ?_)⟩
      · have h1 : d ≤ m := by have := of_decide_eq_true c1; omega
        have hf : freeN (.v m, d) = some ((m : Int) - d) := if_pos h1
        refine ⟨_, rfl, _, rfl, a, _, _, _, rfl, rfl, hT3, ax, _, rfl, _, rfl, r, _, _, _, rfl, rfl, SqL.of er', ay, _, _, rfl, rfl, ?_⟩
        refine ⟨_, rfl, o, _, rfl, .inl (SqL.of eo), rfl, flat_ints l, _, rfl, ?_⟩
        rw [inV_int]
        refine both (fun c2 => ?_) (fun c2 => ?_)
        · have hn : ((m : Int) - d) ∉ l := fun h => by
            have e : decide (((m : Int) - d) ∈ l) = true := decide_eq_true h
            change (!decide (((m : Int) - d) ∈ l)) = true at c2
            rw [e] at c2
            cases c2
          refine ⟨_, rfl, .inl ⟨rfl, _, .inl (.inl eo)⟩, _, rfl, _, rfl, a, _, _, _, rfl, rfl, hT3, ax, _, rfl, _, rfl, r, _, _, _, rfl, rfl, SqL.of er', ay, _, _, rfl, rfl, o, _, _, rfl, rfl, eo, sl1000 (by rw [List.length_map]; omega), ?_⟩
          refine ⟨_, l ++ [(m : Int) - d], rfl, same_upd sm no' _, by rw [upd_ne nro]; exact er', by rw [upd_same]; simp [is], fun k => ?_, ?_, by simp; omega⟩
          · rw [nx, hf, List.mem_append, List.mem_append, ← hl]
            rfl
          · rw [List.nodup_append]
            exact ⟨hd, by simp, fun x hx y hy e => hn (by rw [← List.mem_singleton.mp hy, ← e]; exact hx)⟩
        · have hm : ((m : Int) - d) ∈ l := by
            by_cases h : ((m : Int) - d) ∈ l
            · exact h
            · have e : decide (((m : Int) - d) ∈ l) = false := decide_eq_false h
              change (!decide (((m : Int) - d) ∈ l)) = false at c2
              rw [e] at c2
              cases c2
          exact stay (.inr ⟨_, hf, hm⟩)
      · have h1 : ¬ d ≤ m := by have := of_decide_eq_false c1; omega
        exact iteF (stay (.inl (if_neg h1)))
  · rintro σ H3 ⟨y3, l, rfl, sm, _, eo, hl, hd, hll⟩
    rw [← zp_len t 0, List.take_length] at hl
    refine ⟨_, rfl, o, l, rfl, SqL.of eo, fun ns' p hperm hpw np => ?_⟩
    refine q p _ ns' (sm.trans (same_new np _)) (sm.free np) upd_same (rising_of hpw (hperm.nodup_iff.mpr hd)) fun k => ?_
    rw [hperm.mem_iff, hl]
    rfl
end
end K23
namespace K23R
open PySem AutoSeq1
theorem tuple_mul_one (l : Addr) (items : Array Value) (n : Nat) (dd : Option Addr) (sl : Array (Option Value)) (u : Tok) :
    Meets (Builtin.«tuple.__mul__» ⟨[.ref l, .int 1 u], []⟩) (fun _ R s => s.heap.get? l = some { cls := .type "tuple", dict := dd, data := .seq items n, slots := sl } ∧ R (.ok (.ret (Value.ref l))) s) :=
  .of_wp fun prog w A R s h => (by
    obtain ⟨h0, gs, dr, tk, os⟩ := s
    obtain ⟨ht, hR⟩ := h
    have g1 := AutoSeq1.idx_int
    have c0 : (decide ((1 : Int) < -(2 ^ 63)) || decide ((1 : Int) ≥ 2 ^ 63)) = false := by decide
    have c1 : (items.isEmpty || (1 : Int) == 1) = true := by simp
    wp_walk using wpAny_loadPart' ht
    repeat (first
      | (refine wpAny_ite_false (decide_eq_false (Bool.eq_false_iff.mp c0)) ?_; wp_walk using wpAny_loadPart' ht)
      | (refine wpAny_ite_true (decide_eq_true c1) ?_; wp_walk using wpAny_loadPart' ht))
    exact ⟨_, rfl, hR⟩)
end K23R
namespace L2
open PySem PySem.Spec PyProof.Rows
/-- t * k, k from 1 on -/
def rRepA (K : PySem.W.Frag) : R2 := fun x y H Q => ∃ l k xs, x = .ref l ∧ y = .int k ∧ SqT K H l xs ∧ xs ≠ [] ∧ 1 ≤ k ∧ k ≤ 1000 ∧ xs.length ≤ 1000 ∧ ∀ p H', Same H H' → SqT K H' p (List.replicate k.toNat xs).flatten → Q (.ref p) H'
section
variable {X : Cx}
theorem op_repA : OpR X (binaryOp .Mult) (rRepA X.K) := by
  intro pn s σ H x y v u Q I rx ry hw
  obtain ⟨l, k, xs, rfl, rfl, hT, hne, k1, k2, hz, q⟩ := hw
  by_cases hk : k = 1
  · subst hk
    cases rx
    obtain ⟨t, rfl⟩ := ry
    obtain ⟨its, _, ⟨⟨cls, dd, data, sl⟩, ho, hc, n, hd⟩, _⟩ := I.tuple hT
    dsimp only at hc hd
    subst hc hd
    refine wpAny_binaryOp_repeat_ref (T := "tuple") (U := "int") (by decide) ⟨_, ho, rfl⟩ (fun s' => typeIs_int s' 1 t) noFill_tuple_mul F.fills_int_mul F.slot_int_rmul repeat_tuple F.slot_int_index.lookup
      (call_meets F.slot_int_rmul (typeIs_int s 1 t) F.entry_int_rmul (F.args_int_rmul_2 _ _) (int_rmul_tuple 1 t l its.toArray n dd sl)
        ⟨ho, rfl, ⟨_, ho, rfl⟩, call_meets F.slot_tuple_mul ⟨_, ho, rfl⟩ F.entry_tuple_mul (F.args_tuple_mul_2 _ _) (K23R.tuple_mul_one l its.toArray n dd sl t) ⟨ho, ?_⟩⟩)
    refine ⟨.ref l, H, I, rfl, q l H (Same.refl H) ?_⟩
    have e : (List.replicate (1 : Int).toNat xs).flatten = xs := by
      show (List.replicate 1 xs).flatten = xs
      simp
    rw [e]
    exact hT
  · refine op_repT pn s σ H _ _ v u Q I rx ry ⟨l, k, xs, rfl, rfl, hT, hne, by omega, k2, hz, fun p np => q p _ (fun b o e => ?_) (SqT.of upd_same)⟩
    rw [upd_ne (ne_of_none e np)]
    exact e
end
end L2
namespace K23
open PySem PyProof.Rows PySem.Spec L2
/-! ### the stream of the draws -/
/-- all but the object at s is as it was -/
def But (s : Addr) (H H' : Hp) : Prop := ∀ b o, b ≠ s → H b = some o → H' b = some o
theorem But.refl (s : Addr) (H : Hp) : But s H H := fun _ _ _ e => e
theorem But.trans {s : Addr} {H H1 H2 : Hp} (a : But s H H1) (b : But s H1 H2) : But s H H2 := fun c o h e => b c o h (a c o h e)
theorem same_but {s : Addr} {H H' : Hp} (a : Same H H') : But s H H' := fun c o _ e => a c o e
/-- a list of four at s: the script's own list, the number that is being used up, the next index, the mixed number -/
def Strm (K : PySem.W.Frag) (H : Hp) (s : Addr) : Prop := ∃ (l : Addr) (ns : List Int) (a b c : Int), H s = some (.lst [.ref l, .int a, .int b, .int c]) ∧ SqL K H l (is ns) ∧ l ≠ s ∧ ns.length ≤ 63 ∧ 0 ≤ a ∧ 0 ≤ b ∧ 0 ≤ c ∧ c < 2147483647
theorem Strm.same {K : PySem.W.Frag} {H H' : Hp} {s : Addr} (h : Strm K H s) (sm : Same H H') : Strm K H' s := by
  obtain ⟨l, ns, a, b, c, e, hl, r⟩ := h
  exact ⟨l, ns, a, b, c, sm _ _ e, sm.seq hl, r⟩
/-- tuples outlive the draws -/
theorem But.tup {K : PySem.W.Frag} {H H' : Hp} {s a : Addr} {xs : List V} (bt : But s H H') (h : Strm K H s) (ht : SqT K H a xs) : SqT K H' a xs := by
  obtain ⟨l, ns, x, y, z, e, _⟩ := h
  rcases ht with (ht | ⟨o, ht⟩) | ht
  · exact .inl (.inl (bt _ _ (ne_of ht e (by intro z; cases z)) ht))
  · exact .inl (.inr ⟨o, bt _ _ (ne_of ht e (by intro z; cases z)) ht⟩)
  · exact .inr ht
theorem seq_upd {K : PySem.W.Frag} {H : Hp} {s l : Addr} {xs : List V} {o : HO} (h : SqL K H l xs) (hn : l ≠ s) : SqL K (upd H s o) l xs := by
  rcases h with (h | ⟨u, h⟩) | h
  · exact .inl (.inl (by rw [upd_ne hn]; exact h))
  · exact .inl (.inr ⟨u, by rw [upd_ne hn]; exact h⟩)
  · exact .inr h
theorem but_upd {H : Hp} {s : Addr} {o : HO} : But s H (upd H s o) := fun b u hb e => by rw [upd_ne hb]; exact e
section
variable {P : Program} {w : World} {K : PySem.W.Frag} {mg : Str → Option Value} {base : Heap} {C : Addr} {fD fI : Addr} {dD dI : FuncData}
/-! ### _law_stream -/
def spStream (K : PySem.W.Frag) : Sp := fun vs H Q _ => ∃ (a : Addr) (ns : List Int), vs = [.ref a] ∧ SqL K H a (is ns) ∧ ns.length ≤ 63 ∧ ∀ s H', Same H H' → Strm K H' s → Q (.ref s) H'
theorem scStream : FnScope ["_law_script", "_law_mixed", "_law_cell"] ["_law_script"] (defScope sStream) := ⟨rfl, rfl, rfl, by decide +kernel, rfl, by decide +kernel, by decide +kernel⟩
theorem ok_stream {f : Addr} {fd : FuncData} {k : Nat} (F : Fun K "_law_stream" "_law_stream" sStream f fd) (T : Known K mg C) : FnOk P w K mg base CX0 (k + 1) f fd ["_law_script"] (spStream K) := by
  refine F.ok scStream (fun vs H Q E h => ?_) (fun cdv A outer s H vs Q E hr h => ?_)
  · obtain ⟨a, ns, rfl, _⟩ := h
    rfl
  obtain ⟨a, ns, rfl, hS, hl, q⟩ := h
  refine ⟨_, pss_cons (ps_set (i := 1) scStream.nd rfl (.inl rfl) pe_int)
    (pss_cons (ps_for PassesOwn.never rfl (pi_list (pv 0)) (pg_name (i := 2) scStream.nd rfl (.inl rfl))
      (pss_one (ps_set (i := 1) scStream.nd rfl (.inl rfl) (pe_op op_mod (pe_callTy call_int1 (by rfl) T.int boot_int (pa_cons
        (pe_op op_add (pe_op op_add (pe_op op_mul (pv 1) pe_int) (pe_op op_mod (pe_callTy call_int1 (by rfl) T.int boot_int (pa_cons (pv 2) pa_nil)) pe_int)) pe_int) pa_nil)) pe_int))))
    (pss_one (ps_ret (pe_lst (pa_cons (pe_callTy call_list_of (by rfl) T.list boot_list (pa_cons (pv 0) pa_nil)) (pa_cons pe_int (pa_cons pe_int (pa_cons (pv 1) pa_nil)))))))), ?_⟩
  refine ⟨_, rfl, a, rfl, ⟨_, hS⟩, for_it (walk_list (xs := is ns)) (fun i σ H3 => H3 = H ∧ ∃ (c : Int) (y : Option V), σ = [some (.ref a), some (.int c), y] ∧ 0 ≤ c ∧ c < 2147483647) ⟨rfl, 17, none, rfl, by decide, by decide⟩ (fun i σ H3 _ hp => by rw [hp.1]; exact hS) ?_ ?_⟩
  · rintro i x σ H3 H4 hi ⟨e3, c, y, rfl, c0, c1⟩ ⟨e4, hx⟩
    rw [List.getElem?_map, Option.map_eq_some_iff] at hx
    obtain ⟨z, hz, rfl⟩ := hx
    refine ⟨_, rfl, _, _, rfl, rfl, .inl ⟨by omega, by omega⟩, _, rfl, .inl ⟨_, rfl, _, _, rfl, rfl, (by show (0 : Int) < 65521; decide), _, _, rfl, rfl, _, _, rfl, rfl, .inl ⟨_, rfl, _, _, rfl, rfl, (by show (0 : Int) < 2147483647; decide), ?_⟩⟩⟩
    exact ⟨e4.trans e3, _, _, rfl, Int.emod_nonneg _ (by decide), Int.emod_lt_of_pos _ (by decide)⟩
  · rintro σ H3 ⟨rfl, c, y, rfl, c0, c1⟩
    refine ⟨_, rfl, a, _, rfl, .inl hS, fun l nl => ⟨_, rfl, by show 4 ≤ sizeLine; decide, fun s ns' => ?_⟩⟩
    have s1 : Same H3 (upd H3 l (.lst (is ns))) := same_new nl _
    have nls : l ≠ s := fun e => by
      rw [← e, upd_same] at ns'
      cases ns'
    exact q s _ (s1.trans (same_new ns' _)) ⟨l, ns, 0, 0, c, upd_same, seq_upd (SqL.of upd_same) nls, nls, hl, by decide, by decide, c0, c1⟩
/-! ### _law_draw -/
def spDraw (K : PySem.W.Frag) : Sp := fun vs H Q _ => ∃ (s : Addr) (m : Int), vs = [.ref s, .int m] ∧ Strm K H s ∧ 1 ≤ m ∧ m < 1000000 ∧ ∀ v H', But s H H' → Strm K H' s → 0 ≤ v → v < m → Q (.int v) H'
theorem scDraw : FnScope ["_law_stream_here", "_law_many", "_law_value"] ["_law_stream_here", "_law_many"] (defScope sDraw) := ⟨rfl, rfl, rfl, by decide +kernel, rfl, by decide +kernel, by decide +kernel⟩
theorem ok_draw {f : Addr} {fd : FuncData} {k : Nat} (F : Fun K "_law_draw" "_law_draw" sDraw f fd) (T : Known K mg C) : FnOk P w K mg base CX0 (k + 1) f fd ["_law_stream_here", "_law_many"] (spDraw K) := by
  refine F.ok scDraw (fun vs H Q E h => ?_) (fun cdv A outer sh H vs Q E hr h => ?_)
  · obtain ⟨s, m, rfl, _⟩ := h
    rfl
  obtain ⟨s, m, rfl, ⟨l, ns, a, b, c, eS, hl, hls, h63, a0, b0, c0, c1⟩, m1, m2, q⟩ := h
  refine ⟨_, C8.pss_cut (ps_if (PW.pt (pw_and (pt_cmpR op_eq (pe_ix ix_list (pv 0) pe_int (fun _ _ => rfl)) pe_int (nomark _))
        (pw_and1 (pt_cmpR op_lt (pe_ix ix_list (pv 0) pe_int (fun _ _ => rfl)) (pe_callB call_len_seq (by rfl) T.len PySem.boot_len (pa_cons (pe_ix ix_list (pv 0) pe_int (fun _ _ => rfl)) pa_nil)) (nomark _)))))
      (pss_cons (ps_asg (pe_callB call_abs (by rfl) T.abs boot_abs (pa_cons (pe_callTy call_int1 (by rfl) T.int boot_int (pa_cons (pe_ix ix_list (pe_ix ix_list (pv 0) pe_int (fun _ _ => rfl)) (pe_ix ix_list (pv 0) pe_int (fun _ _ => rfl)) (fun _ _ => rfl)) pa_nil)) pa_nil)) (pg_sub (pv 0) pe_int set_list))
        (pss_one (ps_asg (pe_op op_add (pe_ix ix_list (pv 0) pe_int (fun _ _ => rfl)) pe_int) (pg_sub (pv 0) pe_int set_list)))) pss_nil)
    (pss_cons (ps_if (pt_cmpR op_eq (pe_ix ix_list (pv 0) pe_int (fun _ _ => rfl)) pe_int (nomark _))
      (pss_cons (ps_asg (pe_op op_mod (pe_callTy call_int1 (by rfl) T.int boot_int (pa_cons (pe_op op_add (pe_op op_mul (pe_ix ix_list (pv 0) pe_int (fun _ _ => rfl)) pe_int) pe_int) pa_nil)) pe_int) (pg_sub (pv 0) pe_int set_list))
        (pss_one (ps_ret (pe_op op_mod (pe_callTy call_int1 (by rfl) T.int boot_int (pa_cons (pe_op op_fdivN (pe_ix ix_list (pv 0) pe_int (fun _ _ => rfl)) pe_int) pa_nil)) (pv 1))))) pss_nil)
    (pss_cons (ps_set (i := 2) scDraw.nd rfl (.inl rfl) (pe_op op_mod (pe_callTy call_int1 (by rfl) T.int boot_int (pa_cons (pe_ix ix_list (pv 0) pe_int (fun _ _ => rfl)) pa_nil)) (pv 1)))
    (pss_cons (ps_asg (pe_op op_fdivN (pe_ix ix_list (pv 0) pe_int (fun _ _ => rfl)) (pv 1)) (pg_sub (pv 0) pe_int set_list))
    (pss_one (ps_ret (pv 2)))))), ?_⟩
  refine ⟨fun σ' H1 => ∃ a1 b1, σ' = [some (.ref s), some (.int m), none] ∧ But s H H1 ∧ H1 s = some (.lst [.ref l, .int a1, .int b1, .int c]) ∧ SqL K H1 l (is ns) ∧ 0 ≤ a1 ∧ 0 ≤ b1, ?_, ?_⟩
  · -- the first part
    have skip : ∃ a1 b1, start ["_law_stream_here", "_law_many", "_law_value"] [V.ref s, V.int m] = [some (.ref s), some (.int m), none] ∧ But s H H ∧ H s = some (.lst [.ref l, .int a1, .int b1, .int c]) ∧ SqL K H l (is ns) ∧ 0 ≤ a1 ∧ 0 ≤ b1 := ⟨a, b, rfl, But.refl _ _, eS, hl, a0, b0⟩
    refine ⟨_, rfl, s, _, _, _, rfl, rfl, SqL.of eS, rfl, rfl, _, rfl, both (fun t1 => ?_) (fun _ => ?_)⟩
    · refine ⟨_, rfl, s, _, _, _, rfl, rfl, SqL.of eS, rfl, _, rfl, s, _, _, _, rfl, rfl, SqL.of eS, rfl, l, _, rfl, .inl hl, _, _, rfl, rfl, _, rfl, both (fun t2 => ?_) (fun _ => ?_)⟩
      · have hb : b < ((is ns).length : Nat) := of_decide_eq_true t2
        have hlen : (is ns).length = ns.length := List.length_map _
        rw [hlen] at hb
        have hbn : b.toNat < ns.length := by omega
        have eb : b = ((b.toNat : Nat) : Int) := by omega
        have hx : atI (is ns) b = some (V.int ns[b.toNat]) := by
          have h : atI (is ns) ((b.toNat : Nat) : Int) = some (V.int ns[b.toNat]) := atI_nat (by rw [List.getElem?_map, List.getElem?_eq_getElem hbn]; rfl)
          rw [← eb] at h
          exact h
        refine ⟨_, rfl, s, _, _, _, rfl, rfl, SqL.of eS, rfl, _, rfl, s, _, _, _, rfl, rfl, SqL.of eS, rfl, l, _, _, _, rfl, rfl, hl, hx, .inl ⟨_, rfl, _, rfl, ?_⟩⟩
        refine ⟨_, rfl, s, _, _, _, rfl, rfl, eS, rfl, ?_⟩
        refine ⟨_, rfl, s, _, _, _, rfl, rfl, SqL.of upd_same, rfl, _, _, rfl, rfl, _, rfl, s, _, _, _, rfl, rfl, upd_same, rfl, ?_⟩
        exact ⟨_, _, rfl, but_upd.trans but_upd, upd_same, seq_upd (seq_upd hl hls) hls, by split <;> omega, by omega⟩
      · exact skip
    · exact iteF skip
  · rintro σ' H1 ⟨a1, b1, rfl, bt, e1, hl1, a10, b10⟩
    refine ⟨_, rfl, s, _, _, _, rfl, rfl, SqL.of e1, rfl, rfl, _, rfl, both (fun t1 => ?_) (fun _ => ?_)⟩
    · -- the mixed number
      refine ⟨_, rfl, s, _, _, _, rfl, rfl, SqL.of e1, rfl, _, _, rfl, rfl, .inl ⟨by omega, by omega⟩, _, _, rfl, rfl, .inl ⟨_, rfl, _, _, rfl, rfl, (by show (0 : Int) < 2147483647; decide), ?_⟩⟩
      have n0 : 0 ≤ (c * 48271 + 11) % 2147483647 := Int.emod_nonneg _ (by decide)
      have n1 : (c * 48271 + 11) % 2147483647 < 2147483647 := Int.emod_lt_of_pos _ (by decide)
      refine ⟨_, rfl, s, _, _, _, rfl, rfl, e1, rfl, ?_⟩
      refine ⟨_, rfl, s, _, _, _, rfl, rfl, SqL.of upd_same, rfl, _, _, rfl, rfl, ⟨by decide, by decide⟩, .inl ⟨_, rfl, _, rfl, _, _, rfl, rfl, (by show (0 : Int) < m; omega), ?_⟩⟩
      exact q _ _ (bt.trans but_upd) ⟨l, ns, a1, b1, _, upd_same, seq_upd hl1 hls, hls, h63, a10, b10, n0, n1⟩ (Int.emod_nonneg _ (by omega)) (Int.emod_lt_of_pos _ (by omega))
    · refine ⟨_, rfl, s, _, _, _, rfl, rfl, SqL.of e1, rfl, .inl ⟨_, rfl, _, rfl, _, _, rfl, rfl, (by show (0 : Int) < m; omega), ?_⟩⟩
      refine ⟨_, rfl, s, _, _, _, rfl, rfl, SqL.of e1, rfl, _, rfl, _, _, rfl, rfl, ⟨by omega, by omega⟩, ?_⟩
      refine ⟨_, rfl, s, _, _, _, rfl, rfl, e1, rfl, _, rfl, ?_⟩
      have n0 : 0 ≤ a1.fdiv m := by
        rw [Int.fdiv_eq_ediv_of_nonneg _ (by omega)]
        exact Int.ediv_nonneg a10 (by omega)
      exact q _ _ (bt.trans but_upd) ⟨l, ns, _, b1, c, upd_same, seq_upd hl1 hls, hls, h63, n0, b10, c0, c1⟩ (Int.emod_nonneg _ (by omega)) (Int.emod_lt_of_pos _ (by omega))
end
end K23
namespace K23
open PySem PyProof.Rows PySem.Spec L2
/-! ### free variables of what is made -/
theorem fvs_nonneg : ∀ (t : Tm) (d : Nat) (i : Int), i ∈ fvs t d → 0 ≤ i
  | .var n, d, i, h => by
    rw [fvs_var] at h
    omega
  | .lam b, d, i, h => by
    rw [fvs_lam] at h
    exact fvs_nonneg b (d + 1) i h
  | .app f a, d, i, h => by
    rw [fvs_app, List.mem_append] at h
    exact h.elim (fvs_nonneg f d i) (fvs_nonneg a d i)
/-- one abstraction more around it -/
theorem fvs_in : ∀ (t : Tm) (d : Nat) (i : Int), i ∈ fvs t (d + 1) → i + 1 ∈ fvs t d
  | .var n, d, i, h => by
    rw [fvs_var] at h ⊢
    omega
  | .lam b, d, i, h => by
    rw [fvs_lam] at h ⊢
    exact fvs_in b (d + 1) i h
  | .app f a, d, i, h => by
    rw [fvs_app, List.mem_append] at h ⊢
    exact h.imp (fvs_in f d i) (fvs_in a d i)
/-- abstractions around a term -/
def lams : Nat → Tm → Tm
  | 0, t => t
  | m + 1, t => .lam (lams m t)
theorem lams_enc (t : Tm) : ∀ m : Nat, enc (lams m t) = List.replicate m .l ++ enc t
  | 0 => rfl
  | m + 1 => by
    rw [lams, enc, lams_enc t m]
    rfl
theorem lams_fvs (t : Tm) : ∀ (m d : Nat), fvs (lams m t) d = fvs t (d + m)
  | 0, d => rfl
  | m + 1, d => by
    rw [lams, fvs_lam, lams_fvs t m (d + 1), show d + 1 + m = d + (m + 1) by omega]
theorem lams_size (t : Tm) : ∀ m : Nat, (lams m t).size = m + t.size
  | 0 => by simp [lams]
  | m + 1 => by
    rw [lams, Tm.size, lams_size t m]
    omega
theorem one_tup {x : V} : ([x] : List V).length ≤ sizeLine := by
  show 1 ≤ sizeLine
  decide
section
variable {P : Program} {w : World} {K : PySem.W.Frag} {mg : Str → Option Value} {base : Heap} {C : Addr} {fD fT fC fR : Addr} {dD dT dC dR : FuncData}
/-! ### _law_term -/
def spTerm (K : PySem.W.Frag) (n : Nat) : Sp := fun vs H Q _ => ∃ (s : Addr) (z d : Nat), vs = [.ref s, .int (z : Nat), .int (d : Nat)] ∧ Strm K H s ∧ 1 ≤ z ∧ z ≤ n ∧ n ≤ 100 ∧ d + n ≤ 1000 ∧
  ∀ t r H', But s H H' → Strm K H' s → SqT K H' r (tmV t) → t.size + 2 ≤ 3 * z → (∀ i, i ∈ fvs t d → i < 8) → Q (.ref r) H'
theorem scTerm : FnScope ["_law_stream_here", "_law_size", "_law_depth", "_law_pick", "_law_half"] ["_law_stream_here", "_law_size", "_law_depth"] (defScope sTerm) := ⟨rfl, rfl, rfl, by decide +kernel, rfl, by decide +kernel, by decide +kernel⟩
theorem args3 {s : Addr} {a b c d : Int} (h1 : a = b) (h2 : c = d) : [V.ref s, V.int a, V.int c] ++ [] = [V.ref s, V.int b, V.int d] := by
  rw [h1, h2]
  rfl
theorem nat_of {v : Int} (h : 0 ≤ v) : ∃ n : Nat, v = (n : Nat) := ⟨v.toNat, by omega⟩
theorem ok_term_next {f : Addr} {fd : FuncData} {n : Nat} (F : Fun K "_law_term" "_law_term" sTerm f fd) (GD : FnOk P w K mg base CX0 1 fD dD ["_law_stream_here", "_law_many"] (spDraw K)) (DD : Def K mg "_law_draw" fD dD ["_law_stream_here", "_law_many"])
    (GT : FnOk P w K mg base CX0 (n + 1) f fd ["_law_stream_here", "_law_size", "_law_depth"] (spTerm K n)) (DT : Def K mg "_law_term" f fd ["_law_stream_here", "_law_size", "_law_depth"]) :
    FnOk P w K mg base CX0 (n + 1 + 1) f fd ["_law_stream_here", "_law_size", "_law_depth"] (spTerm K (n + 1)) := by
  refine F.ok scTerm (fun vs H Q E h => ?_) (fun cdv A outer sh H vs Q E hr h => ?_)
  · obtain ⟨s, z, d, rfl, _⟩ := h
    rfl
  obtain ⟨s, z, d, rfl, hS, z1, zn, nm, dn, q⟩ := h
  have hr1 : Room 1 _ := hr.mono (by omega)
  refine ⟨_, pss_cons (ps_if (pt_cmpR op_lt (pv 1) pe_int (nomark _)) (pss_one (ps_ret (pe_tup (pa_cons (pe_call GD hr1 rfl DD.m DD.k DD.b .nil pass0 (pa_cons (pv 0) (pa_cons (pe_op op_add (pv 2) pe_int) pa_nil))) pa_nil)))) pss_nil)
    (pss_cons (ps_set (i := 3) scTerm.nd rfl (.inl rfl) (pe_call GD hr1 rfl DD.m DD.k DD.b .nil pass0 (pa_cons (pv 0) (pa_cons pe_int pa_nil))))
    (pss_cons (ps_if (pt_cmpR op_lt (pv 3) pe_int (nomark _)) (pss_one (ps_ret (pe_op op_catA (pe_tup (pa_cons pe_str pa_nil)) (pe_call GT hr rfl DT.m DT.k DT.b .nil pass0 (pa_cons (pv 0) (pa_cons (pe_op op_sub (pv 1) pe_int) (pa_cons (pe_op op_add (pv 2) pe_int) pa_nil))))))) pss_nil)
    (pss_cons (ps_set (i := 4) scTerm.nd rfl (.inl rfl) (pe_op op_add pe_int (pe_call GD hr1 rfl DD.m DD.k DD.b .nil pass0 (pa_cons (pv 0) (pa_cons (pe_op op_sub (pv 1) pe_int) pa_nil)))))
    (pss_cons (ps_if (pt_cmpR op_eq (pv 3) pe_int (nomark _))
      (pss_one (ps_ret (pe_op op_catA (pe_op op_catA (pe_tup (pa_cons pe_str (pa_cons pe_str pa_nil))) (pe_call GT hr rfl DT.m DT.k DT.b .nil pass0 (pa_cons (pv 0) (pa_cons (pv 4) (pa_cons (pe_op op_add (pv 2) pe_int) pa_nil)))))
        (pe_call GT hr rfl DT.m DT.k DT.b .nil pass0 (pa_cons (pv 0) (pa_cons (pe_op op_sub (pv 1) (pv 4)) (pa_cons (pv 2) pa_nil))))))) pss_nil)
    (pss_one (ps_ret (pe_op op_catA (pe_op op_catA (pe_tup (pa_cons pe_str pa_nil)) (pe_call GT hr rfl DT.m DT.k DT.b .nil pass0 (pa_cons (pv 0) (pa_cons (pv 4) (pa_cons (pv 2) pa_nil)))))
        (pe_call GT hr rfl DT.m DT.k DT.b .nil pass0 (pa_cons (pv 0) (pa_cons (pe_op op_sub (pv 1) (pv 4)) (pa_cons (pv 2) pa_nil))))))))))), ?_⟩
  refine ⟨_, rfl, _, _, rfl, rfl, _, rfl, both (fun t1 => ?_) (fun t1 => ?_)⟩
  · -- a variable
    have hz : z < 2 := by have := of_decide_eq_true t1; omega
    refine ⟨_, rfl, _, rfl, _, _, rfl, rfl, s, _, rfl, hS, by omega, by omega, fun v H1 b1 S1 v0 v1 => ⟨one_tup, fun r nr => ?_⟩⟩
    obtain ⟨k, rfl⟩ := nat_of v0
    refine q (.var k) r _ (b1.trans (same_but (same_new nr _))) (S1.same (same_new nr _)) (SqT.of upd_same) (by simp [Tm.size]; omega) fun i hi => ?_
    rw [fvs_var] at hi
    omega
  have hz : ¬ z < 2 := by have := of_decide_eq_false t1; omega
  refine ⟨_, rfl, s, 5, rfl, hS, by decide, by decide, fun pk H1 b1 S1 pk0 pk1 => ?_⟩
  refine ⟨_, rfl, _, _, rfl, rfl, _, rfl, both (fun t2 => ?_) (fun t2 => ?_)⟩
  · -- an abstraction
    refine ⟨one_tup, fun p np => ⟨_, rfl, _, rfl, _, _, rfl, rfl, _, rfl, _, _, rfl, rfl, s, z - 1, d + 1, ?_, S1.same (same_new np _), by omega, by omega, by omega, by omega, fun t r H2 b2 S2 e2 sz fv => ?_⟩⟩
    · rw [show ((z - 1 : Nat) : Int) = (z : Int) - 1 by omega]
      rfl
    have g1 : SqT K H2 p [V.str "lam"] := b2.tup (S1.same (same_new np _)) (SqT.of upd_same)
    refine rcat_of g1 e2 ?_ fun r' H3 s3 e3 => ?_
    · rw [List.length_map, enc_len]
      exact Nat.le_of_lt (sl1000 (by simp; omega))
    · exact q (.lam t) r' H3 ((b1.trans (same_but (same_new np _))).trans (b2.trans (same_but s3))) (S2.same s3) e3 (by simp only [Tm.size]; omega) fun i hi => fv i (by rw [fvs_lam] at hi; exact hi)
  refine ⟨_, rfl, _, rfl, _, _, rfl, rfl, s, _, rfl, S1, by omega, by omega, fun hv H2 b2 S2 hv0 hv1 => ?_⟩
  obtain ⟨k, rfl⟩ := nat_of hv0
  refine ⟨_, _, rfl, rfl, ?_⟩
  have b12 := b1.trans b2
  have kz : k < z - 1 := by omega
  have ez1 : (1 + (k : Nat) : Int) = ((k + 1 : Nat) : Int) := by omega
  have ez2 : ((z : Nat) - (1 + (k : Nat)) : Int) = ((z - (k + 1) : Nat) : Int) := by omega
  refine ⟨_, rfl, rfl, _, rfl, both (fun t3 => ?_) (fun t3 => ?_)⟩
  · -- a redex
    refine ⟨by show 2 ≤ sizeLine; decide, fun p np => ⟨_, rfl, _, rfl, _, rfl, _, _, rfl, rfl, s, k + 1, d + 1, args3 ez1 rfl, S2.same (same_new np _), by omega, by omega, by omega, by omega, fun t r H3 b3 S3 e3 sz3 fv3 => ?_⟩⟩
    have g3 : SqT K H3 p [V.str "app", V.str "lam"] := b3.tup (S2.same (same_new np _)) (SqT.of upd_same)
    refine rcat_of g3 e3 ?_ fun r4 H4 s4 e4 => ?_
    · rw [List.length_map, enc_len]
      exact Nat.le_of_lt (sl1000 (by simp; omega))
    have S4 := S3.same s4
    refine ⟨_, rfl, _, rfl, _, rfl, _, _, rfl, rfl, _, rfl, s, z - (k + 1), d, args3 ez2 rfl, S4, by omega, by omega, by omega, by omega, fun t5 r5 H5 b5 S5 e5 sz5 fv5 => ?_⟩
    refine rcat_of (b5.tup S4 e4) e5 ?_ fun r6 H6 s6 e6 => ?_
    · rw [List.length_append, List.length_map, List.length_map, enc_len, enc_len]
      exact Nat.le_of_lt (sl1000 (by simp; omega))
    refine q (.app (.lam t) t5) r6 H6 ((b12.trans (same_but (same_new np _))).trans ((b3.trans (same_but s4)).trans (b5.trans (same_but s6)))) (S5.same s6) ?_ (by simp only [Tm.size]; omega) fun i hi => ?_
    · have e : tmV (.app (.lam t) t5) = [V.str "app", V.str "lam"] ++ tmV t ++ tmV t5 := by simp [tmV, enc, nv]
      rw [e]
      exact e6
    · rw [fvs_app, fvs_lam, List.mem_append] at hi
      exact hi.elim (fv3 i) (fv5 i)
  · -- an application
    refine ⟨one_tup, fun p np => ⟨_, rfl, _, rfl, _, rfl, s, k + 1, d, args3 ez1 rfl, S2.same (same_new np _), by omega, by omega, by omega, by omega, fun t r H3 b3 S3 e3 sz3 fv3 => ?_⟩⟩
    have g3 : SqT K H3 p [V.str "app"] := b3.tup (S2.same (same_new np _)) (SqT.of upd_same)
    refine rcat_of g3 e3 ?_ fun r4 H4 s4 e4 => ?_
    · rw [List.length_map, enc_len]
      exact Nat.le_of_lt (sl1000 (by simp; omega))
    have S4 := S3.same s4
    refine ⟨_, rfl, _, rfl, _, rfl, _, _, rfl, rfl, _, rfl, s, z - (k + 1), d, args3 ez2 rfl, S4, by omega, by omega, by omega, by omega, fun t5 r5 H5 b5 S5 e5 sz5 fv5 => ?_⟩
    refine rcat_of (b5.tup S4 e4) e5 ?_ fun r6 H6 s6 e6 => ?_
    · rw [List.length_append, List.length_map, List.length_map, enc_len, enc_len]
      exact Nat.le_of_lt (sl1000 (by simp; omega))
    refine q (.app t t5) r6 H6 ((b12.trans (same_but (same_new np _))).trans ((b3.trans (same_but s4)).trans (b5.trans (same_but s6)))) (S5.same s6) ?_ (by simp only [Tm.size]; omega) fun i hi => ?_
    · have e : tmV (.app t t5) = [V.str "app"] ++ tmV t ++ tmV t5 := by simp [tmV, enc, nv]
      rw [e]
      exact e6
    · rw [fvs_app, List.mem_append] at hi
      exact hi.elim (fv3 i) (fv5 i)
theorem ok_term {f : Addr} {fd : FuncData} (F : Fun K "_law_term" "_law_term" sTerm f fd) (GD : FnOk P w K mg base CX0 1 fD dD ["_law_stream_here", "_law_many"] (spDraw K)) (DD : Def K mg "_law_draw" fD dD ["_law_stream_here", "_law_many"])
    (DT : Def K mg "_law_term" f fd ["_law_stream_here", "_law_size", "_law_depth"]) : ∀ n : Nat, FnOk P w K mg base CX0 (n + 1) f fd ["_law_stream_here", "_law_size", "_law_depth"] (spTerm K n)
  | 0 => by
    have no : ∀ vs H Q E, ¬ spTerm K 0 vs H Q E := fun vs H Q E h => by
      obtain ⟨s, z, d, _, _, h1, h2, _⟩ := h
      omega
    exact ⟨fun vs H Q E h => absurd h (no vs H Q E), fun A outer s H args us vs Q E _ _ _ _ h => absurd h (no vs H Q E)⟩
  | n + 1 => ok_term_next F GD DD (ok_term F GD DD DT n) DT
end
end K23
namespace K23
open PySem PyProof.Rows PySem.Spec L2
section
variable {P : Program} {w : World} {K : PySem.W.Frag} {mg : Str → Option Value} {base : Heap} {C : Addr} {fD fT fC fR : Addr} {dD dT dC dR : FuncData}
/-! ### _law_closed_term -/
def spClosed (K : PySem.W.Frag) : Sp := fun vs H Q _ => ∃ (s : Addr), vs = [.ref s] ∧ Strm K H s ∧
  ∀ t r H', But s H H' → Strm K H' s → SqT K H' r (tmV t) → t.size ≤ 10 → (∀ i, i ∈ fvs t 0 → i < 8) → Q (.ref r) H'
theorem scClosed : FnScope ["_law_stream_here", "_law_many", "_law_term_here", "_law_k", "_law_other"] ["_law_stream_here"] (defScope sClosed) := ⟨rfl, rfl, rfl, by decide +kernel, rfl, by decide +kernel, by decide +kernel⟩
theorem ok_closed {f : Addr} {fd : FuncData} (F : Fun K "_law_closed_term" "_law_closed_term" sClosed f fd) (T : Known K mg C) (GD : FnOk P w K mg base CX0 1 fD dD ["_law_stream_here", "_law_many"] (spDraw K)) (DD : Def K mg "_law_draw" fD dD ["_law_stream_here", "_law_many"]) :
    FnOk P w K mg base CX0 2 f fd ["_law_stream_here"] (spClosed K) := by
  refine F.ok scClosed (fun vs H Q E h => ?_) (fun cdv A outer sh H vs Q E hr h => ?_)
  · obtain ⟨s, rfl, _⟩ := h
    rfl
  obtain ⟨s, rfl, hS, q⟩ := h
  refine ⟨_, pss_cons (ps_if (pt_cmpR op_eq (pe_call GD hr rfl DD.m DD.k DD.b .nil pass0 (pa_cons (pv 0) (pa_cons pe_int pa_nil))) pe_int (nomark _))
      (pss_one (ps_ret (pe_tup (pa_cons (pe_call GD hr rfl DD.m DD.k DD.b .nil pass0 (pa_cons (pv 0) (pa_cons pe_int pa_nil))) pa_nil)))) pss_nil)
    (pss_cons (ps_set (i := 1) scClosed.nd rfl (.inl rfl) (pe_op op_add pe_int (pe_call GD hr rfl DD.m DD.k DD.b .nil pass0 (pa_cons (pv 0) (pa_cons pe_int pa_nil)))))
    (pss_cons (ps_set (i := 2) scClosed.nd rfl (.inl rfl) (pe_tup (pa_cons (pe_call GD hr rfl DD.m DD.k DD.b .nil pass0 (pa_cons (pv 0) (pa_cons (pv 1) pa_nil))) pa_nil)))
    (pss_cons (ps_for PassesOwn.never rfl (pi_range1 rfl T.range (pa_cons (pe_call GD hr rfl DD.m DD.k DD.b .nil pass0 (pa_cons (pv 0) (pa_cons pe_int pa_nil))) pa_nil)) (pg_name (i := 3) scClosed.nd rfl (.inl rfl))
      (pss_cons (ps_set (i := 4) scClosed.nd rfl (.inl rfl) (pe_tup (pa_cons (pe_call GD hr rfl DD.m DD.k DD.b .nil pass0 (pa_cons (pv 0) (pa_cons (pv 1) pa_nil))) pa_nil)))
      (pss_one (ps_if (pt_cmpR op_eq (pe_call GD hr rfl DD.m DD.k DD.b .nil pass0 (pa_cons (pv 0) (pa_cons pe_int pa_nil))) pe_int (nomark _))
        (pss_one (ps_set (i := 2) scClosed.nd rfl (.inl rfl) (pe_op op_catA (pe_op op_catA (pe_tup (pa_cons pe_str pa_nil)) (pv 2)) (pv 4))))
        (pss_one (ps_set (i := 2) scClosed.nd rfl (.inl rfl) (pe_op op_catA (pe_op op_catA (pe_tup (pa_cons pe_str pa_nil)) (pv 4)) (pv 2))))))))
    (pss_one (ps_ret (pe_op op_catA (pe_op op_repA (pe_tup (pa_cons pe_str pa_nil)) (pv 1)) (pv 2))))))), ?_⟩
  refine ⟨_, rfl, s, 8, rfl, hS, by decide, by decide, fun v0 H0 b0 S0 v00 v01 => ⟨rfl, _, rfl, both (fun t1 => ?_) (fun t1 => ?_)⟩⟩
  · refine ⟨_, rfl, s, 8, rfl, S0, by decide, by decide, fun v1 H1 b1 S1 v10 v11 => ⟨one_tup, fun r nr => ?_⟩⟩
    obtain ⟨k, rfl⟩ := nat_of v10
    refine q (.var k) r _ ((b0.trans b1).trans (same_but (same_new nr _))) (S1.same (same_new nr _)) (SqT.of upd_same) (by simp [Tm.size]) fun i hi => ?_
    rw [fvs_var] at hi
    omega
  refine ⟨_, rfl, s, 3, rfl, S0, by decide, by decide, fun v1 H1 b1 S1 v10 v11 => ⟨_, _, rfl, rfl, ?_⟩⟩
  obtain ⟨m0, rfl⟩ := nat_of v10
  have em : (1 + (m0 : Nat) : Int).toNat = m0 + 1 := by omega
  have m3 : m0 + 1 ≤ 3 := by omega
  refine ⟨_, rfl, _, rfl, s, _, rfl, S1, by omega, by omega, fun v2 H2 b2 S2 v20 v21 => ⟨one_tup, fun r nr => ?_⟩⟩
  obtain ⟨k2, rfl⟩ := nat_of v20
  have S2' : Strm K (upd H2 r (.tup [V.int (k2 : Nat)])) s := S2.same (same_new nr _)
  have b02 : But s H (upd H2 r (.tup [V.int (k2 : Nat)])) := ((b0.trans b1).trans b2).trans (same_but (same_new nr _))
  refine ⟨_, rfl, s, 4, rfl, S2', by decide, by decide, fun v3 H3 b3 S3 v30 v31 => ?_⟩
  obtain ⟨n, rfl⟩ := nat_of v30
  refine ⟨_, rfl, by omega, by omega, ?_⟩
  rw [Int.toNat_natCast]
  refine for_range (lo := 0) (n := n) (fun i σ H4 => ∃ (r : Addr) (u : Tm) (y3 y4 : Option V), σ = [some (.ref s), some (.int (1 + (m0 : Nat) : Int)), some (.ref r), y3, y4] ∧ But s H H4 ∧ Strm K H4 s ∧ SqT K H4 r (tmV u) ∧ u.size ≤ 1 + 2 * i ∧ ∀ i, i ∉ fvs u (m0 + 1))
    ⟨r, .var k2, none, none, rfl, b02.trans b3, S3, b3.tup S2' (SqT.of upd_same), by simp [Tm.size], fun i hi => by rw [fvs_var] at hi; omega⟩ ?_ ?_
  · rintro i σ H4 hi ⟨r4, u, y3, y4, rfl, b4, S4, e4, z4, fv4⟩
    refine ⟨_, rfl, _, rfl, s, _, rfl, S4, by omega, by omega, fun v5 H5 b5 S5 v50 v51 => ⟨one_tup, fun r5 nr5 => ?_⟩⟩
    obtain ⟨k5, rfl⟩ := nat_of v50
    have S5' : Strm K (upd H5 r5 (.tup [V.int (k5 : Nat)])) s := S5.same (same_new nr5 _)
    have b5' : But s H4 (upd H5 r5 (.tup [V.int (k5 : Nat)])) := b5.trans (same_but (same_new nr5 _))
    refine ⟨_, rfl, s, 2, rfl, S5', by decide, by decide, fun v6 H6 b6 S6 v60 v61 => ⟨rfl, _, rfl, ?_⟩⟩
    have g4 : SqT K H6 r4 (tmV u) := (b5'.trans b6).tup S4 e4
    have g5 : SqT K H6 r5 (tmV (.var k5)) := b6.tup S5' (SqT.of upd_same)
    have fv5 : ∀ i, i ∉ fvs (.var k5) (m0 + 1) := fun i hi => by rw [fvs_var] at hi; omega
    refine both (fun _ => ?_) (fun _ => ?_)
    · refine ⟨one_tup, fun p np => ⟨_, rfl, ?_⟩⟩
      have sp : Same H6 (upd H6 p (.tup [V.str "app"])) := same_new np _
      refine rcat_of (SqT.of upd_same) (same_tup sp g4) ?_ fun r7 H7 s7 e7 => ?_
      · rw [List.length_map, enc_len]
        exact Nat.le_of_lt (sl1000 (by simp; omega))
      refine ⟨_, rfl, rcat_of e7 (same_tup (sp.trans s7) g5) ?_ fun r8 H8 s8 e8 => ?_⟩
      · rw [List.length_append, List.length_map, List.length_map, enc_len, enc_len]
        exact Nat.le_of_lt (sl1000 (by simp [Tm.size]; omega))
      have s68 : Same H6 H8 := (sp.trans s7).trans s8
      refine ⟨r8, .app u (.var k5), _, _, rfl, (b4.trans (b5'.trans b6)).trans (same_but s68), S6.same s68, ?_, by simp only [Tm.size]; omega, fun i hi => ?_⟩
      · have e : tmV (.app u (.var k5)) = [V.str "app"] ++ tmV u ++ tmV (.var k5) := by simp [tmV, enc, nv]
        rw [e]
        exact e8
      · rw [fvs_app, List.mem_append] at hi
        exact hi.elim (fv4 i) (fv5 i)
    · refine ⟨one_tup, fun p np => ⟨_, rfl, ?_⟩⟩
      have sp : Same H6 (upd H6 p (.tup [V.str "app"])) := same_new np _
      refine rcat_of (SqT.of upd_same) (same_tup sp g5) ?_ fun r7 H7 s7 e7 => ?_
      · rw [List.length_map, enc_len]
        exact Nat.le_of_lt (sl1000 (by simp [Tm.size]))
      refine ⟨_, rfl, rcat_of e7 (same_tup (sp.trans s7) g4) ?_ fun r8 H8 s8 e8 => ?_⟩
      · rw [List.length_append, List.length_map, List.length_map, enc_len, enc_len]
        exact Nat.le_of_lt (sl1000 (by simp [Tm.size]; omega))
      have s68 : Same H6 H8 := (sp.trans s7).trans s8
      refine ⟨r8, .app (.var k5) u, _, _, rfl, (b4.trans (b5'.trans b6)).trans (same_but s68), S6.same s68, ?_, by simp only [Tm.size]; omega, fun i hi => ?_⟩
      · have e : tmV (.app (.var k5) u) = [V.str "app"] ++ tmV (.var k5) ++ tmV u := by simp [tmV, enc, nv]
        rw [e]
        exact e8
      · rw [fvs_app, List.mem_append] at hi
        exact hi.elim (fv5 i) (fv4 i)
  · rintro σ H4 ⟨r4, u, y3, y4, rfl, b4, S4, e4, z4, fv4⟩
    refine ⟨one_tup, fun p np => ⟨_, rfl, p, _, _, rfl, rfl, SqT.of upd_same, by simp, by omega, by omega, by show 1 ≤ 1000; decide, fun p5 H5 s5 e5 => ⟨_, rfl, ?_⟩⟩⟩
    have sp : Same H4 (upd H4 p (.tup [V.str "lam"])) := same_new np _
    have er : (List.replicate (1 + (m0 : Nat) : Int).toNat [V.str "lam"]).flatten = (List.replicate (m0 + 1) Nd.l).map nv := by
      rw [em]
      clear em m3
      induction m0 + 1 with
      | zero => rfl
      | succ j ih => rw [List.replicate_succ, List.flatten_cons, ih, List.replicate_succ]; rfl
    rw [er] at e5
    refine rcat_of e5 (same_tup (sp.trans s5) e4) ?_ fun r6 H6 s6 e6 => ?_
    · rw [List.length_map, List.length_map, List.length_replicate, enc_len]
      exact Nat.le_of_lt (sl1000 (by omega))
    have s46 : Same H4 H6 := (sp.trans s5).trans s6
    refine q (lams (m0 + 1) u) r6 H6 (b4.trans (same_but s46)) (S4.same s46) ?_ (by rw [lams_size]; omega) fun i hi => ?_
    · unfold tmV
      rw [lams_enc, List.map_append]
      exact e6
    · rw [lams_fvs, Nat.zero_add] at hi
      exact absurd hi (fv4 i)
/-! ### _law_rich -/
def spRich (K : PySem.W.Frag) (n : Nat) : Sp := fun vs H Q _ => ∃ (s : Addr) (z : Nat), vs = [.ref s, .int (z : Nat)] ∧ Strm K H s ∧ 1 ≤ z ∧ z ≤ n ∧ n ≤ 20 ∧
  ∀ t r H', But s H H' → Strm K H' s → SqT K H' r (tmV t) → t.size + 1 ≤ 41 * z → (∀ i, i ∈ fvs t 0 → i < 8) → Q (.ref r) H'
theorem scRich : FnScope ["_law_stream_here", "_law_size", "_law_pick", "_law_half"] ["_law_stream_here", "_law_size"] (defScope sRich) := ⟨rfl, rfl, rfl, by decide +kernel, rfl, by decide +kernel, by decide +kernel⟩
theorem args2 {s : Addr} {a b : Int} (h1 : a = b) : [V.ref s, V.int a] ++ [] = [V.ref s, V.int b] := by
  rw [h1]
  rfl
theorem ok_rich_next {f : Addr} {fd : FuncData} {n : Nat} (F : Fun K "_law_rich" "_law_rich" sRich f fd) (GD : FnOk P w K mg base CX0 1 fD dD ["_law_stream_here", "_law_many"] (spDraw K)) (DD : Def K mg "_law_draw" fD dD ["_law_stream_here", "_law_many"])
    (GC : FnOk P w K mg base CX0 2 fC dC ["_law_stream_here"] (spClosed K)) (DC : Def K mg "_law_closed_term" fC dC ["_law_stream_here"])
    (GT : FnOk P w K mg base CX0 13 fT dT ["_law_stream_here", "_law_size", "_law_depth"] (spTerm K 12)) (DT : Def K mg "_law_term" fT dT ["_law_stream_here", "_law_size", "_law_depth"])
    (GR : FnOk P w K mg base CX0 (n + 13) f fd ["_law_stream_here", "_law_size"] (spRich K n)) (DR : Def K mg "_law_rich" f fd ["_law_stream_here", "_law_size"]) :
    FnOk P w K mg base CX0 (n + 13 + 1) f fd ["_law_stream_here", "_law_size"] (spRich K (n + 1)) := by
  refine F.ok scRich (fun vs H Q E h => ?_) (fun cdv A outer sh H vs Q E hr h => ?_)
  · obtain ⟨s, z, rfl, _⟩ := h
    rfl
  obtain ⟨s, z, rfl, hS, z1, zn, n20, q⟩ := h
  have hr1 : Room 1 _ := hr.mono (by omega)
  have hr2 : Room 2 _ := hr.mono (by omega)
  have hr13 : Room 13 _ := hr.mono (by omega)
  refine ⟨_, pss_cons (ps_set (i := 2) scRich.nd rfl (.inl rfl) (pe_call GD hr1 rfl DD.m DD.k DD.b .nil pass0 (pa_cons (pv 0) (pa_cons pe_int pa_nil))))
    (pss_cons (ps_if (PW.pt (pw_or (pt_cmpR op_lt (pv 1) pe_int (nomark _)) (pw_or1 (pt_cmpR op_eq (pv 2) pe_int (nomark _))))) (pss_one (ps_ret (pe_call GC hr2 rfl DC.m DC.k DC.b .nil pass0 (pa_cons (pv 0) pa_nil)))) pss_nil)
    (pss_cons (ps_if (pt_cmpR op_eq (pv 2) pe_int (nomark _)) (pss_one (ps_ret (pe_call GT hr13 rfl DT.m DT.k DT.b .nil pass0 (pa_cons (pv 0) (pa_cons (pe_op op_add pe_int (pe_call GD hr1 rfl DD.m DD.k DD.b .nil pass0 (pa_cons (pv 0) (pa_cons pe_int pa_nil)))) (pa_cons pe_int pa_nil)))))) pss_nil)
    (C8.pss_cut (ps_if (PW.pt (pw_and (pt_cmpR op_eq (pv 2) pe_int (nomark _)) (pw_and1 (pt_cmpR op_gt (pv 1) pe_int (nomark _)))))
      (pss_one (ps_ret (pe_op op_catA (pe_tup (pa_cons pe_str pa_nil)) (pe_call GR hr rfl DR.m DR.k DR.b .nil pass0 (pa_cons (pv 0) (pa_cons (pe_op op_sub (pv 1) pe_int) pa_nil)))))) pss_nil)
    (pss_cons (ps_set (i := 3) scRich.nd rfl (.inl rfl) (pe_op op_add pe_int (pe_call GD hr1 rfl DD.m DD.k DD.b .nil pass0 (pa_cons (pv 0) (pa_cons (pe_op op_sub (pv 1) pe_int) pa_nil)))))
    (pss_one (ps_ret (pe_op op_catA (pe_op op_catA (pe_tup (pa_cons pe_str pa_nil)) (pe_call GR hr rfl DR.m DR.k DR.b .nil pass0 (pa_cons (pv 0) (pa_cons (pv 3) pa_nil))))
        (pe_call GR hr rfl DR.m DR.k DR.b .nil pass0 (pa_cons (pv 0) (pa_cons (pe_op op_sub (pv 1) (pv 3)) pa_nil)))))))))), ?_⟩
  refine ⟨_, rfl, s, 4, rfl, hS, by decide, by decide, fun pk H1 b1 S1 pk0 pk1 => ?_⟩
  have closed : spClosed K ([V.ref s] ++ []) H1 Q E := ⟨s, rfl, S1, fun t r H' b' S' e' sz fv => q t r H' (b1.trans b') S' e' (by omega) fv⟩
  refine ⟨_, rfl, _, _, rfl, rfl, _, rfl, both (fun t1 => ⟨_, rfl, closed⟩) (fun t1 => ?_)⟩
  have hz : ¬ z < 2 := by have := of_decide_eq_false t1; omega
  refine ⟨_, rfl, rfl, _, rfl, both (fun t2 => ⟨_, rfl, closed⟩) (fun t2 => ?_)⟩
  refine ⟨_, rfl, rfl, _, rfl, both (fun t3 => ?_) (fun t3 => ?_)⟩
  · -- a term
    refine ⟨_, rfl, _, rfl, s, 12, rfl, S1, by decide, by decide, fun v2 H2 b2 S2 v20 v21 => ⟨_, _, rfl, rfl, ?_⟩⟩
    obtain ⟨k, rfl⟩ := nat_of v20
    exact ⟨s, k + 1, 0, args3 (by omega) rfl, S2, by omega, by omega, by decide, by decide, fun t r H' b' S' e' sz fv => q t r H' ((b1.trans b2).trans b') S' e' (by omega) fv⟩
  refine ⟨fun σ' H' => σ' = [some (.ref s), some (.int (z : Nat)), some (.int pk), none] ∧ H' = H1, ⟨_, rfl, rfl, _, rfl, both (fun t4 => ?_) (fun _ => iteF ⟨rfl, rfl⟩)⟩, ?_⟩
  · refine ⟨_, rfl, _, _, rfl, rfl, _, rfl, both (fun t5 => ?_) (fun _ => ⟨rfl, rfl⟩)⟩
    -- an abstraction
    have hz2 : 2 < z := by have := of_decide_eq_true t5; omega
    refine ⟨one_tup, fun p np => ⟨_, rfl, _, rfl, _, _, rfl, rfl, s, z - 1, args2 (by omega), S1.same (same_new np _), by omega, by omega, by omega, fun t r H2 b2 S2 e2 sz fv => ?_⟩⟩
    have g1 : SqT K H2 p [V.str "lam"] := b2.tup (S1.same (same_new np _)) (SqT.of upd_same)
    refine rcat_of g1 e2 ?_ fun r' H3 s3 e3 => ?_
    · rw [List.length_map, enc_len]
      exact Nat.le_of_lt (sl1000 (by simp; omega))
    refine q (.lam t) r' H3 ((b1.trans (same_but (same_new np _))).trans (b2.trans (same_but s3))) (S2.same s3) e3 (by simp only [Tm.size]; omega) fun i hi => ?_
    rw [fvs_lam] at hi
    have := fv _ (fvs_in t 0 i hi)
    omega
  · rintro σ' H' ⟨rfl, rfl⟩
    refine ⟨_, rfl, _, rfl, _, _, rfl, rfl, s, _, rfl, S1, by omega, by omega, fun hv H2 b2 S2 hv0 hv1 => ?_⟩
    obtain ⟨k, rfl⟩ := nat_of hv0
    refine ⟨_, _, rfl, rfl, ?_⟩
    have b12 := b1.trans b2
    have kz : k < z - 1 := by omega
    have ez1 : (1 + (k : Nat) : Int) = ((k + 1 : Nat) : Int) := by omega
    have ez2 : ((z : Nat) - (1 + (k : Nat)) : Int) = ((z - (k + 1) : Nat) : Int) := by omega
    refine ⟨one_tup, fun p np => ⟨_, rfl, _, rfl, s, k + 1, args2 ez1, S2.same (same_new np _), by omega, by omega, by omega, fun t r H3 b3 S3 e3 sz3 fv3 => ?_⟩⟩
    have g3 : SqT K H3 p [V.str "app"] := b3.tup (S2.same (same_new np _)) (SqT.of upd_same)
    refine rcat_of g3 e3 ?_ fun r4 H4 s4 e4 => ?_
    · rw [List.length_map, enc_len]
      exact Nat.le_of_lt (sl1000 (by simp; omega))
    have S4 := S3.same s4
    refine ⟨_, rfl, _, rfl, _, rfl, _, _, rfl, rfl, s, z - (k + 1), args2 ez2, S4, by omega, by omega, by omega, fun t5 r5 H5 b5 S5 e5 sz5 fv5 => ?_⟩
    refine rcat_of (b5.tup S4 e4) e5 ?_ fun r6 H6 s6 e6 => ?_
    · rw [List.length_append, List.length_map, List.length_map, enc_len, enc_len]
      exact Nat.le_of_lt (sl1000 (by simp; omega))
    refine q (.app t t5) r6 H6 ((b12.trans (same_but (same_new np _))).trans ((b3.trans (same_but s4)).trans (b5.trans (same_but s6)))) (S5.same s6) ?_ (by simp only [Tm.size]; omega) fun i hi => ?_
    · have e : tmV (.app t t5) = [V.str "app"] ++ tmV t ++ tmV t5 := by simp [tmV, enc, nv]
      rw [e]
      exact e6
    · rw [fvs_app, List.mem_append] at hi
      exact hi.elim (fv3 i) (fv5 i)
theorem ok_rich {f : Addr} {fd : FuncData} (F : Fun K "_law_rich" "_law_rich" sRich f fd) (GD : FnOk P w K mg base CX0 1 fD dD ["_law_stream_here", "_law_many"] (spDraw K)) (DD : Def K mg "_law_draw" fD dD ["_law_stream_here", "_law_many"])
    (GC : FnOk P w K mg base CX0 2 fC dC ["_law_stream_here"] (spClosed K)) (DC : Def K mg "_law_closed_term" fC dC ["_law_stream_here"])
    (GT : FnOk P w K mg base CX0 13 fT dT ["_law_stream_here", "_law_size", "_law_depth"] (spTerm K 12)) (DT : Def K mg "_law_term" fT dT ["_law_stream_here", "_law_size", "_law_depth"])
    (DR : Def K mg "_law_rich" f fd ["_law_stream_here", "_law_size"]) : ∀ n : Nat, FnOk P w K mg base CX0 (n + 13) f fd ["_law_stream_here", "_law_size"] (spRich K n)
  | 0 => by
    have no : ∀ vs H Q E, ¬ spRich K 0 vs H Q E := fun vs H Q E h => by
      obtain ⟨s, z, _, _, h1, h2, _⟩ := h
      omega
    exact ⟨fun vs H Q E h => absurd h (no vs H Q E), fun A outer s H args us vs Q E _ _ _ _ h => absurd h (no vs H Q E)⟩
  | n + 1 => by
    have h := ok_rich_next F GD DD GC DC GT DT (ok_rich F GD DD GC DC GT DT DR n) DR
    rw [show n + 1 + 13 = n + 13 + 1 by omega]
    exact h
end
end K23
namespace K23
open PySem PyProof.Rows PySem.Spec L2
/-! ### terms as data -/
def pd : Nd → PyData
  | .v n => .int (n : Nat)
  | .l => .str "lam"
  | .a => .str "app"
theorem pd_dp (K : PySem.W.Frag) (H : Hp) : ∀ xs : List Nd, DpAll K H (xs.map nv) (xs.map pd)
  | [] => .nil
  | .v n :: xs => .cons (.int _) (pd_dp K H xs)
  | .l :: xs => .cons (.str _) (pd_dp K H xs)
  | .a :: xs => .cons (.str _) (pd_dp K H xs)
theorem lam_ok : (PyData.str "lam").canLay0 = true := by decide +kernel
theorem app_ok : (PyData.str "app").canLay0 = true := by decide +kernel
theorem pd_lay : ∀ xs : List Nd, PyData.canLayAll0 (xs.map pd) = true
  | [] => rfl
  | .v n :: xs => by
    rw [List.map_cons, PyData.canLayAll0, pd_lay xs]
    rfl
  | .l :: xs => by
    rw [List.map_cons, PyData.canLayAll0, pd_lay xs, Bool.and_true]
    exact lam_ok
  | .a :: xs => by
    rw [List.map_cons, PyData.canLayAll0, pd_lay xs, Bool.and_true]
    exact app_ok
theorem pd_depth : ∀ xs : List Nd, PyData.depthAll (xs.map pd) = 0
  | [] => rfl
  | .v n :: xs => by
    rw [List.map_cons, PyData.depthAll, pd_depth xs]
    rfl
  | .l :: xs => by
    rw [List.map_cons, PyData.depthAll, pd_depth xs]
    rfl
  | .a :: xs => by
    rw [List.map_cons, PyData.depthAll, pd_depth xs]
    rfl
theorem pd_shaped (xs : List Nd) : SeqAt.shaped (.tuple (xs.map pd)) = true := by
  unfold SeqAt.shaped
  rw [show (PyData.tuple (xs.map pd)).canLay0 = true from pd_lay xs, Bool.true_and]
  refine decide_eq_true ?_
  rw [PyData.depth, pd_depth xs]
  decide
theorem pd_eqv (xs : List Nd) : PyData.eqv (.tuple (xs.map pd)) (.tuple (xs.map pd)) = true := SeqAt.eqv_refl _ (pd_lay xs)
theorem pi_dp (K : PySem.W.Frag) (H : Hp) : ∀ l : List Int, DpAll K H (is l) (l.map PyData.int)
  | [] => .nil
  | i :: l => .cons (.int _) (pi_dp K H l)
theorem pi_lay : ∀ l : List Int, PyData.canLayAll0 (l.map PyData.int) = true
  | [] => rfl
  | i :: l => by
    rw [List.map_cons, PyData.canLayAll0, pi_lay l]
    rfl
theorem pi_depth : ∀ l : List Int, PyData.depthAll (l.map PyData.int) = 0
  | [] => rfl
  | i :: l => by
    rw [List.map_cons, PyData.depthAll, pi_depth l]
    rfl
theorem pi_shaped (l : List Int) : SeqAt.shaped (.list (l.map PyData.int)) = true := by
  unfold SeqAt.shaped
  rw [show (PyData.list (l.map PyData.int)).canLay0 = true from pi_lay l, Bool.true_and]
  refine decide_eq_true ?_
  rw [PyData.depth, pi_depth l]
  decide
theorem pi_eqv (l : List Int) : PyData.eqv (.list (l.map PyData.int)) (.list (l.map PyData.int)) = true := SeqAt.eqv_refl _ (pi_lay l)
theorem size_of_big {t : Tm} (h : big (enc t) = false) : t.size ≤ 1000 := by
  unfold big at h
  rw [Bool.or_eq_false_iff] at h
  have := of_decide_eq_false h.1
  rw [enc_len] at this
  omega
section
variable {P : Program} {w : World} {K : PySem.W.Frag} {mg : Str → Option Value} {base : Heap} {C : Addr} {fS fP : Addr} {dS dP : FuncData}
/-! ### _law_both, _law_after -/
def spBoth (K : PySem.W.Frag) : Sp := fun vs H Q _ => ∃ (a b : Addr) (t v r : Tm) (p : List Dir), vs = [.ref a, .str (pstr p), .ref b] ∧ SqT K H a (tmV t) ∧ SqT K H b (tmV v) ∧ t.size ≤ 1000 ∧ v.size ≤ 1000 ∧ stepT t p = some r ∧
  (∀ x H', Same H H' → H' x = some (.lst []) → Q (.ref x) H') ∧
  (big (enc (putT v 0 t)) = false → ∀ x c d H', Same H H' → H' x = some (.lst [.ref c, .ref d]) → SqT K H' c (tmV (putT v 0 r)) → SqT K H' d (tmV (putT v 0 r)) → Q (.ref x) H')
theorem scBoth : FnScope ["_law_term_here", "_law_place", "_law_value"] ["_law_term_here", "_law_place", "_law_value"] (defScope sBoth) := ⟨rfl, rfl, rfl, by decide +kernel, rfl, by decide +kernel, by decide +kernel⟩
def tBoth (K : PySem.W.Frag) (C : Addr) (W : WX) : TS :=
  tRet (tLst (tCons (tCallS (spStepped K C) (WE W) (tCons (tCallS (spPlaced K C) (WE W) (tCons (tVar 0) (tCons (tVar 2) tNil))) (tCons (tVar 1) tNil)))
    (tCons (tCallS (spPlaced K C) (WE W) (tCons (tCallS (spStepped K C) (WE W) (tCons (tVar 0) (tCons (tVar 1) tNil))) (tCons (tVar 2) tNil))) tNil)))
theorem ok_both {f : Addr} {fd : FuncData} (F : Fun K "_law_both" "_law_both" sBoth f fd) (T : Known K mg C) (GS : FnOk P w K mg base (L2.CX P w) 5 fS dS ["term", "place"] (spStepped K C)) (DS : Def K mg "step" fS dS ["term", "place"])
    (GP : FnOk P w K mg base (L2.CX P w) 4 fP dP ["term", "value"] (spPlaced K C)) (DP : Def K mg "put" fP dP ["term", "value"]) : FnOk P w K mg base CX0 6 f fd ["_law_term_here", "_law_place", "_law_value"] (spBoth K) := by
  refine F.ok scBoth (fun vs H Q E h => ?_) (fun cdv A outer sh H vs Q E hr h => ?_)
  · obtain ⟨a, b, t, v, r, p, rfl, _⟩ := h
    rfl
  obtain ⟨a, b, t, v, r, p, rfl, hT, hV, tz, vz, hst, q0, q2⟩ := h
  have hr4 : Room 4 _ := hr.mono (by decide)
  refine ⟨_, pss_one (ps_try_only (tb := tBoth K C) (ts := fun _ _ _ => tRet (tLst tNil)) (Wout := fun _ _ _ _ => False) rfl rfl ⟨rfl, by decide, .inl T.gC⟩ takes0
    (fun W pn xe tk _ => pss_one (ps_ret (pe_lst (pa_cons (by exact (pe_callS GS hr rfl DS.m DS.k DS.b (fun σ => passAt tk σ) (pa_cons (pe_callS GP hr4 rfl DP.m DP.k DP.b (fun σ => passAt tk σ) (pa_cons (pv 0) (pa_cons (pv 2) pa_nil))) (pa_cons (pv 1) pa_nil))))
      (pa_cons (by exact (pe_callS GP hr4 rfl DP.m DP.k DP.b (fun σ => passAt tk σ) (pa_cons (pe_callS GS hr rfl DS.m DS.k DS.b (fun σ => passAt tk σ) (pa_cons (pv 0) (pa_cons (pv 1) pa_nil))) (pa_cons (pv 2) pa_nil)))) pa_nil)))))
    (fun a oe cls d pn _ _ => pss_one (ps_ret (pe_lst pa_nil)))), ?_⟩
  -- the way out: TooLarge is caught, an empty list comes
  have out : ∀ H', Same H H' → wOnly K (.ref C) (fun _ _ _ => tRet (tLst tNil)) (fun _ _ _ _ => False) { nx := fun _ H' => Q .non H', rt := Q } (.ref C) none (L2.start ["_law_term_here", "_law_place", "_law_value"] [V.ref a, V.str (pstr p), V.ref b]) H' := fun H' s' =>
    ⟨true, T.eC, fun _ a0 _ => ⟨Nat.zero_le _, fun x nx => q0 x _ (s'.trans (same_new nx _)) upd_same⟩, fun z => Bool.noConfusion z⟩
  -- put(term, value)
  refine ⟨_, rfl, _, rfl, a, b, t, v, rfl, hT, hV, tz, vz, fun _ H' s' => out H' s', fun hb r1 H1 s1 n1 e1 => ?_⟩
  -- step(.., place)
  refine ⟨_, rfl, r1, putT v 0 t, putT v 0 r, p, rfl, SqT.of e1, size_of_big hb, step_put v p t r 0 hst, fun H' s' => out H' (s1.trans s'), fun sz r2 H2 s2 e2 => ?_⟩
  have s02 := s1.trans s2
  -- step(term, place)
  refine ⟨_, rfl, _, rfl, a, t, r, p, rfl, same_tup s02 hT, tz, hst, fun H' s' => out H' (s02.trans s'), fun rz r3 H3 s3 e3 => ?_⟩
  have s03 := s02.trans s3
  -- put(.., value)
  refine ⟨_, rfl, r3, b, r, v, rfl, e3, same_tup s03 hV, rz, vz, fun _ H' s' => out H' (s03.trans s'), fun hb2 r4 H4 s4 n4 e4 => ?_⟩
  have s04 := s03.trans s4
  refine ⟨by show 2 ≤ sizeLine; decide, fun x nx => ?_⟩
  have s5 : Same H4 (upd H4 x (.lst [.ref r2, .ref r4])) := same_new nx _
  exact q2 hb x r2 r4 _ (s04.trans s5) upd_same (same_tup ((s3.trans s4).trans s5) e2) (same_tup s5 (SqT.of e4))
def spAfter (K : PySem.W.Frag) : Sp := fun vs H Q _ => ∃ (a : Addr) (t r : Tm) (p : List Dir), vs = [.ref a, .str (pstr p)] ∧ SqT K H a (tmV t) ∧ t.size ≤ 1000 ∧ stepT t p = some r ∧
  (∀ H', Same H H' → Q .non H') ∧ (r.size ≤ 1000 → ∀ x H', Same H H' → SqT K H' x (tmV r) → Q (.ref x) H')
theorem scAfter : FnScope ["_law_term_here", "_law_place"] ["_law_term_here", "_law_place"] (defScope sAfter) := ⟨rfl, rfl, rfl, by decide +kernel, rfl, by decide +kernel, by decide +kernel⟩
theorem ok_after {f : Addr} {fd : FuncData} (F : Fun K "_law_after" "_law_after" sAfter f fd) (T : Known K mg C) (GS : FnOk P w K mg base (L2.CX P w) 5 fS dS ["term", "place"] (spStepped K C)) (DS : Def K mg "step" fS dS ["term", "place"]) :
    FnOk P w K mg base CX0 6 f fd ["_law_term_here", "_law_place"] (spAfter K) := by
  refine F.ok scAfter (fun vs H Q E h => ?_) (fun cdv A outer sh H vs Q E hr h => ?_)
  · obtain ⟨a, t, r, p, rfl, _⟩ := h
    rfl
  obtain ⟨a, t, r, p, rfl, hT, tz, hst, q0, q2⟩ := h
  refine ⟨_, pss_one (ps_try_only (tb := fun W => tRet (tCallS (spStepped K C) (WE W) (tCons (tVar 0) (tCons (tVar 1) tNil)))) (ts := fun _ _ _ => tRet (tC .non)) (Wout := fun _ _ _ _ => False) rfl rfl ⟨rfl, by decide, .inl T.gC⟩ takes0
    (fun W pn xe tk _ => pss_one (ps_ret (by exact (pe_callS GS hr rfl DS.m DS.k DS.b (fun σ => passAt tk σ) (pa_cons (pv 0) (pa_cons (pv 1) pa_nil))))))
    (fun a oe cls d pn _ _ => pss_one (ps_ret pe_non))), ?_⟩
  refine ⟨_, rfl, _, rfl, a, t, r, p, rfl, hT, tz, hst, fun H' s' => ⟨true, T.eC, fun _ a0 _ => q0 H' s', fun z => Bool.noConfusion z⟩, fun rz r3 H3 s3 e3 => q2 rz r3 H3 s3 e3⟩
end
end K23
namespace K23
open PySem PyProof.Rows PySem.Spec L2
theorem flat_ps (l : List (List Dir)) : (ps l).all flatV = true := by
  rw [List.all_map]
  exact List.all_eq_true.mpr (fun _ _ => rfl)
theorem inV_ps {p : List Dir} {l : List (List Dir)} (h : p ∈ l) : inV (V.str (pstr p)) (ps l) = true := by
  unfold inV
  rw [List.any_eq_true]
  exact ⟨V.str (pstr p), List.mem_map_of_mem h, by show (pstr p == pstr p) = true; exact beq_self_eq_true _⟩
theorem dec_len (n m : Nat) : decide (V.int (n : Nat) = V.int (m : Nat)) = decide (n = m) := by
  refine decide_eq_decide.mpr ⟨fun h => ?_, fun h => by rw [h]⟩
  have := V.int.inj h
  omega
section
variable {P : Program} {w : World} {K : PySem.W.Frag} {mg : Str → Option Value} {base : Heap} {C : Addr}
def spLaw (K : PySem.W.Frag) : Sp := fun vs H Q _ => ∃ (a : Addr) (ns : List Int), vs = [.ref a] ∧ SqL K H a (is ns) ∧ ns.length ≤ 63 ∧ ∀ H', Q (.bl true) H'
theorem scLaw : FnScope ["_law_script", "_law_stream_here", "_law_term_here", "_law_rows", "_law_place", "_law_value", "_law_both_here", "_law_after_here", "_law_name"] ["_law_script"] (defScope sLaw) := ⟨rfl, rfl, rfl, by decide +kernel, rfl, by decide +kernel, by decide +kernel⟩
variable {fSt fDr fRi fRe fBo fAf fLF fFr fPu : Addr} {dSt dDr dRi dRe dBo dAf dLF dFr dPu : FuncData}
theorem ok_law {f : Addr} {fd : FuncData} (F : Fun K "law" "law" sLaw f fd) (T : Known K mg C)
    (GSt : FnOk P w K mg base CX0 1 fSt dSt ["_law_script"] (spStream K)) (DSt : Def K mg "_law_stream" fSt dSt ["_law_script"])
    (GD : FnOk P w K mg base CX0 1 fDr dDr ["_law_stream_here", "_law_many"] (spDraw K)) (DD : Def K mg "_law_draw" fDr dDr ["_law_stream_here", "_law_many"])
    (GRi : FnOk P w K mg base CX0 20 fRi dRi ["_law_stream_here", "_law_size"] (spRich K 7)) (DRi : Def K mg "_law_rich" fRi dRi ["_law_stream_here", "_law_size"])
    (GRe : FnOk P w K mg base CX0 2 fRe dRe ["term"] (spRedexes K)) (DRe : Def K mg "redexes" fRe dRe ["term"])
    (GBo : FnOk P w K mg base CX0 6 fBo dBo ["_law_term_here", "_law_place", "_law_value"] (spBoth K)) (DBo : Def K mg "_law_both" fBo dBo ["_law_term_here", "_law_place", "_law_value"])
    (GAf : FnOk P w K mg base CX0 6 fAf dAf ["_law_term_here", "_law_place"] (spAfter K)) (DAf : Def K mg "_law_after" fAf dAf ["_law_term_here", "_law_place"])
    (GLF : FnOk P w K mg base CX0 3 fLF dLF ["_law_term_here"] (spFree K false)) (DLF : Def K mg "_law_free" fLF dLF ["_law_term_here"])
    (GFr : FnOk P w K mg base CX0 2 fFr dFr ["term"] (spFree K true)) (DFr : Def K mg "free" fFr dFr ["term"])
    (GPu : FnOk P w K mg base (L2.CX P w) 4 fPu dPu ["term", "value"] (spPlaced K C)) (DPu : Def K mg "put" fPu dPu ["term", "value"]) :
    FnOk P w K mg base CX0 21 f fd ["_law_script"] (spLaw K) := by
  refine F.ok scLaw (fun vs H Q E h => ?_) (fun cdv A outer sh H vs Q E hr h => ?_)
  · obtain ⟨a, ns, rfl, _⟩ := h
    rfl
  obtain ⟨a, ns, rfl, hS, h63, q⟩ := h
  have hr1 : Room 1 _ := hr.mono (by decide)
  have hr2 : Room 2 _ := hr.mono (by decide)
  have hr3 : Room 3 _ := hr.mono (by decide)
  have hr4 : Room 4 _ := hr.mono (by decide)
  have hr6 : Room 6 _ := hr.mono (by decide)
  refine ⟨_, pss_cons (ps_set (i := 1) scLaw.nd rfl (.inl rfl) (pe_call GSt hr1 rfl DSt.m DSt.k DSt.b .nil pass0 (pa_cons (pv 0) pa_nil)))
    (pss_cons (ps_set (i := 2) scLaw.nd rfl (.inr rfl) (pe_call GRi hr rfl DRi.m DRi.k DRi.b .nil pass0 (pa_cons (pv 1) (pa_cons (pe_op op_add pe_int (pe_call GD hr1 rfl DD.m DD.k DD.b .nil pass0 (pa_cons (pv 1) (pa_cons pe_int pa_nil)))) pa_nil))))
    (pss_cons (ps_set (i := 3) scLaw.nd rfl (.inl rfl) (pe_call GRe hr2 rfl DRe.m DRe.k DRe.b .nil pass0 (pa_cons (pv 2) pa_nil)))
    (pss_cons (ps_if (PW.pt (pw_or (pt_cmpR op_eq (pe_callB call_len_seq (by rfl) T.len PySem.boot_len (pa_cons (pv 3) pa_nil)) pe_int (nomark _)) (pw_or1 (pt_cmpR op_gt (pe_callB call_len_seq (by rfl) T.len PySem.boot_len (pa_cons (pv 2) pa_nil)) pe_int (nomark _)))))
      (pss_one (ps_ret (pe_or (pe_cmpR op_eq (pe_callB call_len_seq (by rfl) T.len PySem.boot_len (pa_cons (pv 3) pa_nil)) pe_int (nomark _)) (pe_one (pe_cmpR op_gt (pe_callB call_len_seq (by rfl) T.len PySem.boot_len (pa_cons (pv 2) pa_nil)) pe_int (nomark _)))))) pss_nil)
    (pss_cons (ps_set (i := 4) scLaw.nd rfl (.inl rfl) (pe_ix ix_list (pv 3) (pe_call GD hr1 rfl DD.m DD.k DD.b .nil pass0 (pa_cons (pv 1) (pa_cons (pe_callB call_len_seq (by rfl) T.len PySem.boot_len (pa_cons (pv 3) pa_nil)) pa_nil))) (fun _ _ => rfl)))
    (pss_cons (ps_set (i := 5) scLaw.nd rfl (.inl rfl) (pe_call GRi hr rfl DRi.m DRi.k DRi.b .nil pass0 (pa_cons (pv 1) (pa_cons (pe_op op_add pe_int (pe_call GD hr1 rfl DD.m DD.k DD.b .nil pass0 (pa_cons (pv 1) (pa_cons pe_int pa_nil)))) pa_nil))))
    (pss_cons (ps_set (i := 6) scLaw.nd rfl (.inl rfl) (pe_call GBo hr6 rfl DBo.m DBo.k DBo.b .nil pass0 (pa_cons (pv 2) (pa_cons (pv 4) (pa_cons (pv 5) pa_nil)))))
    (C8.pss_cut (ps_if (PW.pt (pw_and (pt_cmpR op_eq (pe_callB call_len_seq (by rfl) T.len PySem.boot_len (pa_cons (pv 6) pa_nil)) pe_int (nomark _)) (pw_and1 (pt_cmpR (op_neD hr.units) (pe_ix ix_list (pv 6) pe_int (fun _ _ => rfl)) (pe_ix ix_list (pv 6) pe_int (fun _ _ => rfl)) (nomark _)))))
      (pss_one (ps_ret pe_bl)) pss_nil)
    (pss_cons (ps_set (i := 7) scLaw.nd rfl (.inl rfl) (pe_call GAf hr6 rfl DAf.m DAf.k DAf.b .nil pass0 (pa_cons (pv 2) (pa_cons (pv 4) pa_nil))))
    (pss_cons (ps_if (pt_cmpR op_isN (pv 7) pe_non (nomark _)) (pss_one (ps_ret pe_bl)) pss_nil)
    (pss_cons (ps_if (pt_cmpR op_gt (pe_callB call_len_seq (by rfl) T.len PySem.boot_len (pa_cons
        (pe_lc (own := [("_law_name", 8)]) (g := gName 8) rfl scLaw.nd (pi_list (pe_call GLF hr3 rfl DLF.m DLF.k DLF.b .nil pass0 (pa_cons (pv 7) pa_nil)))
          (blkOk_by (N := ["_law_script", "_law_stream_here", "_law_term_here", "_law_rows", "_law_place", "_law_value", "_law_both_here", "_law_after_here", "_law_name"]) (sc := defScope sLaw) (by decide +kernel))
          (fun _ _ _ _ _ => pg_name (i := 8) scLaw.nd rfl (Or.inl rfl))
          (fun _ _ _ _ _ => pts_one (pt_cmpR (r := rIn K true) op_notIn_seq (pv 8) (pe_call GLF hr3 rfl DLF.m DLF.k DLF.b .nil pass0 (pa_cons (pv 2) pa_nil)) (by rfl)))
          (fun _ _ _ _ _ => pv 8)) pa_nil)) pe_int (nomark _)) (pss_one (ps_ret pe_bl)) pss_nil)
    (pss_one (ps_ret (pe_and (pe_cmpR (op_eqD hr.units) (pe_call GFr hr2 rfl DFr.m DFr.k DFr.b .nil pass0 (pa_cons (pv 7) pa_nil)) (pe_call GLF hr3 rfl DLF.m DLF.k DLF.b .nil pass0 (pa_cons (pv 7) pa_nil)) (nomark _))
      (pe_one (pe_or (pe_cmpR op_eq (pe_callB call_len_seq (by rfl) T.len PySem.boot_len (pa_cons (pv 6) pa_nil)) pe_int (nomark _))
        (pe_one (pe_cmpR op_in_seq (pv 4) (pe_call GRe hr2 rfl DRe.m DRe.k DRe.b .nil pass0 (pa_cons (pe_call GPu hr4 rfl DPu.m DPu.k DPu.b .nil passL (pa_cons (pv 2) (pa_cons (pv 5) pa_nil))) pa_nil)) (by rfl)))))))))))))))))), ?_⟩
  -- the stream, the term
  refine ⟨_, rfl, a, ns, rfl, hS, h63, fun s H1 s1 S1 => ?_⟩
  refine ⟨_, rfl, _, rfl, s, 6, rfl, S1, by decide, by decide, fun v2 H2 b2 S2 v20 v21 => ⟨_, _, rfl, rfl, ?_⟩⟩
  obtain ⟨k2, rfl⟩ := nat_of v20
  refine ⟨s, k2 + 2, args2 (by omega), S2, by omega, by omega, by decide, fun t aT H3 b3 S3 e3 z3 fv3 => ?_⟩
  have tz : t.size ≤ 400 := by omega
  -- its redexes
  refine ⟨_, rfl, aT, t, rfl, e3, by omega, fun aR H4 l s4 n4 eR memR lenR => ?_⟩
  have S4 := S3.same s4
  have e4 := same_tup s4 e3
  have hln : (ps l).length = l.length := List.length_map _
  have htl : (tmV t).length = t.size := by rw [List.length_map, enc_len]
  refine ⟨_, rfl, aR, _, rfl, .inl (SqL.of eR), rfl, _, rfl, ?_⟩
  rw [hln, show (0 : Int) = ((0 : Nat) : Int) from rfl, dec_len]
  refine both (fun c => ?_) (fun c => ?_)
  · -- no redex: True
    refine ⟨_, rfl, aR, _, rfl, .inl (SqL.of eR), rfl, _, rfl, yes ?_ (q H4)⟩
    rw [hln]
    exact (dec_len l.length 0).trans c
  have l0 : l.length ≠ 0 := of_decide_eq_false c
  refine ⟨_, rfl, aT, _, rfl, .inr e4, _, _, rfl, rfl, _, rfl, noo ?_ ?_⟩
  · rw [htl]
    exact decide_eq_false (by omega)
  -- the place
  refine ⟨_, rfl, _, rfl, _, rfl, aR, _, rfl, .inl (SqL.of eR), s, _, rfl, S4, by rw [hln]; omega, by rw [hln]; omega, fun v5 H5 b5 S5 v50 v51 => ?_⟩
  rw [hln] at v51
  obtain ⟨k5, rfl⟩ := nat_of v50
  have nRs : aR ≠ s := fun e => by
    obtain ⟨_, _, _, _, _, es, _⟩ := S3
    rw [e, es] at n4
    cases n4
  have eR5 := b5 aR _ nRs eR
  have hk5 : k5 < l.length := by omega
  obtain ⟨p, hp⟩ : ∃ p, l[k5]? = some p := ⟨_, List.getElem?_eq_getElem hk5⟩
  have memp : p ∈ l := List.mem_of_getElem? hp
  obtain ⟨r, hst⟩ := (memR p).mp memp
  refine ⟨aR, _, _, V.str (pstr p), rfl, rfl, SqL.of eR5, atI_nat (by rw [List.getElem?_map, hp]; rfl), ?_⟩
  -- the value
  refine ⟨_, rfl, _, rfl, s, 3, rfl, S5, by decide, by decide, fun v6 H6 b6 S6 v60 v61 => ⟨_, _, rfl, rfl, ?_⟩⟩
  obtain ⟨k6, rfl⟩ := nat_of v60
  refine ⟨s, k6 + 1, args2 (by omega), S6, by omega, by omega, by decide, fun v aV H7 b7 S7 e7 z7 _ => ?_⟩
  have vz : v.size ≤ 400 := by omega
  have t7 : SqT K H7 aT (tmV t) := (b5.trans (b6.trans b7)).tup S4 e4
  -- both
  have few : ∀ i, i ∈ fvs r 0 → 0 ≤ i ∧ i < 8 := fun i hi => ⟨fvs_nonneg r 0 i hi, fv3 i (step_fvs p t r 0 hst i hi)⟩
  -- what is known behind the call of _law_both
  refine ⟨_, rfl, _, rfl, _, rfl, aT, aV, t, v, r, p, rfl, t7, e7, by omega, by omega, hst, fun x H8 s8 e8 => ?_, fun hb x c d H8 s8 e8 ec ed => ?_⟩
  all_goals refine ⟨fun σ' H' => ∃ x, σ' = [some (.ref a), some (.ref s), some (.ref aT), some (.ref aR), some (.str (pstr p)), some (.ref aV), some (.ref x), none, none] ∧ Same H7 H' ∧ (H' x = some (.lst []) ∨ ∃ c d, H' x = some (.lst [.ref c, .ref d]) ∧ big (enc (putT v 0 t)) = false), ?_, ?_⟩
  · refine ⟨_, rfl, x, _, rfl, .inl (SqL.of e8), rfl, _, rfl, noo (by decide) (iteF ⟨x, rfl, s8, .inl e8⟩)⟩
  rotate_left
  · refine ⟨_, rfl, x, _, rfl, .inl (SqL.of e8), rfl, _, rfl, yes (show decide (V.int ((2 : Nat) : Int) = V.int 2) = true by decide) ?_⟩
    refine ⟨_, rfl, x, _, _, _, rfl, rfl, SqL.of e8, rfl, _, rfl, x, _, _, _, rfl, rfl, SqL.of e8, rfl, ?_⟩
    refine ⟨_, _, .tup ec (pd_dp K H8 _), .tup ed (pd_dp K H8 _), pd_shaped _, pd_shaped _, _, rfl, noo ?_ ⟨x, rfl, s8, .inr ⟨c, d, e8, hb⟩⟩⟩
    rw [pd_eqv]
    rfl
  all_goals
    rintro σ' H9 ⟨x, rfl, s9, hx⟩
    have t9 := same_tup s9 t7
    have v9 := same_tup s9 e7
    refine ⟨_, rfl, _, rfl, aT, t, r, p, rfl, t9, by omega, hst, fun H10 _ => ⟨_, rfl, rfl, _, rfl, yes rfl (q H10)⟩, fun rz aA H10 s10 e10 => ?_⟩
    refine ⟨_, rfl, rfl, _, rfl, noo rfl ?_⟩
    have t10 := same_tup s10 t9
    have v10 := same_tup s10 v9
    -- no free variable comes up
    refine ⟨_, rfl, aA, r, rfl, e10, rz, fun z => Bool.noConfusion z, fun aN H11 lN s11 _ eN _ memN => ?_⟩
    refine ⟨aN, rfl, ⟨_, SqL.of eN⟩, fun D nD => lc_it (walk_list (xs := is lN)) (fun i H12 => Same H11 H12 ∧ H12 D = some (.lst [])) ⟨same_new nD _, upd_same⟩ (fun i H12 _ hp => hp.1.seq (SqL.of eN)) ?_ ?_⟩
    · rintro i y H13 H12 hi ⟨s12, eD⟩ ⟨rfl, hy⟩
      rw [List.getElem?_map, Option.map_eq_some_iff] at hy
      obtain ⟨k, hk, rfl⟩ := hy
      have kt : k ∈ fvs t 0 := step_fvs p t r 0 hst k ((memN k).mp (List.mem_of_getElem? hk))
      refine ⟨rfl, _, rfl, _, rfl, aT, t, rfl, same_tup (s11.trans s12) t10, by omega, fun z => Bool.noConfusion z, fun aM H14 lM s14 _ eM _ memM => ?_⟩
      refine ⟨aM, _, rfl, .inl (SqL.of eM), rfl, flat_ints lM, _, rfl, noo ?_ ⟨s12.trans s14, s14 _ _ eD⟩⟩
      rw [inV_int]
      show (!decide (k ∈ lM)) = false
      rw [decide_eq_true ((memM k).mpr kt)]
      rfl
    · rintro H12 ⟨s12, eD⟩
      refine ⟨D, _, rfl, .inl (SqL.of eD), _, _, rfl, rfl, _, rfl, noo (by decide) ?_⟩
      have s1012 := s11.trans s12
      have e12 := same_tup s1012 e10
      -- free and _law_free agree
      refine ⟨_, rfl, aA, r, rfl, e12, rz, fun _ => few, fun a1 H13 l1 s13 _ e13 rise1 mem1 => ?_⟩
      refine ⟨_, rfl, aA, r, rfl, same_tup s13 e12, rz, fun z => Bool.noConfusion z, fun a2 H14 l2 s14 _ e14 rise2 mem2 => ?_⟩
      have el : l1 = l2 := rising_eq rise1 rise2 fun k => (mem1 k).trans (mem2 k).symm
      subst el
      refine ⟨_, _, .lst (SqL.of (s14 _ _ e13)) (pi_dp K H14 l1), .lst (SqL.of e14) (pi_dp K H14 l1), pi_shaped l1, pi_shaped l1, _, rfl, yes (pi_eqv l1) ?_⟩
      have s914 := s10.trans (s1012.trans (s13.trans s14))
      rcases hx with hx | ⟨c', d', hx, hb'⟩
      · exact ⟨_, rfl, x, _, rfl, .inl (SqL.of (s914 _ _ hx)), rfl, _, rfl, yes (by decide) (q H14)⟩
      · refine ⟨_, rfl, x, _, rfl, .inl (SqL.of (s914 _ _ hx)), rfl, _, rfl, noo (show decide (V.int ((2 : Nat) : Int) = V.int 0) = false by decide) ?_⟩
        -- the place is a redex of the term with the value put into it
        refine ⟨_, rfl, _, rfl, _, rfl, aT, aV, t, v, rfl, same_tup s914 t9, same_tup s914 v9, by omega, by omega, fun hb1 => absurd (hb1.symm.trans hb') (by decide), fun _ aP H15 s15 n15 e15 => ?_⟩
        refine ⟨aP, putT v 0 t, rfl, SqT.of e15, size_of_big hb', fun aQ H16 lQ s16 _ e16 memQ _ => ?_⟩
        refine ⟨aQ, _, rfl, .inl (SqL.of e16), rfl, flat_ps lQ, ?_⟩
        show Q (.bl (inV (V.str (pstr p)) (ps lQ))) H16
        rw [inV_ps ((memQ p).mpr ⟨_, step_put v p t r 0 hst⟩)]
        exact q H16
end
end K23
namespace K23
open PySem PyProof.Rows PySem.Spec L2
/-! ### the end -/
/-- the clause that names the class at S takes an error of that class -/
theorem exm_own {K : PySem.W.Frag} {S : Addr} (h1 : PySem.W.subIn K (.ref S) (.type "BaseException") = some true) (h2 : PySem.W.isClsIn K S = true) (h3 : PySem.W.typeIn K (.ref S) = some (.type "type")) (h4 : PySem.W.subIn K (.ref S) (.ref S) = some true) :
    PySem.W.exmOne K (.ref S) (.ref S) = some true := by
  have a1 : (PySem.W.subIn K (.ref S) (.type "BaseException") == some true) = true := by rw [h1] <;> rfl
  have a2 : ((PySem.W.clsIn K S).isSome && PySem.W.typeIn K (.ref S) == some (.type "type")) = true := by
    rw [show (PySem.W.clsIn K S).isSome = true from h2, h3] <;> rfl
  show (if (PySem.W.subIn K (.ref S) (.type "BaseException") == some true) = true then (if ((PySem.W.clsIn K S).isSome && PySem.W.typeIn K (.ref S) == some (.type "type")) = true then PySem.W.subIn K (.ref S) (.ref S) else none) else none) = some true
  rw [if_pos a1, if_pos a2]
  exact h4
theorem all_mk {l : PySem.W.OpenLaw} {w : World} {K : PySem.W.Frag} {h : Heap} {mg : Str → Option Value} {fa C f0 f1 f2 f3 f4 f5 f6 f7 f8 f9 f10 f11 f12 f13 f14 f15 f16 f17 f18 f19 f20 f21 f22 f23 : Addr} (X : K.In h) (G : h.Ns mainGlobals mg) (hfa : mg "law" = some (.ref fa))
    {od0 an0 od1 an1 od2 an2 od3 an3 od4 an4 od5 an5 od6 an6 od7 an7 od8 an8 od9 an9 od10 an10 od11 an11 od12 an12 od13 an13 od14 an14 od15 an15 od16 an16 od17 an17 od18 an18 od19 an19 od20 an20 od21 an21 od22 an22 od23 an23 : Option Addr} {sl0 sl1 sl2 sl3 sl4 sl5 sl6 sl7 sl8 sl9 sl10 sl11 sl12 sl13 sl14 sl15 sl16 sl17 sl18 sl19 sl20 sl21 sl22 sl23 : Array (Option Value)} {oc0 kV0 dc0 pm0 cd0 ct0 oc1 kV1 dc1 pm1 cd1 ct1 oc2 kV2 dc2 pm2 cd2 ct2 oc3 kV3 dc3 pm3 cd3 ct3 oc4 kV4 dc4 pm4 cd4 ct4 oc5 kV5 dc5 pm5 cd5 ct5 oc6 kV6 dc6 pm6 cd6 ct6 oc7 kV7 dc7 pm7 cd7 ct7 oc8 kV8 dc8 pm8 cd8 ct8 oc9 kV9 dc9 pm9 cd9 ct9 oc10 kV10 dc10 pm10 cd10 ct10 oc11 kV11 dc11 pm11 cd11 ct11 oc12 kV12 dc12 pm12 cd12 ct12 oc13 kV13 dc13 pm13 cd13 ct13 oc14 kV14 dc14 pm14 cd14 ct14 oc15 kV15 dc15 pm15 cd15 ct15 oc16 kV16 dc16 pm16 cd16 ct16 oc17 kV17 dc17 pm17 cd17 ct17 oc18 kV18 dc18 pm18 cd18 ct18 oc19 kV19 dc19 pm19 cd19 ct19 oc20 kV20 dc20 pm20 cd20 ct20 oc21 kV21 dc21 pm21 cd21 ct21 oc22 kV22 dc22 pm22 cd22 ct22 oc23 kV23 dc23 pm23 cd23 ct23 : Value} {t1 t2 : Tok}
    (a0 : PySem.W.nsIn K mainGlobals "checked" = some (some (.ref f0))) (l0 : K.lookup f0 = some ⟨oc0, od0, .func (PySem.W.fnOf "checked" "checked" (defArgs sChecked) (defBody sChecked) (defScope sChecked) .none kV0 dc0 pm0 an0 cd0 ct0), sl0⟩) (c0 : PySem.W.codeIn K cd0 "checked" = true) (k0 : PySem.W.keepIn K (.ref f0) = true)
    (a1 : PySem.W.nsIn K mainGlobals "end_of" = some (some (.ref f1))) (l1 : K.lookup f1 = some ⟨oc1, od1, .func (PySem.W.fnOf "end_of" "end_of" (defArgs sEndOf) (defBody sEndOf) (defScope sEndOf) .none kV1 dc1 pm1 an1 cd1 ct1), sl1⟩) (c1 : PySem.W.codeIn K cd1 "end_of" = true) (k1 : PySem.W.keepIn K (.ref f1) = true)
    (a2 : PySem.W.nsIn K mainGlobals "depths" = some (some (.ref f2))) (l2 : K.lookup f2 = some ⟨oc2, od2, .func (PySem.W.fnOf "depths" "depths" (defArgs sDepths) (defBody sDepths) (defScope sDepths) .none kV2 dc2 pm2 an2 cd2 ct2), sl2⟩) (c2 : PySem.W.codeIn K cd2 "depths" = true) (k2 : PySem.W.keepIn K (.ref f2) = true)
    (a3 : PySem.W.nsIn K mainGlobals "free" = some (some (.ref f3))) (l3 : K.lookup f3 = some ⟨oc3, od3, .func (PySem.W.fnOf "free" "free" (defArgs sFree) (defBody sFree) (defScope sFree) .none kV3 dc3 pm3 an3 cd3 ct3), sl3⟩) (c3 : PySem.W.codeIn K cd3 "free" = true) (k3 : PySem.W.keepIn K (.ref f3) = true)
    (a4 : PySem.W.nsIn K mainGlobals "lifted" = some (some (.ref f4))) (l4 : K.lookup f4 = some ⟨oc4, od4, .func (PySem.W.fnOf "lifted" "lifted" (defArgs sLifted) (defBody sLifted) (defScope sLifted) .none kV4 dc4 pm4 an4 cd4 ct4), sl4⟩) (c4 : PySem.W.codeIn K cd4 "lifted" = true) (k4 : PySem.W.keepIn K (.ref f4) = true)
    (a5 : PySem.W.nsIn K mainGlobals "placed" = some (some (.ref f5))) (l5 : K.lookup f5 = some ⟨oc5, od5, .func (PySem.W.fnOf "placed" "placed" (defArgs sPlaced) (defBody sPlaced) (defScope sPlaced) .none kV5 dc5 pm5 an5 cd5 ct5), sl5⟩) (c5 : PySem.W.codeIn K cd5 "placed" = true) (k5 : PySem.W.keepIn K (.ref f5) = true)
    (a6 : PySem.W.nsIn K mainGlobals "put" = some (some (.ref f6))) (l6 : K.lookup f6 = some ⟨oc6, od6, .func (PySem.W.fnOf "put" "put" (defArgs sPut) (defBody sPut) (defScope sPut) .none kV6 dc6 pm6 an6 cd6 ct6), sl6⟩) (c6 : PySem.W.codeIn K cd6 "put" = true) (k6 : PySem.W.keepIn K (.ref f6) = true)
    (a7 : PySem.W.nsIn K mainGlobals "placed_nodes" = some (some (.ref f7))) (l7 : K.lookup f7 = some ⟨oc7, od7, .func (PySem.W.fnOf "placed_nodes" "placed_nodes" (defArgs sPlNodes) (defBody sPlNodes) (defScope sPlNodes) .none kV7 dc7 pm7 an7 cd7 ct7), sl7⟩) (c7 : PySem.W.codeIn K cd7 "placed_nodes" = true) (k7 : PySem.W.keepIn K (.ref f7) = true)
    (a8 : PySem.W.nsIn K mainGlobals "index_of" = some (some (.ref f8))) (l8 : K.lookup f8 = some ⟨oc8, od8, .func (PySem.W.fnOf "index_of" "index_of" (defArgs sIndexOf) (defBody sIndexOf) (defScope sIndexOf) .none kV8 dc8 pm8 an8 cd8 ct8), sl8⟩) (c8 : PySem.W.codeIn K cd8 "index_of" = true) (k8 : PySem.W.keepIn K (.ref f8) = true)
    (a9 : PySem.W.nsIn K mainGlobals "is_redex" = some (some (.ref f9))) (l9 : K.lookup f9 = some ⟨oc9, od9, .func (PySem.W.fnOf "is_redex" "is_redex" (defArgs sIsRedex) (defBody sIsRedex) (defScope sIsRedex) .none kV9 dc9 pm9 an9 cd9 ct9), sl9⟩) (c9 : PySem.W.codeIn K cd9 "is_redex" = true) (k9 : PySem.W.keepIn K (.ref f9) = true)
    (a10 : PySem.W.nsIn K mainGlobals "redexes" = some (some (.ref f10))) (l10 : K.lookup f10 = some ⟨oc10, od10, .func (PySem.W.fnOf "redexes" "redexes" (defArgs sRedexes) (defBody sRedexes) (defScope sRedexes) .none kV10 dc10 pm10 an10 cd10 ct10), sl10⟩) (c10 : PySem.W.codeIn K cd10 "redexes" = true) (k10 : PySem.W.keepIn K (.ref f10) = true)
    (a11 : PySem.W.nsIn K mainGlobals "stepped" = some (some (.ref f11))) (l11 : K.lookup f11 = some ⟨oc11, od11, .func (PySem.W.fnOf "stepped" "stepped" (defArgs sStepped) (defBody sStepped) (defScope sStepped) .none kV11 dc11 pm11 an11 cd11 ct11), sl11⟩) (c11 : PySem.W.codeIn K cd11 "stepped" = true) (k11 : PySem.W.keepIn K (.ref f11) = true)
    (a12 : PySem.W.nsIn K mainGlobals "step" = some (some (.ref f12))) (l12 : K.lookup f12 = some ⟨oc12, od12, .func (PySem.W.fnOf "step" "step" (defArgs sStep) (defBody sStep) (defScope sStep) .none kV12 dc12 pm12 an12 cd12 ct12), sl12⟩) (c12 : PySem.W.codeIn K cd12 "step" = true) (k12 : PySem.W.keepIn K (.ref f12) = true)
    (a13 : PySem.W.nsIn K mainGlobals "_law_stream" = some (some (.ref f13))) (l13 : K.lookup f13 = some ⟨oc13, od13, .func (PySem.W.fnOf "_law_stream" "_law_stream" (defArgs sStream) (defBody sStream) (defScope sStream) .none kV13 dc13 pm13 an13 cd13 ct13), sl13⟩) (c13 : PySem.W.codeIn K cd13 "_law_stream" = true) (k13 : PySem.W.keepIn K (.ref f13) = true)
    (a14 : PySem.W.nsIn K mainGlobals "_law_draw" = some (some (.ref f14))) (l14 : K.lookup f14 = some ⟨oc14, od14, .func (PySem.W.fnOf "_law_draw" "_law_draw" (defArgs sDraw) (defBody sDraw) (defScope sDraw) .none kV14 dc14 pm14 an14 cd14 ct14), sl14⟩) (c14 : PySem.W.codeIn K cd14 "_law_draw" = true) (k14 : PySem.W.keepIn K (.ref f14) = true)
    (a15 : PySem.W.nsIn K mainGlobals "_law_is_lam" = some (some (.ref f15))) (l15 : K.lookup f15 = some ⟨oc15, od15, .func (PySem.W.fnOf "_law_is_lam" "_law_is_lam" (defArgs sIsLam) (defBody sIsLam) (defScope sIsLam) .none kV15 dc15 pm15 an15 cd15 ct15), sl15⟩) (c15 : PySem.W.codeIn K cd15 "_law_is_lam" = true) (k15 : PySem.W.keepIn K (.ref f15) = true)
    (a16 : PySem.W.nsIn K mainGlobals "_law_depths" = some (some (.ref f16))) (l16 : K.lookup f16 = some ⟨oc16, od16, .func (PySem.W.fnOf "_law_depths" "_law_depths" (defArgs sLDepths) (defBody sLDepths) (defScope sLDepths) .none kV16 dc16 pm16 an16 cd16 ct16), sl16⟩) (c16 : PySem.W.codeIn K cd16 "_law_depths" = true) (k16 : PySem.W.keepIn K (.ref f16) = true)
    (a17 : PySem.W.nsIn K mainGlobals "_law_term" = some (some (.ref f17))) (l17 : K.lookup f17 = some ⟨oc17, od17, .func (PySem.W.fnOf "_law_term" "_law_term" (defArgs sTerm) (defBody sTerm) (defScope sTerm) .none kV17 dc17 pm17 an17 cd17 ct17), sl17⟩) (c17 : PySem.W.codeIn K cd17 "_law_term" = true) (k17 : PySem.W.keepIn K (.ref f17) = true)
    (a18 : PySem.W.nsIn K mainGlobals "_law_closed_term" = some (some (.ref f18))) (l18 : K.lookup f18 = some ⟨oc18, od18, .func (PySem.W.fnOf "_law_closed_term" "_law_closed_term" (defArgs sClosed) (defBody sClosed) (defScope sClosed) .none kV18 dc18 pm18 an18 cd18 ct18), sl18⟩) (c18 : PySem.W.codeIn K cd18 "_law_closed_term" = true) (k18 : PySem.W.keepIn K (.ref f18) = true)
    (a19 : PySem.W.nsIn K mainGlobals "_law_rich" = some (some (.ref f19))) (l19 : K.lookup f19 = some ⟨oc19, od19, .func (PySem.W.fnOf "_law_rich" "_law_rich" (defArgs sRich) (defBody sRich) (defScope sRich) .none kV19 dc19 pm19 an19 cd19 ct19), sl19⟩) (c19 : PySem.W.codeIn K cd19 "_law_rich" = true) (k19 : PySem.W.keepIn K (.ref f19) = true)
    (a20 : PySem.W.nsIn K mainGlobals "_law_free" = some (some (.ref f20))) (l20 : K.lookup f20 = some ⟨oc20, od20, .func (PySem.W.fnOf "_law_free" "_law_free" (defArgs sLFree) (defBody sLFree) (defScope sLFree) .none kV20 dc20 pm20 an20 cd20 ct20), sl20⟩) (c20 : PySem.W.codeIn K cd20 "_law_free" = true) (k20 : PySem.W.keepIn K (.ref f20) = true)
    (a21 : PySem.W.nsIn K mainGlobals "_law_both" = some (some (.ref f21))) (l21 : K.lookup f21 = some ⟨oc21, od21, .func (PySem.W.fnOf "_law_both" "_law_both" (defArgs sBoth) (defBody sBoth) (defScope sBoth) .none kV21 dc21 pm21 an21 cd21 ct21), sl21⟩) (c21 : PySem.W.codeIn K cd21 "_law_both" = true) (k21 : PySem.W.keepIn K (.ref f21) = true)
    (a22 : PySem.W.nsIn K mainGlobals "_law_after" = some (some (.ref f22))) (l22 : K.lookup f22 = some ⟨oc22, od22, .func (PySem.W.fnOf "_law_after" "_law_after" (defArgs sAfter) (defBody sAfter) (defScope sAfter) .none kV22 dc22 pm22 an22 cd22 ct22), sl22⟩) (c22 : PySem.W.codeIn K cd22 "_law_after" = true) (k22 : PySem.W.keepIn K (.ref f22) = true)
    (a23 : PySem.W.nsIn K mainGlobals "law" = some (some (.ref f23))) (l23 : K.lookup f23 = some ⟨oc23, od23, .func (PySem.W.fnOf "law" "law" (defArgs sLaw) (defBody sLaw) (defScope sLaw) .none kV23 dc23 pm23 an23 cd23 ct23), sl23⟩) (c23 : PySem.W.codeIn K cd23 "law" = true) (k23 : PySem.W.keepIn K (.ref f23) = true)
    (z0 : PySem.W.nsIn K mainGlobals "len" = some none)
    (z1 : PySem.W.nsIn K mainGlobals "isinstance" = some none)
    (z2 : PySem.W.nsIn K mainGlobals "int" = some none)
    (z3 : PySem.W.nsIn K mainGlobals "tuple" = some none)
    (z4 : PySem.W.nsIn K mainGlobals "list" = some none)
    (z5 : PySem.W.nsIn K mainGlobals "max" = some none)
    (z6 : PySem.W.nsIn K mainGlobals "zip" = some none)
    (z7 : PySem.W.nsIn K mainGlobals "set" = some none)
    (z8 : PySem.W.nsIn K mainGlobals "sorted" = some none)
    (z9 : PySem.W.nsIn K mainGlobals "enumerate" = some none)
    (z10 : PySem.W.nsIn K mainGlobals "abs" = some none)
    (z11 : PySem.W.nsIn K mainGlobals "range" = some none)
    (m1 : PySem.W.nsIn K mainGlobals "MOST_NODES" = some (some (.int 1000 t1))) (m2 : PySem.W.nsIn K mainGlobals "MOST_VARIABLE" = some (some (.int 1000000 t2)))
    (gC : PySem.W.nsIn K mainGlobals "TooLarge" = some (some (.ref C))) (xC : PySem.W.excIn K C [.type "ValueError", .type "Exception", .type "BaseException", .type "object"] "ValueError.__new__" = true) (kC : PySem.W.keepIn K (.ref C) = true)
    (bC : PySem.W.subIn K (.ref C) (.type "BaseException") = some true) (tC : PySem.W.typeIn K (.ref C) = some (.type "type")) (iC : PySem.W.isClsIn K C = true) (sC : PySem.W.subIn K (.ref C) (.ref C) = some true) :
    ∃ fd : FuncData, (∀ (s : Shared) (v : Value), BindsTo s fd ⟨[v], []⟩ [("_law_script", v)]) ∧ ∀ base : Heap, K.In base → base.Ns mainGlobals mg → FnOk l.prog w K mg base CX0 21 fa fd ["_law_script"] (spLaw K) := by
  have e := hfa.symm.trans (PySem.W.mg_of X G a23)
  cases e
  have T : Known K mg C := ⟨PySem.W.mg_none_of X G z0, PySem.W.mg_none_of X G z1, PySem.W.mg_none_of X G z2, PySem.W.mg_none_of X G z3, PySem.W.mg_none_of X G z4, PySem.W.mg_none_of X G z5, PySem.W.mg_none_of X G z6, PySem.W.mg_none_of X G z7, PySem.W.mg_none_of X G z8, PySem.W.mg_none_of X G z9, PySem.W.mg_none_of X G z10, PySem.W.mg_none_of X G z11, ⟨t1, PySem.W.mg_of X G m1⟩, ⟨t2, PySem.W.mg_of X G m2⟩, PySem.W.mg_of X G gC, xC, kC, bC, tC, exm_own bC iC tC sC⟩
  have F0 := fun_mk (st := sChecked) l0 c0 k0
  have D0 : Def K mg "checked" f0 _ ["nodes"] := ⟨PySem.W.mg_of X G a0, k0, F0.binds (ps := ["nodes"]) fun _ _ _ _ _ _ us hl => match us, hl with | [_], _ => rfl⟩
  have F1 := fun_mk (st := sEndOf) l1 c1 k1
  have D1 : Def K mg "end_of" f1 _ ["nodes", "start"] := ⟨PySem.W.mg_of X G a1, k1, F1.binds (ps := ["nodes", "start"]) fun _ _ _ _ _ _ us hl => match us, hl with | [_, _], _ => rfl⟩
  have F2 := fun_mk (st := sDepths) l2 c2 k2
  have D2 : Def K mg "depths" f2 _ ["nodes"] := ⟨PySem.W.mg_of X G a2, k2, F2.binds (ps := ["nodes"]) fun _ _ _ _ _ _ us hl => match us, hl with | [_], _ => rfl⟩
  have F3 := fun_mk (st := sFree) l3 c3 k3
  have D3 : Def K mg "free" f3 _ ["term"] := ⟨PySem.W.mg_of X G a3, k3, F3.binds (ps := ["term"]) fun _ _ _ _ _ _ us hl => match us, hl with | [_], _ => rfl⟩
  have F4 := fun_mk (st := sLifted) l4 c4 k4
  have D4 : Def K mg "lifted" f4 _ ["nodes", "count"] := ⟨PySem.W.mg_of X G a4, k4, F4.binds (ps := ["nodes", "count"]) fun _ _ _ _ _ _ us hl => match us, hl with | [_, _], _ => rfl⟩
  have F5 := fun_mk (st := sPlaced) l5 c5 k5
  have D5 : Def K mg "placed" f5 _ ["nodes", "value"] := ⟨PySem.W.mg_of X G a5, k5, F5.binds (ps := ["nodes", "value"]) fun _ _ _ _ _ _ us hl => match us, hl with | [_, _], _ => rfl⟩
  have F6 := fun_mk (st := sPut) l6 c6 k6
  have D6 : Def K mg "put" f6 _ ["term", "value"] := ⟨PySem.W.mg_of X G a6, k6, F6.binds (ps := ["term", "value"]) fun _ _ _ _ _ _ us hl => match us, hl with | [_, _], _ => rfl⟩
  have F7 := fun_mk (st := sPlNodes) l7 c7 k7
  have D7 : Def K mg "placed_nodes" f7 _ ["nodes"] := ⟨PySem.W.mg_of X G a7, k7, F7.binds (ps := ["nodes"]) fun _ _ _ _ _ _ us hl => match us, hl with | [_], _ => rfl⟩
  have F8 := fun_mk (st := sIndexOf) l8 c8 k8
  have D8 : Def K mg "index_of" f8 _ ["nodes", "place"] := ⟨PySem.W.mg_of X G a8, k8, F8.binds (ps := ["nodes", "place"]) fun _ _ _ _ _ _ us hl => match us, hl with | [_, _], _ => rfl⟩
  have F9 := fun_mk (st := sIsRedex) l9 c9 k9
  have D9 : Def K mg "is_redex" f9 _ ["nodes", "at"] := ⟨PySem.W.mg_of X G a9, k9, F9.binds (ps := ["nodes", "at"]) fun _ _ _ _ _ _ us hl => match us, hl with | [_, _], _ => rfl⟩
  have F10 := fun_mk (st := sRedexes) l10 c10 k10
  have D10 : Def K mg "redexes" f10 _ ["term"] := ⟨PySem.W.mg_of X G a10, k10, F10.binds (ps := ["term"]) fun _ _ _ _ _ _ us hl => match us, hl with | [_], _ => rfl⟩
  have F11 := fun_mk (st := sStepped) l11 c11 k11
  have D11 : Def K mg "stepped" f11 _ ["nodes", "place"] := ⟨PySem.W.mg_of X G a11, k11, F11.binds (ps := ["nodes", "place"]) fun _ _ _ _ _ _ us hl => match us, hl with | [_, _], _ => rfl⟩
  have F12 := fun_mk (st := sStep) l12 c12 k12
  have D12 : Def K mg "step" f12 _ ["term", "place"] := ⟨PySem.W.mg_of X G a12, k12, F12.binds (ps := ["term", "place"]) fun _ _ _ _ _ _ us hl => match us, hl with | [_, _], _ => rfl⟩
  have F13 := fun_mk (st := sStream) l13 c13 k13
  have D13 : Def K mg "_law_stream" f13 _ ["_law_script"] := ⟨PySem.W.mg_of X G a13, k13, F13.binds (ps := ["_law_script"]) fun _ _ _ _ _ _ us hl => match us, hl with | [_], _ => rfl⟩
  have F14 := fun_mk (st := sDraw) l14 c14 k14
  have D14 : Def K mg "_law_draw" f14 _ ["_law_stream_here", "_law_many"] := ⟨PySem.W.mg_of X G a14, k14, F14.binds (ps := ["_law_stream_here", "_law_many"]) fun _ _ _ _ _ _ us hl => match us, hl with | [_, _], _ => rfl⟩
  have F15 := fun_mk (st := sIsLam) l15 c15 k15
  have D15 : Def K mg "_law_is_lam" f15 _ ["_law_node"] := ⟨PySem.W.mg_of X G a15, k15, F15.binds (ps := ["_law_node"]) fun _ _ _ _ _ _ us hl => match us, hl with | [_], _ => rfl⟩
  have F16 := fun_mk (st := sLDepths) l16 c16 k16
  have D16 : Def K mg "_law_depths" f16 _ ["_law_term_here"] := ⟨PySem.W.mg_of X G a16, k16, F16.binds (ps := ["_law_term_here"]) fun _ _ _ _ _ _ us hl => match us, hl with | [_], _ => rfl⟩
  have F17 := fun_mk (st := sTerm) l17 c17 k17
  have D17 : Def K mg "_law_term" f17 _ ["_law_stream_here", "_law_size", "_law_depth"] := ⟨PySem.W.mg_of X G a17, k17, F17.binds (ps := ["_law_stream_here", "_law_size", "_law_depth"]) fun _ _ _ _ _ _ us hl => match us, hl with | [_, _, _], _ => rfl⟩
  have F18 := fun_mk (st := sClosed) l18 c18 k18
  have D18 : Def K mg "_law_closed_term" f18 _ ["_law_stream_here"] := ⟨PySem.W.mg_of X G a18, k18, F18.binds (ps := ["_law_stream_here"]) fun _ _ _ _ _ _ us hl => match us, hl with | [_], _ => rfl⟩
  have F19 := fun_mk (st := sRich) l19 c19 k19
  have D19 : Def K mg "_law_rich" f19 _ ["_law_stream_here", "_law_size"] := ⟨PySem.W.mg_of X G a19, k19, F19.binds (ps := ["_law_stream_here", "_law_size"]) fun _ _ _ _ _ _ us hl => match us, hl with | [_, _], _ => rfl⟩
  have F20 := fun_mk (st := sLFree) l20 c20 k20
  have D20 : Def K mg "_law_free" f20 _ ["_law_term_here"] := ⟨PySem.W.mg_of X G a20, k20, F20.binds (ps := ["_law_term_here"]) fun _ _ _ _ _ _ us hl => match us, hl with | [_], _ => rfl⟩
  have F21 := fun_mk (st := sBoth) l21 c21 k21
  have D21 : Def K mg "_law_both" f21 _ ["_law_term_here", "_law_place", "_law_value"] := ⟨PySem.W.mg_of X G a21, k21, F21.binds (ps := ["_law_term_here", "_law_place", "_law_value"]) fun _ _ _ _ _ _ us hl => match us, hl with | [_, _, _], _ => rfl⟩
  have F22 := fun_mk (st := sAfter) l22 c22 k22
  have D22 : Def K mg "_law_after" f22 _ ["_law_term_here", "_law_place"] := ⟨PySem.W.mg_of X G a22, k22, F22.binds (ps := ["_law_term_here", "_law_place"]) fun _ _ _ _ _ _ us hl => match us, hl with | [_, _], _ => rfl⟩
  have F23 := fun_mk (st := sLaw) l23 c23 k23
  refine ⟨PySem.W.fnOf "law" "law" (defArgs sLaw) (defBody sLaw) (defScope sLaw) .none kV23 dc23 pm23 an23 cd23 ct23, fun s v => .of_eq rfl, fun base _ _ => ?_⟩
  have G0 : FnOk l.prog w K mg base (L2.CX l.prog w) 1 f0 _ ["nodes"] (spChecked K C) := ok_checked F0 T
  have G1 : FnOk l.prog w K mg base CX0 1 f1 _ ["nodes", "start"] (spEndOf K) := ok_end F1 T
  have G2 : FnOk l.prog w K mg base CX0 1 f2 _ ["nodes"] (spDepths K) := ok_depths F2 T
  have G3 : FnOk l.prog w K mg base CX0 2 f3 _ ["term"] (spFree K true) := ok_free F3 T G2 D2
  have G4 : FnOk l.prog w K mg base CX0 2 f4 _ ["nodes", "count"] (spLifted K) := ok_lifted F4 T G2 D2
  have G5 : FnOk l.prog w K mg base (L2.CX l.prog w) 3 f5 _ ["nodes", "value"] (spPlaced K C) := ok_placed F5 T G2 D2 G4 D4 G0 D0
  have G6 : FnOk l.prog w K mg base (L2.CX l.prog w) 4 f6 _ ["term", "value"] (spPlaced K C) := ok_put F6 G5 D5
  have G7 : FnOk l.prog w K mg base CX0 1 f7 _ ["nodes"] (spPlNodes K) := ok_plnodes F7 T
  have G8 : FnOk l.prog w K mg base CX0 2 f8 _ ["nodes", "place"] (spIndexOf K) := ok_index F8 T G1 D1
  have G9 : FnOk l.prog w K mg base CX0 1 f9 _ ["nodes", "at"] (spIsRedex K) := ok_isredex F9 T
  have G10 : FnOk l.prog w K mg base CX0 2 f10 _ ["term"] (spRedexes K) := ok_redexes F10 T G7 D7 G9 D9
  have G11 : FnOk l.prog w K mg base (L2.CX l.prog w) 4 f11 _ ["nodes", "place"] (spStepped K C) := ok_stepped F11 T G8 D8 G9 D9 G1 D1 G5 D5
  have G12 : FnOk l.prog w K mg base (L2.CX l.prog w) 5 f12 _ ["term", "place"] (spStepped K C) := ok_step F12 G11 D11
  have G13 : FnOk l.prog w K mg base CX0 1 f13 _ ["_law_script"] (spStream K) := ok_stream F13 T
  have G14 : FnOk l.prog w K mg base CX0 1 f14 _ ["_law_stream_here", "_law_many"] (spDraw K) := ok_draw F14 T
  have G15 : FnOk l.prog w K mg base CX0 1 f15 _ ["_law_node"] (spIsLam) := ok_islam F15 T
  have G16 : FnOk l.prog w K mg base CX0 2 f16 _ ["_law_term_here"] (spDepths K) := ok_ldepths F16 G15 D15
  have G17 : FnOk l.prog w K mg base CX0 13 f17 _ ["_law_stream_here", "_law_size", "_law_depth"] (spTerm K 12) := ok_term F17 G14 D14 D17 12
  have G18 : FnOk l.prog w K mg base CX0 2 f18 _ ["_law_stream_here"] (spClosed K) := ok_closed F18 T G14 D14
  have G19 : FnOk l.prog w K mg base CX0 20 f19 _ ["_law_stream_here", "_law_size"] (spRich K 7) := ok_rich F19 G14 D14 G18 D18 G17 D17 D19 7
  have G20 : FnOk l.prog w K mg base CX0 3 f20 _ ["_law_term_here"] (spFree K false) := ok_lfree F20 T G16 D16
  have G21 : FnOk l.prog w K mg base CX0 6 f21 _ ["_law_term_here", "_law_place", "_law_value"] (spBoth K) := ok_both F21 T G12 D12 G6 D6
  have G22 : FnOk l.prog w K mg base CX0 6 f22 _ ["_law_term_here", "_law_place"] (spAfter K) := ok_after F22 T G12 D12
  exact ok_law F23 T G13 D13 G14 D14 G19 D19 G10 D10 G21 D21 G22 D22 G20 D20 G3 D3 G6 D6
theorem walk {l : PySem.W.OpenLaw} {q : Program} {loose : List Str} {XP : (Str → Option Value) → Heap → Prop} {YP : World → Heap → Prop} {d : DefRec} {K : Params → PySem.W.Frag} (hn : l.most = some 63) (hdf : d.params.defaults = [])
    (hY : ∀ (w : World) (h : Heap), YP w h → (K w.params).In h)
    (F : ∀ (w : World) (mg : Str → Option Value) (fa : Addr) (h : Heap), (K w.params).In h → h.Ns mainGlobals mg → mg d.name = some (.ref fa) →
      ∃ fd : FuncData, (∀ (s : Shared) (u : Value), BindsTo s fd ⟨[u], []⟩ [("_law_script", u)]) ∧ ∀ base : Heap, (K w.params).In base → base.Ns mainGlobals mg → FnOk l.prog w (K w.params) mg base CX0 21 fa fd ["_law_script"] (spLaw (K w.params))) :
    PySem.W.WalkO q loose XP YP l.row.toRowW d [] (fun f vs => PySem.call f vs) :=
  L2.walk_of (n := 63) (k := 21) (x := "_law_script") (CX := fun _ => CX0) (sp := fun w => spLaw (K w.params)) hn (by decide) hdf ⟨rfl, by decide, by decide⟩ hY F (fun _ _ a ns hl _ hS => ⟨a, ns, rfl, hS, hl, fun _ => rfl⟩) fun _ _ _ _ _ z => z
end K23
open PySem PySem.W PyProof.Rows
set_option maxRecDepth 100000 in
set_option maxHeartbeats 0 in
theorem PySem.Challenge.cw_lydite_k23_whole_steps_under_putting_holds : PySem.Challenge.rw_lydite_k23_whole_steps_under_putting.Holds := by
  w_on; o_law; k_head; (case hw => w_witness2)
  k_fill
  refine K23.walk (l := PySem.Challenge.rw_lydite_k23_whole_steps_under_putting) rfl rfl (fun w h Y => PySem.W.kIn_of Y) ?F
  case F =>
    intro w mg fa h KX G hmg
    refine' K23.all_mk KX G hmg ?a0 ?l0 ?c0 ?k0 ?a1 ?l1 ?c1 ?k1 ?a2 ?l2 ?c2 ?k2 ?a3 ?l3 ?c3 ?k3 ?a4 ?l4 ?c4 ?k4 ?a5 ?l5 ?c5 ?k5 ?a6 ?l6 ?c6 ?k6 ?a7 ?l7 ?c7 ?k7 ?a8 ?l8 ?c8 ?k8 ?a9 ?l9 ?c9 ?k9 ?a10 ?l10 ?c10 ?k10 ?a11 ?l11 ?c11 ?k11 ?a12 ?l12 ?c12 ?k12 ?a13 ?l13 ?c13 ?k13 ?a14 ?l14 ?c14 ?k14 ?a15 ?l15 ?c15 ?k15 ?a16 ?l16 ?c16 ?k16 ?a17 ?l17 ?c17 ?k17 ?a18 ?l18 ?c18 ?k18 ?a19 ?l19 ?c19 ?k19 ?a20 ?l20 ?c20 ?k20 ?a21 ?l21 ?c21 ?k21 ?a22 ?l22 ?c22 ?k22 ?a23 ?l23 ?c23 ?k23 ?z0 ?z1 ?z2 ?z3 ?z4 ?z5 ?z6 ?z7 ?z8 ?z9 ?z10 ?z11 ?m1 ?m2 ?gC ?xC ?kC ?bC ?tC ?iC ?sC
    (case a0 => k_is)
    (case l0 => k_is)
    (case c0 => k_is)
    (case k0 => k_is)
    (case a1 => k_is)
    (case l1 => k_is)
    (case c1 => k_is)
    (case k1 => k_is)
    (case a2 => k_is)
    (case l2 => k_is)
    (case c2 => k_is)
    (case k2 => k_is)
    (case a3 => k_is)
    (case l3 => k_is)
    (case c3 => k_is)
    (case k3 => k_is)
    (case a4 => k_is)
    (case l4 => k_is)
    (case c4 => k_is)
    (case k4 => k_is)
    (case a5 => k_is)
    (case l5 => k_is)
    (case c5 => k_is)
    (case k5 => k_is)
    (case a6 => k_is)
    (case l6 => k_is)
    (case c6 => k_is)
    (case k6 => k_is)
    (case a7 => k_is)
    (case l7 => k_is)
    (case c7 => k_is)
    (case k7 => k_is)
    (case a8 => k_is)
    (case l8 => k_is)
    (case c8 => k_is)
    (case k8 => k_is)
    (case a9 => k_is)
    (case l9 => k_is)
    (case c9 => k_is)
    (case k9 => k_is)
    (case a10 => k_is)
    (case l10 => k_is)
    (case c10 => k_is)
    (case k10 => k_is)
    (case a11 => k_is)
    (case l11 => k_is)
    (case c11 => k_is)
    (case k11 => k_is)
    (case a12 => k_is)
    (case l12 => k_is)
    (case c12 => k_is)
    (case k12 => k_is)
    (case a13 => k_is)
    (case l13 => k_is)
    (case c13 => k_is)
    (case k13 => k_is)
    (case a14 => k_is)
    (case l14 => k_is)
    (case c14 => k_is)
    (case k14 => k_is)
    (case a15 => k_is)
    (case l15 => k_is)
    (case c15 => k_is)
    (case k15 => k_is)
    (case a16 => k_is)
    (case l16 => k_is)
    (case c16 => k_is)
    (case k16 => k_is)
    (case a17 => k_is)
    (case l17 => k_is)
    (case c17 => k_is)
    (case k17 => k_is)
    (case a18 => k_is)
    (case l18 => k_is)
    (case c18 => k_is)
    (case k18 => k_is)
    (case a19 => k_is)
    (case l19 => k_is)
    (case c19 => k_is)
    (case k19 => k_is)
    (case a20 => k_is)
    (case l20 => k_is)
    (case c20 => k_is)
    (case k20 => k_is)
    (case a21 => k_is)
    (case l21 => k_is)
    (case c21 => k_is)
    (case k21 => k_is)
    (case a22 => k_is)
    (case l22 => k_is)
    (case c22 => k_is)
    (case k22 => k_is)
    (case a23 => k_is)
    (case l23 => k_is)
    (case c23 => k_is)
    (case k23 => k_is)
    (case z0 => k_is)
    (case z1 => k_is)
    (case z2 => k_is)
    (case z3 => k_is)
    (case z4 => k_is)
    (case z5 => k_is)
    (case z6 => k_is)
    (case z7 => k_is)
    (case z8 => k_is)
    (case z9 => k_is)
    (case z10 => k_is)
    (case z11 => k_is)
    (case m1 => k_is)
    (case m2 => k_is)
    (case gC => k_is)
    (case xC => k_exc)
    (case kC => k_is)
    (case bC => k_is)
    (case tC => k_is)
    (case iC => k_is)
    (case sC => first | rfl | k_is)
