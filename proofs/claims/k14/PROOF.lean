import PyProof.Rows.All
import Wide.All
import OpenK.AllK
import Wide.FinOn
import HandS.ForMost
import HandS.ForExc
import HandS.TupAny
import HandS.IsInst
import HandS.Deep
import HandS.Flow
import HandS.Style
import HandS.Small
import HandS.SortInts
import HandS.Conv
import HandS.Codes
import KE.KRevSl
import PySem.Challenge.RW_kindnotes_k14_what_a_node_needs
set_option Elab.async false
set_option maxRecDepth 100000
namespace Kn
open PySem L2
/-- a def of the text that stands behind the top under its name, and how its arguments bind -/
structure Fz (K : PySem.W.Frag) (mg : Str → Option Value) (x : Str) (st : Stmt) (ps : List Str) : Prop where
  ex : ∃ (f : Addr) (fd : FuncData), Fun K x x st f fd ∧ mg x = some (.ref f) ∧ Binds K fd ps []
/-- a def by its promise -/
structure Fx (P : Program) (w : World) (K : PySem.W.Frag) (mg : Str → Option Value) (base : Heap) (CX : CXT) (x : Str) (k : Nat) (ps : List Str) (sp : Sp) : Prop where
  ex : ∃ (f : Addr) (fd : FuncData), FnOk P w K mg base CX k f fd ps sp ∧ mg x = some (.ref f) ∧ PySem.W.keepIn K (.ref f) = true ∧ Binds K fd ps []
theorem Fx.mono {P : Program} {w : World} {K : PySem.W.Frag} {mg : Str → Option Value} {base : Heap} {CX : CXT} {x : Str} {j k : Nat} {ps : List Str} {sp : Sp} (F : Fx P w K mg base CX x j ps sp) (h : j ≤ k) : Fx P w K mg base CX x k ps sp :=
  let ⟨f, fd, a, b⟩ := F.ex
  ⟨f, fd, a.mono h, b⟩
theorem Fz.ok {P : Program} {w : World} {K : PySem.W.Frag} {mg : Str → Option Value} {base : Heap} {x : Str} {st : Stmt} {ps N : List Str} {k : Nat} {sp : Sp} (F : Fz K mg x st ps) (S : FnScope N ps (defScope st)) (len : ∀ vs H Q E, sp vs H Q E → vs.length = ps.length)
    (hbody : ∀ (f : Addr) (cdv : Value) (A : Around) (outer : List Env) (s : Shared) (H : Hp) (vs : List V) (Q : VK) (E : XK), Room k (A.deeper (PyProof.Rows.envOfC x (defScope st) s.heap.objs.size f cdv)) → sp vs H Q E →
      ∃ t, PSs (cxOf CX0 P w K mg base N x (defScope st) f cdv A outer s H E).nox (defBody st) t ∧ t { nx := fun _ H' => Q .non H', rt := Q } (start N vs) H) : Fx P w K mg base CX0 x (k + 1) ps sp := by
  obtain ⟨f, fd, F1, m, b⟩ := F.ex
  exact ⟨f, fd, F1.ok S len (hbody f), m, F1.kp, b⟩
section
variable {X : Cx} {k : Nat} {ps : List Str} {sp : Sp} {E : XK} {x : Str} {p pos : Pos} {e : Expr} {es : List Expr} {t : TA} {CX : CXT}
/-- f(e, ..) of such a def, that raises nothing -/
theorem fcall (F : Fx X.prog X.w X.K X.mg X.base CX0 x k ps sp) (hr : Room k X.A) (hg : Gl X x) (ha : PA X (e :: es) t)
    (hdb : (x == ("__debug__" : Str)) = false := by decide) (he : starEach (e :: es) X.env = (false, eval e X.env) :: starEach es X.env := by rfl) (hpl : (backTo pos (starEach es X.env)).any (·.1) = false := by rfl) :
    PE X (.Call (.Name x p) (e :: es) [] pos) (tCall sp [] E0 t) := by
  obtain ⟨f, fd, F1, m, kp, b⟩ := F.ex
  exact pe_call F1 hr hg m kp b .nil pass0 ha hdb he hpl
/-- a module's constant -/
theorem pglob {v : V} (hg : Gl X x) (h : ∃ u, X.mg x = some u ∧ RelV v u) (hd : (x == ("__debug__" : Str)) = false := by decide) : PE X (.Name x pos) (tC v) := by
  obtain ⟨u, hm, r⟩ := h
  exact pe_glob hg hm r hd
end
/-! ### the tape -/
/-- at t a list of ints -/
def Tape (H : Hp) (t : Addr) : Prop := ∃ ns : List Int, H t = some (.lst (ns.map V.int))
/-- behind a draw from the tape at t: the tape is a tape, all else that stood stands -/
structure Dr (t : Addr) (H H' : Hp) : Prop where
  tape : Tape H' t
  keep : ∀ b o, H b = some o → b ≠ t → H' b = some o
theorem Dr.trans {t : Addr} {H H1 H2 : Hp} (a : Dr t H H1) (b : Dr t H1 H2) : Dr t H H2 := ⟨b.tape, fun c o h n => b.keep c o (a.keep c o h n) n⟩
theorem Dr.refl {t : Addr} {H : Hp} (a : Tape H t) : Dr t H H := ⟨a, fun _ _ h _ => h⟩
theorem Tape.ne {H : Hp} {t b : Addr} (h : Tape H t) (hb : H b = none) : t ≠ b := by
  obtain ⟨ns, h⟩ := h
  exact ne_of_none h hb
/-- a new object beside the tape -/
theorem Dr.new {t : Addr} {H : Hp} {p : Addr} {o : HO} (a : Tape H t) (hp : H p = none) : Dr t H (upd H p o) := by
  have n := a.ne hp
  refine ⟨?_, fun b u h nb => ?_⟩
  · obtain ⟨ns, h⟩ := a
    exact ⟨ns, by rw [upd_ne n]; exact h⟩
  · rw [upd_ne (ne_of_none h hp)]
    exact h
theorem Dr.put {t : Addr} {H : Hp} (ns : List Int) : Dr t H (upd H t (.lst (ns.map V.int))) := ⟨⟨ns, upd_same⟩, fun b o h n => by rw [upd_ne n]; exact h⟩
/-- a change at an address that did not stand at the entry -/
theorem Dr.upd {t : Addr} {H H1 : Hp} {l : Addr} {o : HO} (d : Dr t H H1) (n : t ≠ l) (hl : H l = none) : Dr t H (upd H1 l o) := by
  refine ⟨?_, fun b u h nb => ?_⟩
  · obtain ⟨ns, h⟩ := d.tape
    exact ⟨ns, by rw [upd_ne n]; exact h⟩
  · rw [upd_ne (ne_of_none h hl)]
    exact d.keep b u h nb
def spTake : Sp := fun vs H Q _ => ∃ (t : Addr) (m : Int), vs = [.ref t, .int m] ∧ Tape H t ∧ 0 < m ∧ ∀ (r : Int) (H' : Hp), 0 ≤ r → r < m → Dr t H H' → Q (.int r) H'
/-! ### the rules with the written part by name -/
section
variable {X : Cx}
theorem ix_listK (K : PySem.W.Frag) (h : X.K = K := by rfl) : IxR X (rIxL K) := by subst h; exact ix_list
theorem ix_tupK (K : PySem.W.Frag) (h : X.K = K := by rfl) : IxR X (rIxT K) := by subst h; exact ix_tup
theorem ix_seqK (K : PySem.W.Frag) (h : X.K = K := by rfl) : IxR X (rIx K) := by subst h; exact ix_seq
theorem sl_listK (K : PySem.W.Frag) (h : X.K = K := by rfl) : SlR X (rSlL K) := by subst h; exact sl_list
theorem sl_tupAK (K : PySem.W.Frag) (h : X.K = K := by rfl) : SlR X (rSlA K) := by subst h; exact sl_tupA
theorem op_in_seqK (K : PySem.W.Frag) (h : X.K = K := by rfl) : OpR X (compareOp .In) (rIn K false) := by subst h; exact op_in_seq
theorem op_notIn_seqK (K : PySem.W.Frag) (h : X.K = K := by rfl) : OpR X (compareOp .NotIn) (rIn K true) := by subst h; exact op_notIn_seq
theorem op_catAK (K : PySem.W.Frag) (h : X.K = K := by rfl) : OpR X (binaryOp .Add) (rCatA K) := by subst h; exact op_catA
theorem cr_sortedK (K : PySem.W.Frag) (h : X.K = K := by rfl) : CallR X (.builtin "sorted") (rSorted K) := by subst h; exact cr_sorted
theorem call_isi1K (K : PySem.W.Frag) (h : X.K = K := by rfl) : CallR X (.builtin "isinstance") (rIsi K) := by subst h; exact call_isi
theorem call_isiTK (K : PySem.W.Frag) (h : X.K = K := by rfl) : CallR X (.builtin "isinstance") (rIsiT K) := by subst h; exact call_isiT
theorem op_eqDK (K : PySem.W.Frag) (hu : X.A.units + 64 < cLine) (h : X.K = K := by rfl) : OpR X (compareOp .Eq) (rEqD K) := by subst h; exact op_eqD hu
theorem op_neDK (K : PySem.W.Frag) (hu : X.A.units + 64 < cLine) (h : X.K = K := by rfl) : OpR X (compareOp .NotEq) (rNeD K) := by subst h; exact op_neD hu
theorem op_inDK (K : PySem.W.Frag) (hu : X.A.units + 65 < cLine) (h : X.K = K := by rfl) : OpR X (compareOp .In) (rInD K) := by subst h; exact op_inD hu
theorem op_notInDK (K : PySem.W.Frag) (hu : X.A.units + 65 < cLine) (h : X.K = K := by rfl) : OpR X (compareOp .NotIn) (rNotInD K) := by subst h; exact op_notInD hu
theorem mt_indexDK (K : PySem.W.Frag) (hu : X.A.units + 65 < cLine) (h : X.K = K := by rfl) : MtR X "list.index" (rIndexD K) := by subst h; exact mt_indexD hu
theorem cr_sumK (K : PySem.W.Frag) (hu : X.calm = true) (h : X.K = K := by rfl) : CallR X (.builtin "sum") (rSum K) := by subst h; exact cr_sum hu
theorem cr_allK (K : PySem.W.Frag) (hu : X.calm = true) (h : X.K = K := by rfl) : CallR X (.builtin "all") (rAll K) := by subst h; exact cr_all hu
theorem cr_anyK (K : PySem.W.Frag) (hu : X.calm = true) (h : X.K = K := by rfl) : CallR X (.builtin "any") (rAny K) := by subst h; exact cr_any hu
theorem cr_minK (K : PySem.W.Frag) (hu : X.calm = true) (h : X.K = K := by rfl) : CallR X (.builtin "min") (rMin K) := by subst h; exact cr_min hu
theorem cr_maxK (K : PySem.W.Frag) (hu : X.calm = true) (h : X.K = K := by rfl) : CallR X (.builtin "max") (rMax K) := by subst h; exact cr_max hu
def rLenSq (K : PySem.W.Frag) : List V → Hp → VK → Prop := fun xs H Q => ∃ p ys, xs = [.ref p] ∧ (SqL K H p ys ∨ SqT K H p ys) ∧ Q (.int ys.length) H
theorem call_len_seqK (K : PySem.W.Frag) (h : X.K = K := by rfl) : CallR X (.builtin "len") (rLenSq K) := by subst h; exact call_len_seq
def rTupleOf (K : PySem.W.Frag) : List V → Hp → VK → Prop := fun xs H Q => ∃ p ys, xs = [.ref p] ∧ ((SqL K H p ys ∧ ∀ l, H l = none → Q (.ref l) (upd H l (.tup ys))) ∨ (SqT K H p ys ∧ Q (.ref p) H))
theorem call_tuple_ofK (K : PySem.W.Frag) (h : X.K = K := by rfl) : CallR X (.type "tuple") (rTupleOf K) := by subst h; exact call_tuple_of
def rListOf (K : PySem.W.Frag) : List V → Hp → VK → Prop := fun xs H Q => ∃ p ys, xs = [.ref p] ∧ (SqL K H p ys ∨ SqT K H p ys) ∧ ∀ l, H l = none → Q (.ref l) (upd H l (.lst ys))
theorem call_list_ofK (K : PySem.W.Frag) (h : X.K = K := by rfl) : CallR X (.type "list") (rListOf K) := by subst h; exact call_list_of
def rJoin (K : PySem.W.Frag) : V → List V → Hp → VK → Prop := fun x xs H Q => ∃ a p, ∃ ys : List Str, x = .str a ∧ xs = [.ref p] ∧ (SqL K H p (ys.map V.str) ∨ SqT K H p (ys.map V.str)) ∧ (ys.map (·.length)).sum + ys.length * a.length ≤ 16777216 ∧ Q (.str (Txt.join a ys)) H
theorem mt_joinK (K : PySem.W.Frag) (h : X.K = K := by rfl) : MtR X "str.join" (rJoin K) := by subst h; exact mt_join
variable {T : String} {name : Str} {id : String} {r : V → List V → Hp → VK → Prop} {o e : Expr} {es : List Expr} {to : TE} {t : TA} {apos cpos : Pos} {tg l : Expr} {tl : TE}
theorem pe_bmK (K : PySem.W.Frag) (pa : PlainAttrs T) (slot : Slot T name id) (hty : typeOf (.builtin id) = pure (.type "method_descriptor")) (hm : MtR X id r) (ho : PE X o to) (ha : PA X (e :: es) t) (h : X.K = K := by rfl)
    (hbase : attributeBase o name X.env (eval o X.env) = eval o X.env := by rfl)
    (hfew : ((backTo cpos (starEach (e :: es) X.env)).all (fun x => !x.1) && (backToKw cpos (keywordEach [] X.env)).all (fun x => x.1.isSome)
      && decide ((e :: es).length + ([] : List Keyword).length + (if ([] : List Keyword).isEmpty then 0 else 1) < 30)) = true := by rfl)
    (hline : (apos.endLine == cpos.line) = true := by rfl) (hs : starEach (e :: es) X.env = (false, eval e X.env) :: starEach es X.env := by rfl) (hplain : (backTo cpos (starEach es X.env)).any (·.1) = false := by rfl) :
    PE X (.Call (.Attribute o name apos) (e :: es) [] cpos) (tBM K T r to t) := by subst h; exact pe_bm pa slot hty hm ho ha hbase hfew hline hs hplain
theorem pe_bm0K (K : PySem.W.Frag) (pa : PlainAttrs T) (slot : Slot T name id) (hty : typeOf (.builtin id) = pure (.type "method_descriptor")) (hm : MtR X id r) (ho : PE X o to) (h : X.K = K := by rfl)
    (hbase : attributeBase o name X.env (eval o X.env) = eval o X.env := by rfl) (hline : (apos.endLine == cpos.line) = true := by rfl) : PE X (.Call (.Attribute o name apos) [] [] cpos) (tBM0 K T r to) := by subst h; exact pe_bm0 pa slot hty hm ho hbase hline
theorem pi_listK (K : PySem.W.Frag) (hl : PE X l tl) (h : X.K = K := by rfl) : PI X tg l (iList K tl) := by subst h; exact pi_list hl
theorem pi_tupK (K : PySem.W.Frag) (hl : PE X l tl) (h : X.K = K := by rfl) : PI X tg l (iTup K tl) := by subst h; exact pi_tup hl
end
end Kn

set_option Elab.async false
set_option maxRecDepth 100000
set_option linter.all false
namespace L2
open PySem
/-! ### data under a change of the heap -/
theorem Rd.same {H H' : Hp} {a : Addr} {u : HO} (e : Same H H') (h : Rd H a u) : Rd H' a u := by
  rcases h with h | ⟨o, h⟩
  · exact .inl (e _ _ h)
  · exact .inr ⟨o, e _ _ h⟩
theorem SqT.same {K : PySem.W.Frag} {H H' : Hp} {a : Addr} {xs : List V} (e : Same H H') (h : SqT K H a xs) : SqT K H' a xs := by
  rcases h with h | h
  · exact .inl (Rd.same e h)
  · exact .inr h
mutual
theorem Dp.same {K : PySem.W.Frag} {H H' : Hp} (e : Same H H') : ∀ (d : PyData) {v : V}, Dp K H v d → Dp K H' v d
  | .none, _, .non => .non
  | .bool b, _, .bl _ => .bl b
  | .int i, _, .int _ => .int i
  | .str x, _, .str _ => .str x
  | .list ds, _, .lst h a => .lst (Same.seq e h) (DpAll.same e ds a)
  | .tuple ds, _, .tup h a => .tup (SqT.same e h) (DpAll.same e ds a)
theorem DpAll.same {K : PySem.W.Frag} {H H' : Hp} (e : Same H H') : ∀ (ds : List PyData) {vs : List V}, DpAll K H vs ds → DpAll K H' vs ds
  | [], _, .nil => .nil
  | d :: ds, _, .cons h a => .cons (Dp.same e d h) (DpAll.same e ds a)
end
mutual
/-- no list in it -/
def nl : PyData → Bool
  | .list _ => false
  | .dict _ => false
  | .tuple ds => nlAll ds
  | _ => true
def nlAll : List PyData → Bool
  | [] => true
  | d :: ds => nl d && nlAll ds
end
/-- all tuples stay -/
def Tups (H H' : Hp) : Prop := ∀ b xs, Rd H b (.tup xs) → Rd H' b (.tup xs)
theorem Same.tups {H H' : Hp} (e : Same H H') : Tups H H' := fun _ _ h => Rd.same e h
theorem Tups.trans {H H1 H2 : Hp} (a : Tups H H1) (b : Tups H1 H2) : Tups H H2 := fun c xs h => b c xs (a c xs h)
theorem Tups.refl (H : Hp) : Tups H H := fun _ _ h => h
/-- all but one list stay -/
theorem tups_of {H H' : Hp} {t : Addr} {ys : List V} (ht : H t = some (.lst ys)) (k : ∀ b o, H b = some o → b ≠ t → H' b = some o) : Tups H H' := fun b xs h => by
  rcases h with h | ⟨o, h⟩
  · exact .inl (k _ _ h (ne_of h ht (by intro z; cases z)))
  · exact .inr ⟨o, k _ _ h (ne_of h ht (by intro z; cases z))⟩
theorem tups_upd {H : Hp} {t : Addr} {ys : List V} {o : HO} (ht : H t = some (.lst ys)) : Tups H (upd H t o) := tups_of ht fun b u h n => by rw [upd_ne n]; exact h
theorem tups_new {H : Hp} {t : Addr} {o : HO} (ht : H t = none) : Tups H (upd H t o) := Same.tups fun b u h => by rw [upd_ne (ne_of_none h ht)]; exact h
mutual
theorem Dp.tups {K : PySem.W.Frag} {H H' : Hp} (e : Tups H H') : ∀ (d : PyData) {v : V}, nl d = true → Dp K H v d → Dp K H' v d
  | .none, _, _, .non => .non
  | .bool b, _, _, .bl _ => .bl b
  | .int i, _, _, .int _ => .int i
  | .str x, _, _, .str _ => .str x
  | .list _, _, n, _ => by simp [nl] at n
  | .dict _, _, n, _ => by simp [nl] at n
  | .tuple ds, _, n, .tup h a => by
    rw [nl] at n
    refine .tup ?_ (DpAll.tups e ds n a)
    rcases h with h | h
    · exact .inl (e _ _ h)
    · exact .inr h
theorem DpAll.tups {K : PySem.W.Frag} {H H' : Hp} (e : Tups H H') : ∀ (ds : List PyData) {vs : List V}, nlAll ds = true → DpAll K H vs ds → DpAll K H' vs ds
  | [], _, _, .nil => .nil
  | d :: ds, _, n, .cons h a => by
    rw [nlAll, Bool.and_eq_true] at n
    exact .cons (Dp.tups e d n.1 h) (DpAll.tups e ds n.2 a)
end
theorem nlAll_mem : ∀ {ds : List PyData}, (∀ d ∈ ds, nl d = true) → nlAll ds = true
  | [], _ => by rw [nlAll]
  | d :: ds, h => by rw [nlAll, h d (by simp), nlAll_mem fun e he => h e (by simp [he])]; rfl
theorem DpAll.len {K : PySem.W.Frag} {H : Hp} : ∀ {vs : List V} {ds : List PyData}, DpAll K H vs ds → vs.length = ds.length
  | _, _, .nil => rfl
  | _, _, .cons _ a => by simp [DpAll.len a]
theorem DpAll.get {K : PySem.W.Frag} {H : Hp} : ∀ {vs : List V} {ds : List PyData} {i : Nat} {v : V}, DpAll K H vs ds → vs[i]? = some v → ∃ d, ds[i]? = some d ∧ Dp K H v d
  | _, _, _, _, .nil, e => by simp at e
  | _, _, 0, _, .cons h _, e => by simp at e; subst e; exact ⟨_, rfl, h⟩
  | _, _, i + 1, v, .cons _ a, e => by
    obtain ⟨d, h1, h2⟩ := DpAll.get (i := i) (v := v) a (by simpa using e)
    exact ⟨d, by simpa using h1, h2⟩
theorem DpAll.of_get {K : PySem.W.Frag} {H : Hp} {vs : List V} {ds : List PyData} {i : Nat} {d : PyData} (a : DpAll K H vs ds) (e : ds[i]? = some d) : ∃ v, vs[i]? = some v ∧ Dp K H v d := by
  have hi : i < vs.length := by rw [a.len]; exact (List.getElem?_eq_some_iff.mp e).1
  obtain ⟨d', h1, h2⟩ := a.get (List.getElem?_eq_getElem hi)
  rw [e] at h1; cases h1
  exact ⟨_, List.getElem?_eq_getElem hi, h2⟩
theorem DpAll.snoc {K : PySem.W.Frag} {H : Hp} : ∀ {vs : List V} {ds : List PyData} {v : V} {d : PyData}, DpAll K H vs ds → Dp K H v d → DpAll K H (vs ++ [v]) (ds ++ [d])
  | _, _, _, _, .nil, h => .cons h .nil
  | _, _, _, _, .cons g a, h => .cons g (DpAll.snoc a h)
theorem DpAll.app {K : PySem.W.Frag} {H : Hp} : ∀ {vs ws : List V} {ds es : List PyData}, DpAll K H vs ds → DpAll K H ws es → DpAll K H (vs ++ ws) (ds ++ es)
  | _, _, _, _, .nil, h => h
  | _, _, _, _, .cons g a, h => .cons g (DpAll.app a h)
theorem DpAll.ints {K : PySem.W.Frag} {H : Hp} : ∀ (ns : List Int), DpAll K H (ns.map V.int) (ns.map PyData.int)
  | [] => .nil
  | n :: ns => .cons (.int n) (DpAll.ints ns)
theorem DpAll.ints_inv {K : PySem.W.Frag} {H : Hp} : ∀ {ns : List Int} {vs : List V}, DpAll K H vs (ns.map PyData.int) → vs = ns.map V.int
  | [], _, .nil => rfl
  | n :: ns, _, .cons (.int _) a => by rw [DpAll.ints_inv a]; rfl
theorem DpAll.strs {K : PySem.W.Frag} {H : Hp} : ∀ (ns : List Str), DpAll K H (ns.map V.str) (ns.map PyData.str)
  | [] => .nil
  | n :: ns => .cons (.str n) (DpAll.strs ns)
theorem DpAll.strs_inv {K : PySem.W.Frag} {H : Hp} : ∀ {ns : List Str} {vs : List V}, DpAll K H vs (ns.map PyData.str) → vs = ns.map V.str
  | [], _, .nil => rfl
  | n :: ns, _, .cons (.str _) a => by rw [DpAll.strs_inv a]; rfl
theorem Dp.tup_inv {K : PySem.W.Frag} {H : Hp} {v : V} {ds : List PyData} (h : Dp K H v (.tuple ds)) : ∃ a xs, v = .ref a ∧ SqT K H a xs ∧ DpAll K H xs ds := by
  cases h with
  | tup h a => exact ⟨_, _, rfl, h, a⟩
theorem Dp.lst_inv {K : PySem.W.Frag} {H : Hp} {v : V} {ds : List PyData} (h : Dp K H v (.list ds)) : ∃ a xs, v = .ref a ∧ SqL K H a xs ∧ DpAll K H xs ds := by
  cases h with
  | lst h a => exact ⟨_, _, rfl, h, a⟩
theorem inV_ints (n : Int) : ∀ (gs : List Int), inV (.int n) (gs.map V.int) = gs.contains n
  | [] => rfl
  | g :: gs => by
    have ih := inV_ints n gs
    unfold inV at *
    rw [List.map_cons, List.any_cons, ih, List.contains_cons]
    show ((g == n) || _) = ((n == g) || _)
    rw [Bool.beq_comm]
theorem flat_ints (gs : List Int) : (gs.map V.int).all flatV = true := by simp [flatV]
end L2
namespace Kn
open PySem L2
theorem Dr.tups {t : Addr} {H H' : Hp} (h : Tape H t) (d : Dr t H H') : Tups H H' := by
  obtain ⟨ns, h⟩ := h
  exact tups_of h d.keep
/-- the type of data -/
def tyD : PyData → String
  | .none => "NoneType"
  | .bool _ => "bool"
  | .int _ => "int"
  | .str _ => "str"
  | .list _ => "list"
  | .tuple _ => "tuple"
  | .dict _ => "dict"
theorem Dp.ty {K : PySem.W.Frag} {H : Hp} : ∀ {v : V} {d : PyData}, Dp K H v d → TyX K H v (.type (tyD d))
  | _, _, .non => .base .non
  | _, _, .bl b => .base (.bl b)
  | _, _, .int i => .base (.int i)
  | _, _, .str x => .base (.str x)
  | _, _, .lst h _ => by
    rcases h with (h | ⟨o, h⟩) | ⟨o, its, n, h, c, _⟩
    · exact .base (.lst h)
    · exact .base (.frz h)
    · exact .kList h c
  | _, _, .tup h _ => by
    rcases h with (h | ⟨o, h⟩) | ⟨o, its, n, h, c, _⟩
    · exact .base (.tup h)
    · exact .fTuple h
    · exact .kTuple h c
theorem seqIdx_nat {r : Int} {n : Nat} (h0 : 0 ≤ r) (h : r.toNat < n) : seqIndex? r n = some r.toNat := by
  have h1 : ¬ r < 0 := by omega
  have h2 : r < n := by omega
  simp [seqIndex?, h1, h0, h2]
theorem map_eraseIdx' {α β : Type} (f : α → β) : ∀ (l : List α) (i : Nat), (l.map f).eraseIdx i = (l.eraseIdx i).map f
  | [], _ => rfl
  | _ :: _, 0 => rfl
  | a :: l, i + 1 => by
    show f a :: (l.map f).eraseIdx i = f a :: (l.eraseIdx i).map f
    rw [map_eraseIdx' f l i]
theorem yes_ {σ : St} {H : Hp} {A B : Hp → Prop} (h : A H) : tYes σ H fun b H3 => if b = true then A H3 else B H3 := by
  show if true = true then A H else B H
  exact iteT h
/-! ### comprehensions that only read: the list is xs.filterMap f -/
section
variable {K : PySem.W.Frag} {a : Addr} {xs : List V} {g : TG} {tt : TT} {te : TE} {vs : List Nat} {σ : St} {H1 : Hp} {D : Addr} {Qd : Hp → Prop}
theorem filterMap_take {α β : Type} (f : α → Option β) {xs : List α} {i : Nat} {x : α} (h : xs[i]? = some x) : (xs.take (i + 1)).filterMap f = (xs.take i).filterMap f ++ (f x).toList := by
  have hi := (List.getElem?_eq_some_iff.mp h).1
  have hx : xs[i] = x := (List.getElem?_eq_some_iff.mp h).2
  rw [List.take_succ_eq_append_getElem hi, List.filterMap_append, hx]
  cases e : f x with
  | none => simp [e]
  | some y => simp [e]
theorem lc_pureT (f : V → Option V) (hD : H1 D = none) (ha : SqT K H1 a xs) (hz : xs.length < sizeLine)
    (hs : ∀ (i : Nat) x H (R1 : Hp → Prop) (R : V → Hp → Prop), xs[i]? = some x → Same H1 H → (f x = none → R1 H) → (∀ y, f x = some y → R y H) → g x (wipe σ vs) H fun σ2 H2 => wipe σ2 vs = wipe σ vs ∧ tt σ2 H2 fun b H3 => if b = true then te σ2 H3 R else R1 H3)
    (hd : Qd (upd H1 D (.lst (xs.filterMap f)))) :
    ∃ W : Nat → Nat → Hp → Prop, (∃ m, W 0 m (upd H1 D (.lst []))) ∧ ∀ i m H, W i m H →
      ((Itt K a).stop i H ∧ Qd H) ∨ ((Itt K a).go i H ∧ ∃ Nx : Hp → Prop, (∀ H', Nx H' → ∃ m', m' < m ∧ W (i + 1) m' H') ∧ ∀ x H', (Itt K a).yld i H x H' → g x (wipe σ vs) H' fun σ2 H2 => wipe σ2 vs = wipe σ vs ∧ tt σ2 H2 fun b H3 =>
        if b = true then te σ2 H3 fun y H4 => ∃ acc, H4 D = some (.lst acc) ∧ acc.length < sizeLine ∧ Nx (upd H4 D (.lst (acc ++ [y]))) else Nx H3) := by
  have sm : ∀ o, Same H1 (upd H1 D o) := fun o b u e => by rw [upd_ne (ne_of_none e hD)]; exact e
  refine lc_tup (xs := xs) (fun i H => H = upd H1 D (.lst ((xs.take i).filterMap f))) ?_ ?_ ?_ ?_
  · simp
  · rintro i H _ rfl; exact SqT.same (sm _) ha
  · rintro i x H hx rfl
    refine hs i x _ _ _ hx (sm _) (fun e => ?_) fun y e => ?_
    · rw [filterMap_take f hx, e]; simp
    · refine ⟨_, upd_same, ?_, ?_⟩
      · refine Nat.lt_of_le_of_lt (List.length_filterMap_le _ _) ?_
        rw [List.length_take]
        omega
      · rw [filterMap_take f hx, e, upd_upd]; rfl
  · rintro H rfl
    rw [List.take_length]; exact hd
theorem lc_pureL (f : V → Option V) (hD : H1 D = none) (ha : SqL K H1 a xs) (hz : xs.length < sizeLine)
    (hs : ∀ (i : Nat) x H (R1 : Hp → Prop) (R : V → Hp → Prop), xs[i]? = some x → Same H1 H → (f x = none → R1 H) → (∀ y, f x = some y → R y H) → g x (wipe σ vs) H fun σ2 H2 => wipe σ2 vs = wipe σ vs ∧ tt σ2 H2 fun b H3 => if b = true then te σ2 H3 R else R1 H3)
    (hd : Qd (upd H1 D (.lst (xs.filterMap f)))) :
    ∃ W : Nat → Nat → Hp → Prop, (∃ m, W 0 m (upd H1 D (.lst []))) ∧ ∀ i m H, W i m H →
      ((Itl K a).stop i H ∧ Qd H) ∨ ((Itl K a).go i H ∧ ∃ Nx : Hp → Prop, (∀ H', Nx H' → ∃ m', m' < m ∧ W (i + 1) m' H') ∧ ∀ x H', (Itl K a).yld i H x H' → g x (wipe σ vs) H' fun σ2 H2 => wipe σ2 vs = wipe σ vs ∧ tt σ2 H2 fun b H3 =>
        if b = true then te σ2 H3 fun y H4 => ∃ acc, H4 D = some (.lst acc) ∧ acc.length < sizeLine ∧ Nx (upd H4 D (.lst (acc ++ [y]))) else Nx H3) := by
  have sm : ∀ o, Same H1 (upd H1 D o) := fun o b u e => by rw [upd_ne (ne_of_none e hD)]; exact e
  refine lc_list (xs := xs) (fun i H => H = upd H1 D (.lst ((xs.take i).filterMap f))) ?_ ?_ ?_ ?_
  · simp
  · rintro i H _ rfl; exact Same.seq (sm _) ha
  · rintro i x H hx rfl
    refine hs i x _ _ _ hx (sm _) (fun e => ?_) fun y e => ?_
    · rw [filterMap_take f hx, e]; simp
    · refine ⟨_, upd_same, ?_, ?_⟩
      · refine Nat.lt_of_le_of_lt (List.length_filterMap_le _ _) ?_
        rw [List.length_take]
        omega
      · rw [filterMap_take f hx, e, upd_upd]; rfl
  · rintro H rfl
    rw [List.take_length]; exact hd
/-- .. the list after i turns is acc i -/
theorem lc_accT (acc : Nat → List V) (hD : H1 D = none) (ha : SqT K H1 a xs) (h0 : acc 0 = []) (hz : ∀ i, i < xs.length → (acc i).length < sizeLine)
    (hs : ∀ (i : Nat) x H (R1 : Hp → Prop) (R : V → Hp → Prop), xs[i]? = some x → Same H1 H → (acc (i + 1) = acc i → R1 H) → (∀ y, acc (i + 1) = acc i ++ [y] → R y H) → g x (wipe σ vs) H fun σ2 H2 => wipe σ2 vs = wipe σ vs ∧ tt σ2 H2 fun b H3 => if b = true then te σ2 H3 R else R1 H3)
    (hd : Qd (upd H1 D (.lst (acc xs.length)))) :
    ∃ W : Nat → Nat → Hp → Prop, (∃ m, W 0 m (upd H1 D (.lst []))) ∧ ∀ i m H, W i m H →
      ((Itt K a).stop i H ∧ Qd H) ∨ ((Itt K a).go i H ∧ ∃ Nx : Hp → Prop, (∀ H', Nx H' → ∃ m', m' < m ∧ W (i + 1) m' H') ∧ ∀ x H', (Itt K a).yld i H x H' → g x (wipe σ vs) H' fun σ2 H2 => wipe σ2 vs = wipe σ vs ∧ tt σ2 H2 fun b H3 =>
        if b = true then te σ2 H3 fun y H4 => ∃ acc, H4 D = some (.lst acc) ∧ acc.length < sizeLine ∧ Nx (upd H4 D (.lst (acc ++ [y]))) else Nx H3) := by
  have sm : ∀ o, Same H1 (upd H1 D o) := fun o b u e => by rw [upd_ne (ne_of_none e hD)]; exact e
  refine lc_tup (xs := xs) (fun i H => H = upd H1 D (.lst (acc i))) ?_ ?_ ?_ ?_
  · rw [h0]
  · rintro i H _ rfl; exact SqT.same (sm _) ha
  · rintro i x H hx rfl
    refine hs i x _ _ _ hx (sm _) (fun e => by rw [e]) fun y e => ?_
    exact ⟨_, upd_same, hz i (List.getElem?_eq_some_iff.mp hx).1, by rw [e, upd_upd]⟩
  · rintro H rfl
    exact hd
theorem lc_accL (acc : Nat → List V) (hD : H1 D = none) (ha : SqL K H1 a xs) (h0 : acc 0 = []) (hz : ∀ i, i < xs.length → (acc i).length < sizeLine)
    (hs : ∀ (i : Nat) x H (R1 : Hp → Prop) (R : V → Hp → Prop), xs[i]? = some x → Same H1 H → (acc (i + 1) = acc i → R1 H) → (∀ y, acc (i + 1) = acc i ++ [y] → R y H) → g x (wipe σ vs) H fun σ2 H2 => wipe σ2 vs = wipe σ vs ∧ tt σ2 H2 fun b H3 => if b = true then te σ2 H3 R else R1 H3)
    (hd : Qd (upd H1 D (.lst (acc xs.length)))) :
    ∃ W : Nat → Nat → Hp → Prop, (∃ m, W 0 m (upd H1 D (.lst []))) ∧ ∀ i m H, W i m H →
      ((Itl K a).stop i H ∧ Qd H) ∨ ((Itl K a).go i H ∧ ∃ Nx : Hp → Prop, (∀ H', Nx H' → ∃ m', m' < m ∧ W (i + 1) m' H') ∧ ∀ x H', (Itl K a).yld i H x H' → g x (wipe σ vs) H' fun σ2 H2 => wipe σ2 vs = wipe σ vs ∧ tt σ2 H2 fun b H3 =>
        if b = true then te σ2 H3 fun y H4 => ∃ acc, H4 D = some (.lst acc) ∧ acc.length < sizeLine ∧ Nx (upd H4 D (.lst (acc ++ [y]))) else Nx H3) := by
  have sm : ∀ o, Same H1 (upd H1 D o) := fun o b u e => by rw [upd_ne (ne_of_none e hD)]; exact e
  refine lc_list (xs := xs) (fun i H => H = upd H1 D (.lst (acc i))) ?_ ?_ ?_ ?_
  · rw [h0]
  · rintro i H _ rfl; exact Same.seq (sm _) ha
  · rintro i x H hx rfl
    refine hs i x _ _ _ hx (sm _) (fun e => by rw [e]) fun y e => ?_
    exact ⟨_, upd_same, hz i (List.getElem?_eq_some_iff.mp hx).1, by rw [e, upd_upd]⟩
  · rintro H rfl
    exact hd
/-- over a range -/
theorem lc_accR {lo : Int} {n : Nat} (acc : Nat → List V) (hD : H1 D = none) (h0 : acc 0 = []) (hz : ∀ i, i < n → (acc i).length < sizeLine)
    (hs : ∀ (i : Nat) H (R1 : Hp → Prop) (R : V → Hp → Prop), i < n → Same H1 H → (acc (i + 1) = acc i → R1 H) → (∀ y, acc (i + 1) = acc i ++ [y] → R y H) → g (.int (lo + i)) (wipe σ vs) H fun σ2 H2 => wipe σ2 vs = wipe σ vs ∧ tt σ2 H2 fun b H3 => if b = true then te σ2 H3 R else R1 H3)
    (hd : Qd (upd H1 D (.lst (acc n)))) :
    ∃ W : Nat → Nat → Hp → Prop, (∃ m, W 0 m (upd H1 D (.lst []))) ∧ ∀ i m H, W i m H →
      ((Itr lo n).stop i H ∧ Qd H) ∨ ((Itr lo n).go i H ∧ ∃ Nx : Hp → Prop, (∀ H', Nx H' → ∃ m', m' < m ∧ W (i + 1) m' H') ∧ ∀ x H', (Itr lo n).yld i H x H' → g x (wipe σ vs) H' fun σ2 H2 => wipe σ2 vs = wipe σ vs ∧ tt σ2 H2 fun b H3 =>
        if b = true then te σ2 H3 fun y H4 => ∃ acc, H4 D = some (.lst acc) ∧ acc.length < sizeLine ∧ Nx (upd H4 D (.lst (acc ++ [y]))) else Nx H3) := by
  have sm : ∀ o, Same H1 (upd H1 D o) := fun o b u e => by rw [upd_ne (ne_of_none e hD)]; exact e
  refine lc_range (fun i H => H = upd H1 D (.lst (acc i))) ?_ ?_ ?_
  · rw [h0]
  · rintro i H hi rfl
    refine hs i _ _ _ hi (sm _) (fun e => by rw [e]) fun y e => ?_
    exact ⟨_, upd_same, hz i hi, by rw [e, upd_upd]⟩
  · rintro H rfl
    exact hd
end
/-! ### data of a bounded depth -/
structure Lay (n : Nat) (d : PyData) : Prop where
  can : d.canLay0 = true
  dep : d.depth ≤ n
theorem Lay.mono {m n : Nat} {d : PyData} (h : Lay m d) (k : m ≤ n) : Lay n d := ⟨h.can, Nat.le_trans h.dep k⟩
theorem Lay.non (n : Nat) : Lay n .none := ⟨by simp [PyData.canLay0], by simp [PyData.depth]⟩
theorem Lay.bl (n : Nat) (b : Bool) : Lay n (.bool b) := ⟨by simp [PyData.canLay0], by simp [PyData.depth]⟩
theorem Lay.int (n : Nat) (i : Int) : Lay n (.int i) := ⟨by simp [PyData.canLay0], by simp [PyData.depth]⟩
theorem Lay.str (n : Nat) {x : Str} (h : PyData.strOk x = true) : Lay n (.str x) := ⟨by simpa [PyData.canLay0] using h, by simp [PyData.depth]⟩
theorem lay_all {n : Nat} : ∀ {ds : List PyData}, (∀ d ∈ ds, Lay n d) → PyData.canLayAll0 ds = true ∧ PyData.depthAll ds ≤ n
  | [], _ => ⟨by simp [PyData.canLayAll0], by simp [PyData.depthAll]⟩
  | d :: ds, h => by
    obtain ⟨h1, h2⟩ := lay_all (ds := ds) fun e he => h e (by simp [he])
    have h3 := h d (by simp)
    refine ⟨by rw [PyData.canLayAll0, h3.can, h1]; rfl, ?_⟩
    rw [PyData.depthAll]
    have := h3.dep
    omega
theorem Lay.tup {n : Nat} {ds : List PyData} (h : ∀ d ∈ ds, Lay n d) : Lay (n + 1) (.tuple ds) := by
  obtain ⟨h1, h2⟩ := lay_all h
  refine ⟨by rw [PyData.canLay0]; exact h1, ?_⟩
  rw [PyData.depth]; omega
theorem Lay.lst {n : Nat} {ds : List PyData} (h : ∀ d ∈ ds, Lay n d) : Lay (n + 1) (.list ds) := by
  obtain ⟨h1, h2⟩ := lay_all h
  refine ⟨by rw [PyData.canLay0]; exact h1, ?_⟩
  rw [PyData.depth]; omega
theorem Lay.shaped {n : Nat} {d : PyData} (h : Lay n d) (k : n ≤ 64 := by decide) : SeqAt.shaped d = true := by
  have := h.dep
  unfold SeqAt.shaped
  rw [h.can, decide_eq_true (show d.depth ≤ 64 by omega)]; rfl
theorem Lay.ints (n : Nat) (l : List Int) : ∀ d ∈ l.map PyData.int, Lay n d := fun d hd => by
  obtain ⟨i, _, rfl⟩ := List.mem_map.mp hd
  exact .int n i
/-! ### equality of data -/
mutual
theorem eqv_refl : ∀ (d : PyData), nl d = true → PyData.eqv d d = true
  | .none, _ => by simp [PyData.eqv]
  | .bool _, _ => by simp [PyData.eqv]
  | .int _, _ => by simp [PyData.eqv]
  | .str _, _ => by simp [PyData.eqv]
  | .list _, n => by simp [nl] at n
  | .dict _, n => by simp [nl] at n
  | .tuple ds, n => by
    rw [nl] at n
    rw [PyData.eqv]
    exact eqvAll_refl ds n
theorem eqvAll_refl : ∀ (ds : List PyData), nlAll ds = true → PyData.eqvAll ds ds = true
  | [], _ => by simp [PyData.eqvAll]
  | d :: ds, n => by
    rw [nlAll, Bool.and_eq_true] at n
    rw [PyData.eqvAll, eqv_refl d n.1, eqvAll_refl ds n.2]; rfl
end
end Kn

set_option Elab.async false
set_option maxRecDepth 100000
set_option linter.all false
namespace Kn
open PySem L2
section
open PySem.Spec PyProof.Rows
variable {prog : Program} {w : World} {A : Around} {E : Value → Shared → Prop} {s : Shared}
theorem sliceApplied_rev {sl : Addr} {vk : Value} {n : Nat} {Q : Int × Int × Nat → Shared → Prop} (hs : s.heap.IsSliceOf sl .none .none vk) (pk : IsPart vk (some (-1)))
    (h : Q ((n : Int) - 1, -1, n) s) : wpAny (model prog w) A (Builtin.Slice.sliceApplied (.ref sl) (pure (n : Int))) Q E s := by
  obtain ⟨os, hos, hcs, hds⟩ := id hs
  unfold Builtin.Slice.sliceApplied Builtin.Slice.sliceFields
  refine wpAny_bind (wpAny_bind (wpAny_field hos hds (x := .none) rfl (wpAny_bind (wpAny_field hos hds (x := .none) rfl (wpAny_bind (wpAny_field hos hds (x := vk) rfl (wpAny_pure ?_)))))))
  refine wpAny_bind (HT.slicePart_ pk ?_)
  show wpAny _ _ (if ((-1 : Int) == 0) = true then _ else _) _ _ s
  rw [if_neg (by decide)]
  refine wpAny_bind (HT.slicePart_ .none (wpAny_bind (HT.slicePart_ .none (wpAny_bind (wpAny_pure ?_)))))
  show wpAny _ _ (pure ((n : Int) - 1, (-1 : Int), Builtin.Slice.slicePlaces ((n : Int) - 1) (-1) (-1))) _ _ s
  have e : Builtin.Slice.slicePlaces ((n : Int) - 1) (-1) (-1) = n := by
    unfold Builtin.Slice.slicePlaces
    have h1 : ¬ ((-1 : Int) > 0) := by omega
    rw [if_neg h1]
    split
    · rw [show -(-1 : Int) = 1 from rfl, Int.ediv_one]; omega
    · omega
  rw [e]
  exact wpAny_pure h
theorem pick_rev (xs : Array Value) : ((List.range xs.size).filterMap fun (m : Nat) => xs[(((xs.size : Int) - 1) + (m : Int) * (-1)).toNat]?).toArray = xs.toList.reverse.toArray := by
  have e : (fun (m : Nat) => xs[(((xs.size : Int) - 1) + (m : Int) * (-1)).toNat]?) = (fun m => xs[m]?) ∘ (fun m => xs.size - 1 - m) := by
    funext m
    have : (((xs.size : Int) - 1) + (m : Int) * (-1)).toNat = xs.size - 1 - m := by omega
    rw [this]; rfl
  rw [e, ← List.filterMap_map, PySem.W.krv_range, List.filterMap_reverse, PySem.W.krv_all]
theorem getItem_tuple_rev {t sl : Addr} {items : Array Value} {vk : Value} {Q : Value → Shared → Prop} (ht : IsTup s.heap t items) (hs : s.heap.IsSliceOf sl .none .none vk) (pk : IsPart vk (some (-1)))
    (h : Q (.ref s.heap.objs.size) { s with heap := s.heap.push { cls := .type "tuple", data := .seq items.toList.reverse.toArray } })
    (hsz : items.size ≤ sizeLine) : wpAny (model prog w) A (getItem (.ref t) (.ref sl)) Q E s := by
  have htake : sizeOk (.seq items.toList.reverse.toArray) := by
    show items.toList.reverse.toArray.size ≤ sizeLine
    rw [List.size_toArray, List.length_reverse, Array.length_toList]
    exact hsz
  obtain ⟨os, hos, hcs, hds⟩ := id hs
  have hTs : s.TypeIs (.ref sl) "slice" := ⟨os, hos, hcs⟩
  unfold getItem
  try with_reducible refine wpAny_holding ?_
  first | refine wpAny_bind (wpAny_pure ?_) | skip
  refine wpAny_bind (wpAny_sequenceKey ht.typeIs (by decide) ?_)
  refine wpAny_bind (wpAny_callSpecial?_slot (name := Str.ofString "__getitem__") ht.typeIs PyProof.Rows.slot_tuple_getitem
    (wpAny_call_entry PyProof.Rows.slot_tuple_getitem ht.typeIs entry_tuple_getitem ?_ (args_tuple_getitem _ _)))
  show wpAny _ _ (Builtin.Tuple.tupleItemsOf (.ref t) >>= _) _ _ s
  refine wpAny_bind (tupleItemsOf_ ht ?_)
  refine wpAny_bind (wpAny_typeOf hTs ?_)
  rw [if_pos (by decide)]
  refine wpAny_bind (sliceApplied_rev hs pk ?_)
  have hno : ¬ ((((items.size : Int) - 1) == 0 && (-1 : Int) == 1 && items.size == items.size) = true) := by simp
  show wpAny _ _ (if ((((items.size : Int) - 1) == 0 && (-1 : Int) == 1 && items.size == items.size) = true) then _ else _) _ _ s
  rw [if_neg hno, pick_rev]
  first
    | exact wpAny_bind (m := Builtin.Tuple.tupleExact _) (wpAny_newObj_type (wpAny_pure ⟨_, rfl, wpAny_pure h⟩) htake)
    | exact wpAny_bind (m := Builtin.Tuple.tupleExact _) (wpAny_newObj_type (wpAny_bind (wpAny_pure (wpAny_pure ⟨_, rfl, wpAny_pure h⟩))) htake)
    | exact wpAny_bind (wpAny_bind (m := Builtin.Tuple.tupleExact _) (wpAny_newObj_type (wpAny_pure (wpAny_pure ⟨_, rfl, wpAny_pure h⟩)) htake))
    | exact wpAny_bind (wpAny_bind (m := Builtin.Tuple.tupleExact _) (wpAny_newObj_type (wpAny_pure ⟨_, rfl, wpAny_pure h⟩) htake))
end
theorem vals_reverse : ∀ {xs : List V} {us : List Value}, Vals xs us → Vals xs.reverse us.reverse
  | _, _, .nil => .nil
  | _, _, .cons r t => by
    rw [List.reverse_cons, List.reverse_cons]
    exact Vals.append (vals_reverse t) (.cons r .nil)
section
open PySem.Spec
variable {X : Cx} {e k : Expr} {te : TE} {tk : TO} {pos p2 : Pos}
def tRevT (K : PySem.W.Frag) (te : TE) (tk : TO) : TE := fun σ H Q => te σ H fun x H1 => tk σ H1 fun o H2 => o = some (-1) ∧ ∃ a xs, x = .ref a ∧ SqT K H2 a xs ∧ ∀ p, H2 p = none → Q (.ref p) (upd H2 p (.tup xs.reverse))
/-- t[::-1] of a tuple -/
theorem pe_revT (K : PySem.W.Frag) (he : PE X e te) (hk : PO X (some k) tk) (hK : X.K = K := by rfl) : PE X (.Subscript e (.Slice none none (some k) p2) pos) (tRevT K te tk) := by
  subst hK
  refine ⟨fun pins s σ H Q I h => ?_⟩
  refine PyProof.Rows.Subscript_ (thn (he.run pins s σ H _ I h) fun v s1 ⟨x, H1, I1, r1, q1⟩ => ?_)
  refine wpAny_Slice ?_
  rw [evalPart_none]
  refine wpAny_pure (wpAny_pure (thn (hk.run pins s1 σ H1 _ I1 q1) fun vk s3 ⟨o, H3, I3, pk, q3⟩ => ?_))
  obtain ⟨rfl, a, xs, rfl, hx, q⟩ := q3
  cases r1
  have I4 : Inv X pins σ H3 { s3 with heap := s3.heap.push { cls := .type "slice", data := .fields #[.none, .none, vk] } } := I3.kept (t' := s3.toks) fun b ob q => Heap.get?_push_of_some _ q
  obtain ⟨its, r, ht, hz⟩ := I4.tuple hx
  show wpAny (model X.prog X.w) X.A (PyProof.Rows.subscriptTail e (.Slice none none (some k) p2) (.ref a) (.ref s3.heap.objs.size)) (EP X pins σ Q) X.xe { s3 with heap := s3.heap.push { cls := .type "slice", data := .fields #[.none, .none, vk] } }
  have hlen : its.toArray.size = xs.length := by rw [List.size_toArray]; exact r.length.symm
  refine PyProof.Rows.tail_any (ops := [.ref a, .ref s3.heap.objs.size]) ht.typeIs PyProof.Rows.slot_tuple_getitem.lookup (getItem_tuple_rev ht (Heap.IsSliceOf.new ..) pk ?_ (by rw [hlen]; exact hz)) (by with_unfolding_all rfl)
  refine ⟨.ref _, _, I4.laid (t' := s3.toks) (o := .tup xs.reverse) (fun b ob q => Heap.get?_push_of_some _ q) (Nat.le_refl _) ?_, rfl, q _ (I4.hok.fresh (Nat.le_refl _))⟩
  exact ⟨by rw [List.length_reverse]; exact hz, _, vals_reverse r, PyProof.Rows.IsTup.new _ _⟩
def tRevL (K : PySem.W.Frag) (te : TE) (tk : TO) : TE := fun σ H Q => te σ H fun x H1 => tk σ H1 fun o H2 => o = some (-1) ∧ ∃ a xs, x = .ref a ∧ SqL K H2 a xs ∧ ∀ p, H2 p = none → Q (.ref p) (upd H2 p (.lst xs.reverse))
/-- l[::-1] of a list -/
theorem pe_revL (K : PySem.W.Frag) (he : PE X e te) (hk : PO X (some k) tk) (hK : X.K = K := by rfl) : PE X (.Subscript e (.Slice none none (some k) p2) pos) (tRevL K te tk) := by
  subst hK
  refine ⟨fun pins s σ H Q I h => ?_⟩
  refine PyProof.Rows.Subscript_ (thn (he.run pins s σ H _ I h) fun v s1 ⟨x, H1, I1, r1, q1⟩ => ?_)
  refine wpAny_Slice ?_
  rw [evalPart_none]
  refine wpAny_pure (wpAny_pure (thn (hk.run pins s1 σ H1 _ I1 q1) fun vk s3 ⟨o, H3, I3, pk, q3⟩ => ?_))
  obtain ⟨rfl, a, xs, rfl, hx, q⟩ := q3
  cases r1
  have I4 : Inv X pins σ H3 { s3 with heap := s3.heap.push { cls := .type "slice", data := .fields #[.none, .none, vk] } } := I3.kept (t' := s3.toks) fun b ob q => Heap.get?_push_of_some _ q
  obtain ⟨its, r, ht, hz⟩ := I4.list hx
  show wpAny (model X.prog X.w) X.A (PyProof.Rows.subscriptTail e (.Slice none none (some k) p2) (.ref a) (.ref s3.heap.objs.size)) (EP X pins σ Q) X.xe { s3 with heap := s3.heap.push { cls := .type "slice", data := .fields #[.none, .none, vk] } }
  have hlen := r.length
  refine PyProof.Rows.tail_any (ops := [.ref a, .ref s3.heap.objs.size]) ht.isList.typeIs slot_list_getitem.lookup (wpAny_getItem_list_slice ht.isList (Heap.IsSliceOf.new ..) .none .none pk (by simp) ?_ (by rw [List.size_toArray] <;> omega)) (by with_unfolding_all rfl)
  rw [PySem.W.krv_pick]
  refine ⟨.ref _, _, I4.laid (t' := s3.toks) (o := .lst xs.reverse) (fun b ob q => Heap.get?_push_of_some _ q) (Nat.le_refl _) ?_, rfl, q _ (I4.hok.fresh (Nat.le_refl _))⟩
  exact ⟨by rw [List.length_reverse]; exact hz, _, 0, vals_reverse r, Heap.get?_push_size _ rfl⟩
end
end Kn

set_option Elab.async false
set_option maxRecDepth 100000
namespace Kn
open PySem L2
def top (i : Nat) : Stmt := PySem.Challenge.pw_kindnotes_k14_what_a_node_needs.main.body.getD i (.Pass ⟨0, 0, 0, 0⟩)
structure Txt (K : PySem.W.Frag) (mg : Str → Option Value) : Prop where
  b_len : mg "len" = none
  b_int : mg "int" = none
  b_range : mg "range" = none
local macro_rules | `(tactic| walk_at "wk") => `(tactic| repeat (first
  | refine ⟨_, rfl, ?_⟩
  | refine ⟨_, _, rfl, rfl, ?_⟩
  | refine ⟨⟨by decide, by decide⟩, ?_⟩
  | refine ⟨(by show (0 : Int) < _; decide), ?_⟩
  | refine ⟨Or.inl ⟨by omega, by omega⟩, ?_⟩
  | refine Or.inl ⟨_, rfl, ?_⟩
  | fail))
variable {P : Program} {w : World} {K : PySem.W.Frag} {mg : Str → Option Value} {base : Heap}
abbrev s__law_take : Stmt := top 7
abbrev N__law_take : List Str := ["_law_tape_here", "_law_many"]
abbrev P__law_take : List Str := ["_law_tape_here", "_law_many"]
theorem sc__law_take : FnScope N__law_take P__law_take (defScope s__law_take) := ⟨rfl, rfl, rfl, by decide +kernel, rfl, by decide +kernel, by decide +kernel⟩
theorem ok__law_take (F : Fz K mg "_law_take" s__law_take P__law_take) (T : Txt K mg) : Fx P w K mg base CX0 "_law_take" 1 P__law_take spTake := by
  refine F.ok sc__law_take (fun vs H Q E h => ?_) (fun f cdv A outer s H vs Q E hr h => ?_)
  · obtain ⟨t, m, rfl, _⟩ := h
    rfl
  · obtain ⟨t, m, rfl, ⟨ns, ht⟩, hm, k⟩ := h
    refine ⟨_, (pss_cons (ps_if (pt_cmpR op_eq (pe_callB (call_len_seqK K) (by rfl) T.b_len PySem.boot_len (pa_cons (pv 0) pa_nil)) pe_int (nomark _)) (pss_one (ps_ret pe_int)) pss_nil)
      (pss_one (ps_ret (pe_op op_mod (pe_callTy call_int1 (by rfl) T.b_int (by decide +kernel) (pa_cons (pe_bmK K PySem.F.plainAttrs_list PySem.F.slot_list_pop PySem.F.type_list_pop mt_popAt (pv 0) (pa_cons pe_int pa_nil)) pa_nil)) (pv 1))))), ?_⟩
    refine ⟨_, rfl, t, _, rfl, .inl (SqL.of ht), rfl, _, rfl, ?_⟩
    refine ite2 (fun c => ?_) (fun c => ?_)
    · exact k 0 H (Int.le_refl _) hm (Dr.refl ⟨ns, ht⟩)
    · cases ns with
      | nil => exact (c rfl).elim
      | cons n ns =>
        refine ⟨_, rfl, .inl ⟨rfl, _, SqL.of ht⟩, t, _, 0, 0, _, rfl, rfl, ht, by decide, by decide, by simp [seqIndex?], rfl, .inl ⟨n, rfl, ?_⟩⟩
        refine ⟨_, rfl, n, m, rfl, rfl, hm, ?_⟩
        exact k (n % m) _ (Int.emod_nonneg _ (by omega)) (Int.emod_lt_of_pos _ hm) (Dr.put ns)
abbrev s__law_cell : Stmt := top 5
abbrev N__law_cell : List Str := ["_law_script", "_law_k"]
abbrev P__law_cell : List Str := ["_law_script", "_law_k"]
theorem sc__law_cell : FnScope N__law_cell P__law_cell (defScope s__law_cell) := ⟨rfl, rfl, rfl, by decide +kernel, rfl, by decide +kernel, by decide +kernel⟩
def spCell (K : PySem.W.Frag) : Sp := fun vs H Q _ => ∃ (a : Addr) (k : Int) (ns : List Int), vs = [.ref a, .int k] ∧ SqL K H a (ns.map V.int) ∧ 0 ≤ k ∧ ∀ z, Q (.int z) H
theorem ok__law_cell (F : Fz K mg "_law_cell" s__law_cell P__law_cell) (T : Txt K mg) : Fx P w K mg base CX0 "_law_cell" 1 P__law_cell (spCell K) := by
  refine F.ok sc__law_cell (fun vs H Q E h => ?_) (fun f cdv A outer s H vs Q E hr h => ?_)
  · obtain ⟨a, i, ns, rfl, _⟩ := h
    rfl
  · obtain ⟨a, i, ns, rfl, hs, hi, k⟩ := h
    refine ⟨_, (pss_cons (ps_if (pt_cmpR op_lt (pv 1) (pe_callB (call_len_seqK K) (by rfl) T.b_len PySem.boot_len (pa_cons (pv 0) pa_nil)) (nomark _)) (pss_one (ps_ret (pe_ix (ix_listK K) (pv 0) (pv 1) (fun _ _ => rfl)))) pss_nil)
      (pss_one (ps_ret pe_int))), ?_⟩
    refine ⟨_, rfl, _, rfl, a, _, rfl, .inl hs, _, _, rfl, rfl, _, rfl, ?_⟩
    refine ite2 (fun c => ?_) (fun c => ?_)
    · have c := of_decide_eq_true c
      rw [List.length_map] at c
      have hj : i.toNat < ns.length := by omega
      refine ⟨_, rfl, _, rfl, a, _, i, V.int ns[i.toNat], rfl, rfl, hs, at_of (j := i.toNat) (by omega) (by simp [hj]), k _⟩
    · exact k _
abbrev s__law_tape : Stmt := top 6
abbrev N__law_tape : List Str := ["_law_script", "_law_k", "_law_size", "_law_cell_here", "_law_left", "_law_tape_here", "_law_j", "_law_mixed"]
abbrev P__law_tape : List Str := ["_law_script", "_law_k", "_law_size"]
theorem sc__law_tape : FnScope N__law_tape P__law_tape (defScope s__law_tape) := ⟨rfl, rfl, rfl, by decide +kernel, rfl, by decide +kernel, by decide +kernel⟩
def spTape (K : PySem.W.Frag) : Sp := fun vs H Q _ => ∃ (a : Addr) (k n : Int) (ns : List Int), vs = [.ref a, .int k, .int n] ∧ SqL K H a (ns.map V.int) ∧ 0 ≤ k ∧ 0 ≤ n ∧ n ≤ 1000 ∧
  ∀ (t : Addr) (H' : Hp), H t = none → Same H H' → Tape H' t → Q (.ref t) H'
theorem ok__law_tape (F : Fz K mg "_law_tape" s__law_tape P__law_tape) (T : Txt K mg) (G__law_cell : Fx P w K mg base CX0 "_law_cell" 1 P__law_cell (spCell K)) : Fx P w K mg base CX0 "_law_tape" 2 P__law_tape (spTape K) := by
  refine F.ok sc__law_tape (fun vs H Q E h => ?_) (fun f cdv A outer s H vs Q E hr h => ?_)
  · obtain ⟨a, i, n, ns, rfl, _⟩ := h
    rfl
  · obtain ⟨a, i, n, ns, rfl, hs, hi, hn0, hn, k⟩ := h
    refine ⟨_, (pss_cons (ps_set (i := 3) sc__law_tape.nd rfl (Or.inl rfl) (fcall G__law_cell (hr.mono (by decide)) (by rfl) (pa_cons (pv 0) (pa_cons (pv 1) pa_nil))))
      (pss_cons (ps_set (i := 4) sc__law_tape.nd rfl (Or.inl rfl) (pv 3))
      (pss_cons (ps_set (i := 5) sc__law_tape.nd rfl (Or.inl rfl) (pe_lst pa_nil))
      (pss_cons (ps_for PassesOwn.never rfl (pi_range1 (by rfl) T.b_range (pa_cons (pv 2) pa_nil)) (pg_name (i := 6) sc__law_tape.nd rfl (Or.inl rfl)) (pss_one (ps_if (PW.pt (pw_and (pt_cmpR op_ge (pv 3) (pe_op op_pow pe_int pe_int) (nomark _)) (pw_and1 (pt_cmpR op_gt (pv 4) pe_int (nomark _))))) (pss_cons (ps_expr (pe_bmK K PySem.F.plainAttrs_list PySem.F.slot_list_append PySem.F.type_list_append mt_append (pv 5) (pa_cons (pe_op op_mod (pe_callTy call_int1 (by rfl) T.b_int (by decide +kernel) (pa_cons (pv 4) pa_nil)) pe_int) pa_nil)))
      (pss_one (ps_set (i := 4) sc__law_tape.nd rfl (Or.inl rfl) (pe_op op_fdiv (pv 4) pe_int)))) (pss_cons (ps_set (i := 7) sc__law_tape.nd rfl (Or.inl rfl) (pe_op op_mod (pe_callTy call_int1 (by rfl) T.b_int (by decide +kernel) (pa_cons (pe_op op_add (pe_op op_mul (pe_op op_mod (pe_callTy call_int1 (by rfl) T.b_int (by decide +kernel) (pa_cons (pv 3) pa_nil)) pe_int) (pe_op op_add pe_int (pe_op op_mul pe_int (pv 6)))) (pe_op op_mul pe_int (pv 6))) pa_nil)) pe_int))
      (pss_one (ps_expr (pe_bmK K PySem.F.plainAttrs_list PySem.F.slot_list_append PySem.F.type_list_append mt_append (pv 5) (pa_cons (pe_op op_add (pv 7) (pe_op op_fdiv (pv 7) pe_int)) pa_nil))))))))
      (pss_one (ps_ret (pv 5))))))), ?_⟩
    refine ⟨_, rfl, _, rfl, a, i, ns, rfl, hs, hi, fun z => ?_⟩
    refine ⟨_, rfl, (by show 0 ≤ sizeLine; decide), fun t ht => ?_⟩
    refine ⟨_, rfl, n, rfl, by omega, by omega, ?_⟩
    refine for_range (n := n.toNat) (fun j σ H2 => ∃ (l : Int) (v6 v7 : Option V) (ms : List Int), σ = [some (.ref a), some (.int i), some (.int n), some (.int z), some (.int l), some (.ref t), v6, v7] ∧ H2 t = some (.lst (ms.map V.int)) ∧ ms.length = j ∧ ∀ b o, H b = some o → H2 b = some o) ?_ ?_ ?_
    · exact ⟨z, _, _, [], rfl, upd_same, rfl, fun b o e => by rw [upd_ne (ne_of_none e ht)]; exact e⟩
    · rintro j σ H2 hj ⟨l, v6, v7, ms, rfl, h2, hl, kp⟩
      have step : ∀ (x : Int) (l' : Int) (v6' v7' : Option V), ∃ (l : Int) (v6 v7 : Option V) (ms' : List Int), [some (V.ref a), some (V.int i), some (V.int n), some (V.int z), some (V.int l'), some (V.ref t), v6', v7'] = [some (V.ref a), some (.int i), some (.int n), some (.int z), some (.int l), some (.ref t), v6, v7] ∧ (upd H2 t (.lst (ms.map V.int ++ [V.int x]))) t = some (.lst (ms'.map V.int)) ∧ ms'.length = j + 1 ∧ ∀ b o, H b = some o → (upd H2 t (.lst (ms.map V.int ++ [V.int x]))) b = some o := fun x l' v6' v7' =>
        ⟨l', v6', v7', ms ++ [x], rfl, by rw [upd_same]; simp, by simp [hl], fun b o e => by rw [upd_ne (ne_of_none e ht)]; exact kp b o e⟩
      have hp : (10 : Int) ^ (18 : Int).toNat = 1000000000000000000 := by decide
      have app : ∀ (x : Int) (l' : Int) (v6' v7' : Option V), (ms.map V.int).length < sizeLine := fun _ _ _ _ => small1000 (by rw [List.length_map]; omega)
      have hm : 0 ≤ z % 9973 ∧ z % 9973 < 9973 := ⟨Int.emod_nonneg _ (by decide), Int.emod_lt_of_pos _ (by decide)⟩
      refine ⟨_, rfl, _, _, rfl, rfl, ⟨by decide, by decide, by decide⟩, _, _, rfl, rfl, _, rfl, ?_⟩
      refine ite2 (fun c => ?_) (fun c => ?_)
      · refine ⟨_, rfl, _, _, rfl, rfl, _, rfl, ?_⟩
        refine ite2 (fun c2 => ?_) (fun c2 => ?_)
        · refine ⟨_, rfl, .inl ⟨rfl, _, SqL.of h2⟩, _, rfl, .inl ⟨l, rfl, ?_⟩⟩
          refine ⟨_, _, rfl, rfl, (by show (0 : Int) < 5040; decide), t, _, _, rfl, rfl, h2, app 0 0 none none, ?_⟩
          refine ⟨_, rfl, _, _, rfl, rfl, ⟨by decide, by decide⟩, ?_⟩
          exact step _ _ _ _
        · walk_at "wk"
          refine ⟨.inl ⟨rfl, _, SqL.of h2⟩, ?_⟩
          walk_at "wk"
          exact ⟨t, _, _, rfl, rfl, h2, app 0 0 none none, step _ _ _ _⟩
      · walk_at "wk"
        refine ⟨.inl ⟨rfl, _, SqL.of h2⟩, ?_⟩
        walk_at "wk"
        exact ⟨t, _, _, rfl, rfl, h2, app 0 0 none none, step _ _ _ _⟩
    · rintro σ H2 ⟨l, v6, v7, ms, rfl, h2, hl, kp⟩
      exact ⟨_, rfl, k t H2 ht kp ⟨ms, h2⟩⟩
end Kn

set_option Elab.async false
set_option maxRecDepth 100000
set_option linter.all false
namespace Kn
open PySem L2
local macro_rules | `(tactic| walk_at "wk") => `(tactic| repeat (first
  | refine ⟨_, rfl, ?_⟩
  | refine ⟨_, _, rfl, rfl, ?_⟩
  | refine ⟨⟨by decide, by decide⟩, ?_⟩
  | refine ⟨(by show (0 : Int) < _; decide), ?_⟩
  | refine ⟨Or.inl ⟨by omega, by omega⟩, ?_⟩
  | refine Or.inl ⟨_, rfl, ?_⟩
  | fail))
/-! ### ways -/
structure Way where
  whole : Str
  steps : List (Int × Str)
  noted : List Int
def stepD (p : Int × Str) : PyData := .tuple [.int p.1, .str p.2]
def Way.d (w : Way) : PyData := .tuple [.str w.whole, .tuple (w.steps.map stepD), .tuple (w.noted.map .int)]
def oV : Option Int → V
  | none => .non
  | some i => .int i
def least1 (o : Option Int) (m : Int) : Option Int := match o with
  | none => some m
  | some t => if m < t then some m else some t
def stepsSum (ds : List Int) (l : List (Int × Str)) : Int := ((l.filter fun s => decide (s.2 = ("found" : Str))).map fun s => ds.getD s.1.toNat 0).sum
def wayMany (ds gs : List Int) (w : Way) : Int := ((w.noted.filter fun p => !gs.contains p).length : Int) + stepsSum ds w.steps
def nnStep (ds gs : List Int) (s : Option Int × Option Int) (w : Way) : Option Int × Option Int :=
  (least1 s.1 (wayMany ds gs w), if w.whole = "found" then least1 s.2 (wayMany ds gs w) else s.2)
def nnEnd (s : Option Int × Option Int) : Int × Int := match s.1, s.2 with
  | some t, none => (t, t + 1)
  | some t, some f => (t, if t + 1 < f then t + 1 else f)
  | none, _ => (0, 0)
def nodeNeed (ds gs : List Int) (ws : List Way) : Int × Int := nnEnd (ws.foldl (nnStep ds gs) (none, none))
structure WayOk (n : Nat) (w : Way) : Prop where
  st : ∀ s ∈ w.steps, 0 ≤ s.1 ∧ s.1 < n
  ln : w.noted.length ≤ 1000
def spNode (K : PySem.W.Frag) : Sp := fun vs H Q _ => ∃ (a b c : Addr) (ws : List Way) (ds gs : List Int), vs = [.ref a, .ref b, .ref c] ∧ Dp K H (.ref a) (.tuple (ws.map Way.d)) ∧ SqL K H b (ds.map V.int) ∧ SqL K H c (gs.map V.int) ∧
  (∀ w ∈ ws, WayOk ds.length w) ∧ ws ≠ [] ∧ ∀ (p : Addr) (H' : Hp), Same H H' → H' p = some (.tup [.int (nodeNeed ds gs ws).1, .int (nodeNeed ds gs ws).2]) → Q (.ref p) H'
structure TxtN (K : PySem.W.Frag) (mg : Str → Option Value) : Prop extends Txt K mg where
  c_FOUND : ∃ u, mg "FOUND" = some u ∧ RelV (.str "found") u
def outOf (gs : List Int) (v : V) : Option V := match v with
  | .int p => if gs.contains p = true then none else some (.int p)
  | _ => none
theorem outOf_t {gs : List Int} {q : Int} (e : gs.contains q = true) : outOf gs (.int q) = none := if_pos e
theorem outOf_f {gs : List Int} {q : Int} (e : gs.contains q = false) : outOf gs (.int q) = some (.int q) := if_neg (by rw [e]; exact Bool.false_ne_true)
theorem outOf_len (gs : List Int) : ∀ (l : List Int), ((l.map V.int).filterMap (outOf gs)).length = (l.filter fun p => !gs.contains p).length
  | [] => rfl
  | q :: l => by
    rw [List.map_cons, List.filterMap_cons, List.filter_cons]
    cases e : gs.contains q with
    | true => rw [outOf_t e]; exact outOf_len gs l
    | false => rw [outOf_f e]; exact congrArg (· + 1) (outOf_len gs l)
theorem nn_some (ds gs : List Int) : ∀ {ws : List Way} {s : Option Int × Option Int}, ws ≠ [] → ∃ t, (ws.foldl (nnStep ds gs) s).1 = some t
  | [], _, h => (h rfl).elim
  | [w], s, _ => by
    show ∃ t, least1 s.1 _ = some t
    cases s.1 with
    | none => exact ⟨_, rfl⟩
    | some o =>
      show ∃ t, (if _ < o then some _ else some o) = some t
      by_cases c : wayMany ds gs w < o
      · exact ⟨_, if_pos c⟩
      · exact ⟨_, if_neg c⟩
  | w :: v :: ws, s, _ => nn_some ds gs (ws := v :: ws) (s := nnStep ds gs s w) (by simp)
theorem way_inv {K : PySem.W.Frag} {H : Hp} {v : V} {w : Way} (h : Dp K H v w.d) : ∃ p s n sx, v = .ref p ∧ SqT K H p [.str w.whole, .ref s, .ref n] ∧ SqT K H s sx ∧ DpAll K H sx (w.steps.map stepD) ∧ SqT K H n (w.noted.map V.int) := by
  obtain ⟨p, xs, rfl, hp, hx⟩ := h.tup_inv
  cases hx with
  | cons h1 hx => cases hx with
    | cons h2 hx => cases hx with
      | cons h3 hx =>
        cases hx
        cases h1
        obtain ⟨s, sx, rfl, hs, hsx⟩ := h2.tup_inv
        obtain ⟨n, nx, rfl, hn, hnx⟩ := h3.tup_inv
        rw [hnx.ints_inv] at hn
        exact ⟨p, s, n, sx, rfl, hp, hs, hsx, hn⟩
variable {P : Program} {w : World} {K : PySem.W.Frag} {mg : Str → Option Value} {base : Heap}
abbrev s_node_need : Stmt := top 2
abbrev N_node_need : List Str := ["ways", "differences", "given", "told", "found", "whole", "steps", "noted", "many", "place", "mode"]
abbrev P_node_need : List Str := ["ways", "differences", "given"]
theorem sc_node_need : FnScope N_node_need P_node_need (defScope s_node_need) := ⟨rfl, rfl, rfl, by decide +kernel, rfl, by decide +kernel, by decide +kernel⟩
theorem ok_node_need (F : Fz K mg "node_need" s_node_need P_node_need) (T : TxtN K mg) : Fx P w K mg base CX0 "node_need" 1 P_node_need (spNode K) := by
  refine F.ok sc_node_need (fun vs H Q E h => ?_) (fun f cdv A outer s H vs Q E hr h => ?_)
  · obtain ⟨a, b, c, ws, ds, gs, rfl, _⟩ := h
    rfl
  · obtain ⟨a, b, c, ws, ds, gs, rfl, ha, hb, hc, hok, hne, k⟩ := h
    refine ⟨_, (pss_cons (ps_set (i := 3) sc_node_need.nd rfl (Or.inl rfl) pe_non)
      (pss_cons (ps_set (i := 4) sc_node_need.nd rfl (Or.inl rfl) pe_non)
      (pss_cons (ps_for PassesOwn.never rfl (pi_tupK K (pv 0)) (pg_tup rfl (pgs_cons (pg_name (i := 5) sc_node_need.nd rfl (Or.inl rfl)) (pgs_cons (pg_name (i := 6) sc_node_need.nd rfl (Or.inl rfl)) (pgs_cons (pg_name (i := 7) sc_node_need.nd rfl (Or.inl rfl)) pgs_nil)))) (pss_cons (ps_set (i := 8) sc_node_need.nd rfl (Or.inl rfl) (pe_callB (call_len_seqK K) (by rfl) T.b_len PySem.boot_len (pa_cons (pe_lc (own := [("place", 9)]) (g := (gName 9))  rfl sc_node_need.nd (pi_tupK K (pv 7)) (blkOk_by (own := [("place", 9)]) (N := N_node_need) (sc := defScope s_node_need) (by decide +kernel)) (fun _ _ _ _ _ => (pg_name (i := 9) sc_node_need.nd rfl (Or.inl rfl))) (fun _ _ _ _ _ => (pts_one (pt_cmpR (op_notIn_seqK K) (pv 9) (pv 2) (by rfl)))) (fun _ _ _ _ _ => (pv 9))) pa_nil)))
      (pss_cons (ps_for PassesOwn.never rfl (pi_tupK K (pv 6)) (pg_tup rfl (pgs_cons (pg_name (i := 9) sc_node_need.nd rfl (Or.inl rfl)) (pgs_cons (pg_name (i := 10) sc_node_need.nd rfl (Or.inl rfl)) pgs_nil))) (pss_one (ps_if (pt_cmpR op_eq (pv 10) (pglob rfl T.c_FOUND) (nomark _)) (pss_one (ps_set (i := 8) sc_node_need.nd rfl (Or.inl rfl) (pe_op op_add (pv 8) (pe_ix (ix_listK K) (pv 1) (pv 9) (fun _ _ => rfl))))) pss_nil)))
      (pss_cons (ps_if (PW.pt (pw_or (pt_cmpR op_isN (pv 3) pe_non (nomark _)) (pw_or1 (pt_cmpR op_lt (pv 8) (pv 3) (nomark _))))) (pss_one (ps_set (i := 3) sc_node_need.nd rfl (Or.inl rfl) (pv 8))) pss_nil)
      (pss_one (ps_if (PW.pt (pw_and (pt_cmpR op_eq (pv 5) (pglob rfl T.c_FOUND) (nomark _)) (pw_and1 (PW.pt (pw_or (pt_cmpR op_isN (pv 4) pe_non (nomark _)) (pw_or1 (pt_cmpR op_lt (pv 8) (pv 4) (nomark _)))))))) (pss_one (ps_set (i := 4) sc_node_need.nd rfl (Or.inl rfl) (pv 8))) pss_nil))))))
      (pss_cons (ps_if (PW.pt (pw_or (pt_cmpR op_isN (pv 4) pe_non (nomark _)) (pw_or1 (pt_cmpR op_lt (pe_op op_add (pv 3) pe_int) (pv 4) (nomark _))))) (pss_one (ps_set (i := 4) sc_node_need.nd rfl (Or.inl rfl) (pe_op op_add (pv 3) pe_int))) pss_nil)
      (pss_one (ps_ret (pe_tup (pa_cons (pv 3) (pa_cons (pv 4) pa_nil))))))))), ?_⟩
    obtain ⟨a', xs, e, hT, hxs⟩ := ha.tup_inv
    cases e
    refine ⟨_, rfl, a, rfl, ⟨_, hT⟩, ?_⟩
    have stp : ∀ (i : Nat) (y : Way), ws[i]? = some y → (ws.take (i + 1)).foldl (nnStep ds gs) (none, none) = nnStep ds gs ((ws.take i).foldl (nnStep ds gs) (none, none)) y := fun i y hy => by
      obtain ⟨hi, e⟩ := List.getElem?_eq_some_iff.mp hy
      rw [List.take_succ_eq_append_getElem hi, List.foldl_append, e]; rfl
    refine for_tup (xs := xs) (fun i σ H2 => ∃ v5 v6 v7 v8 v9 v10, σ = [some (.ref a), some (.ref b), some (.ref c), some (oV ((ws.take i).foldl (nnStep ds gs) (none, none)).1), some (oV ((ws.take i).foldl (nnStep ds gs) (none, none)).2), v5, v6, v7, v8, v9, v10] ∧ Same H H2) ?_ ?_ ?_ ?_
    · exact ⟨_, _, _, _, _, _, rfl, Same.refl H⟩
    · rintro i σ H2 _ ⟨_, _, _, _, _, _, _, sm⟩
      exact SqT.same sm hT
    · rintro i x σ H2 hx ⟨v5, v6, v7, v8, v9, v10, rfl, sm⟩
      obtain ⟨d, hd, hxd⟩ := hxs.get hx
      rw [List.getElem?_map] at hd
      obtain ⟨y, hy, rfl⟩ := Option.map_eq_some_iff.mp hd
      have yok := hok y (List.mem_of_getElem? hy)
      rw [stp i y hy]
      obtain ⟨p, s1, n1, sx, rfl, hp, hs1, hsx, hn1⟩ := way_inv (Dp.same sm _ hxd)
      refine ⟨p, _, rfl, hp, rfl, _, _, rfl, _, _, rfl, _, _, rfl, rfl, ?_⟩
      refine ⟨_, rfl, n1, rfl, ⟨_, hn1⟩, fun D hD => ?_⟩
      refine lc_pureT (outOf gs) hD hn1 (small1000 (by rw [List.length_map]; exact yok.ln)) ?_ ?_
      · intro j z H3 R1 R hz sm3 h1 h2
        rw [List.getElem?_map] at hz
        obtain ⟨q, hq, rfl⟩ := Option.map_eq_some_iff.mp hz
        refine ⟨rfl, _, rfl, _, rfl, c, _, rfl, .inl (Same.seq sm3 (Same.seq sm hc)), rfl, flat_ints gs, _, rfl, ?_⟩
        rw [inV_ints]
        simp only [if_true]
        cases e : gs.contains q with
        | true => exact iteF (h1 (outOf_t e))
        | false => exact iteT ⟨_, rfl, h2 _ (outOf_f e)⟩
      · refine ⟨D, _, rfl, .inl (SqL.of upd_same), ?_⟩
        have sm1 : Same H (upd H2 D (.lst ((y.noted.map V.int).filterMap (outOf gs)))) := fun b u e => by rw [upd_ne (ne_of_none (sm _ _ e) hD)]; exact sm _ _ e
        rw [outOf_len]
        generalize hH3 : upd H2 D _ = H3 at sm1 ⊢
        have sm23 : Same H2 H3 := fun b u e => by rw [← hH3, upd_ne (ne_of_none e hD)]; exact e
        refine ⟨_, rfl, s1, rfl, ⟨_, SqT.same sm23 hs1⟩, ?_⟩
        refine for_tup (xs := sx) (fun j σ H4 => ∃ v9 v10, σ = [some (.ref a), some (.ref b), some (.ref c), some (oV ((ws.take i).foldl (nnStep ds gs) (none, none)).1), some (oV ((ws.take i).foldl (nnStep ds gs) (none, none)).2), some (.str y.whole), some (.ref s1), some (.ref n1), some (.int (((y.noted.filter fun p => !gs.contains p).length : Int) + stepsSum ds (y.steps.take j))), v9, v10] ∧ Same H3 H4) ?_ ?_ ?_ ?_
        · refine ⟨v9, v10, ?_, Same.refl _⟩
          rw [show stepsSum ds (y.steps.take 0) = 0 from rfl, Int.add_zero]
          rfl
        · rintro j σ H4 _ ⟨_, _, _, sm4⟩
          exact SqT.same sm4 (SqT.same sm23 hs1)
        · rintro j z σ H4 hz ⟨v9, v10, rfl, sm4⟩
          obtain ⟨d, hd, hzd⟩ := hsx.get hz
          rw [List.getElem?_map] at hd
          obtain ⟨q, hq, rfl⟩ := Option.map_eq_some_iff.mp hd
          have hq' := yok.st q (List.mem_of_getElem? hq)
          obtain ⟨pz, zx, rfl, hpz, hzx⟩ := (Dp.same sm4 _ (Dp.same sm23 _ hzd)).tup_inv
          cases hzx with
          | cons g1 hzx => cases hzx with
            | cons g2 hzx =>
              cases hzx; cases g1; cases g2
              have st2 : stepsSum ds (y.steps.take (j + 1)) = stepsSum ds (y.steps.take j) + (if q.2 = "found" then ds.getD q.1.toNat 0 else 0) := by
                obtain ⟨hi, e⟩ := List.getElem?_eq_some_iff.mp hq
                unfold stepsSum
                rw [List.take_succ_eq_append_getElem hi, e, List.filter_append, List.map_append, List.sum_append]
                congr 1
                by_cases c : q.2 = "found" <;> simp [c]
              refine ⟨pz, _, rfl, hpz, rfl, _, _, rfl, _, _, rfl, rfl, _, rfl, rfl, _, rfl, ?_⟩
              refine ite2 (fun cc => ?_) (fun cc => ?_)
              · have cc : q.2 = "found" := by simpa using cc
                have hlt : q.1.toNat < ds.length := by omega
                refine ⟨_, rfl, _, rfl, _, rfl, b, _, q.1, V.int ds[q.1.toNat], rfl, rfl, Same.seq sm4 (Same.seq sm23 (Same.seq sm hb)), at_of (j := q.1.toNat) (by omega) (by simp [hlt]), _, _, rfl, rfl, ?_⟩
                refine ⟨some (.int q.1), some (.str q.2), ?_, sm4⟩
                rw [st2, if_pos cc, ← Int.add_assoc, List.getD_eq_getElem?_getD, List.getElem?_eq_getElem hlt]
                rfl
              · have cc : ¬ q.2 = "found" := by simpa using cc
                refine ⟨some (.int q.1), some (.str q.2), ?_, sm4⟩
                rw [st2, if_neg cc, Int.add_zero]
                rfl
        · rintro σ H4 ⟨v9, v10, rfl, sm4⟩
          have sm5 : Same H H4 := Same.trans sm1 sm4
          have elen : (y.steps.take sx.length) = y.steps := by
            have := hsx.len
            rw [List.length_map] at this
            rw [this, List.take_length]
          rw [elen]
          show tSeq _ _ _ [_, _, _, _, _, _, _, _, some (V.int (wayMany ds gs y)), _, _] _
          obtain ⟨o1, o2⟩ := ((ws.take i).foldl (nnStep ds gs) (none, none))
          generalize hm : wayMany ds gs y = m
          have fin : ∀ (v8' v9' v10' : Option V), ∃ v5 v6 v7 v8 v9 v10, [some (V.ref a), some (V.ref b), some (V.ref c), some (oV (least1 o1 m)), some (oV (if y.whole = "found" then least1 o2 m else o2)), some (V.str y.whole), some (V.ref s1), some (V.ref n1), v8', v9', v10'] = [some (V.ref a), some (.ref b), some (.ref c), some (oV (nnStep ds gs (o1, o2) y).1), some (oV (nnStep ds gs (o1, o2) y).2), v5, v6, v7, v8, v9, v10] ∧ Same H H4 := fun _ _ _ => ⟨_, _, _, _, _, _, by rw [nnStep, hm], sm5⟩
          have two : ∀ (D : Ends) (h : D.nx = fun σ H2 => ∃ v5 v6 v7 v8 v9 v10, σ = [some (V.ref a), some (.ref b), some (.ref c), some (oV (nnStep ds gs (o1, o2) y).1), some (oV (nnStep ds gs (o1, o2) y).2), v5, v6, v7, v8, v9, v10] ∧ Same H H2),
              tIfS (tAnd (tTest (tOp rEq (tVar 5) (tC (V.str "found")))) (tOr (tTest (tOp (fun x y H Q => y = V.non ∧ Q (V.bl (decide (x = V.non))) H) (tVar 4) (tC V.non))) (tTest (tOp (rI0 fun i j => V.bl (decide (i < j))) (tVar 8) (tVar 4))))) (tAsg (tVar 8) (gName 4)) tNext D
                [some (V.ref a), some (V.ref b), some (V.ref c), some (oV (least1 o1 m)), some (oV o2), some (V.str y.whole), some (V.ref s1), some (V.ref n1), some (V.int m), v9, v10] H4 := fun D hD => by
            refine ⟨_, rfl, rfl, _, rfl, ?_⟩
            refine ite2 (fun c1 => ?_) (fun c1 => ?_)
            · have c1 : y.whole = "found" := by simpa using c1
              rw [if_pos c1] at fin
              cases o2 with
              | none =>
                refine ⟨_, rfl, rfl, _, rfl, iteT (iteT ⟨_, rfl, ?_⟩)⟩
                rw [hD]; exact fin _ _ _
              | some o =>
                refine ⟨_, rfl, rfl, _, rfl, iteF ⟨_, rfl, _, rfl, _, _, rfl, rfl, _, rfl, ?_⟩⟩
                refine ite2 (fun c2 => ?_) (fun c2 => ?_)
                · refine ⟨_, rfl, ?_⟩
                  rw [hD]
                  have c2 := of_decide_eq_true c2
                  rw [least1, if_pos c2] at fin
                  exact fin _ _ _
                · show D.nx _ _
                  rw [hD]
                  have c2 : ¬ m < o := fun z => c2 (decide_eq_true z)
                  rw [least1, if_neg c2] at fin
                  exact fin _ _ _
            · have c1 : ¬ y.whole = "found" := by simpa using c1
              rw [if_neg c1] at fin
              show (if false = true then _ else D.nx _ _)
              refine iteF ?_
              rw [hD]; exact fin _ _ _
          cases o1 with
          | none => exact ⟨_, rfl, rfl, _, rfl, iteT (iteT ⟨_, rfl, two _ rfl⟩)⟩
          | some o =>
            refine ⟨_, rfl, rfl, _, rfl, iteF ⟨_, rfl, _, rfl, _, _, rfl, rfl, _, rfl, ?_⟩⟩
            refine ite2 (fun c2 => ?_) (fun c2 => ?_)
            · have c2 := of_decide_eq_true c2
              rw [least1, if_pos c2] at two
              exact ⟨_, rfl, two _ rfl⟩
            · have c2 : ¬ m < o := fun z => c2 (decide_eq_true z)
              rw [least1, if_neg c2] at two
              exact two _ rfl
    · rintro σ H2 ⟨v5, v6, v7, v8, v9, v10, rfl, sm⟩
      have el : ws.take xs.length = ws := by
        have := hxs.len
        rw [List.length_map] at this
        rw [this, List.take_length]
      rw [el]
      obtain ⟨t, et⟩ := nn_some ds gs (s := (none, none)) hne
      have en : nodeNeed ds gs ws = nnEnd (ws.foldl (nnStep ds gs) (none, none)) := rfl
      generalize (ws.foldl (nnStep ds gs) (none, none)) = st at et en ⊢
      obtain ⟨o1, o2⟩ := st
      cases et
      have fin : ∀ (f : Int), nnEnd (some t, o2) = (t, f) → ∀ p, H2 p = none → Q (.ref p) (upd H2 p (.tup [.int t, .int f])) := fun f e p hp => by
        refine k p _ (fun b u q => by rw [upd_ne (ne_of_none (sm _ _ q) hp)]; exact sm _ _ q) ?_
        rw [en, e]; exact upd_same
      cases o2 with
      | none => exact ⟨_, rfl, rfl, _, rfl, iteT (iteT ⟨_, rfl, _, _, rfl, rfl, _, rfl, _, rfl, (by show 2 ≤ sizeLine; decide), fin _ rfl⟩)⟩
      | some o =>
        refine ⟨_, rfl, rfl, _, rfl, iteF ⟨_, rfl, _, _, rfl, rfl, _, rfl, _, _, rfl, rfl, _, rfl, ?_⟩⟩
        refine ite2 (fun c2 => ?_) (fun c2 => ?_)
        · have c2 := of_decide_eq_true c2
          exact ⟨_, rfl, _, _, rfl, rfl, _, rfl, _, rfl, (by show 2 ≤ sizeLine; decide), fin _ (by show (t, if t + 1 < o then t + 1 else o) = _; rw [if_pos c2])⟩
        · have c2 : ¬ t + 1 < o := fun z => c2 (decide_eq_true z)
          exact ⟨_, rfl, _, rfl, (by show 2 ≤ sizeLine; decide), fin _ (by show (t, if t + 1 < o then t + 1 else o) = _; rw [if_neg c2])⟩
abbrev s_own_need : Stmt := top 3
abbrev N_own_need : List Str := ["ways", "differences"]
abbrev P_own_need : List Str := ["ways", "differences"]
theorem sc_own_need : FnScope N_own_need P_own_need (defScope s_own_need) := ⟨rfl, rfl, rfl, by decide +kernel, rfl, by decide +kernel, by decide +kernel⟩
def spOwn (K : PySem.W.Frag) : Sp := fun vs H Q _ => ∃ (a b : Addr) (ws : List Way) (ds : List Int), vs = [.ref a, .ref b] ∧ Dp K H (.ref a) (.tuple (ws.map Way.d)) ∧ SqL K H b (ds.map V.int) ∧
  (∀ w ∈ ws, WayOk ds.length w) ∧ ws ≠ [] ∧ ∀ (p : Addr) (H' : Hp), Same H H' → H' p = some (.tup [.int (nodeNeed ds [] ws).1, .int (nodeNeed ds [] ws).2]) → Q (.ref p) H'
theorem ok_own_need (F : Fz K mg "own_need" s_own_need P_own_need) (T : TxtN K mg) (G_node_need : Fx P w K mg base CX0 "node_need" 1 P_node_need (spNode K)) : Fx P w K mg base CX0 "own_need" 2 P_own_need (spOwn K) := by
  refine F.ok sc_own_need (fun vs H Q E h => ?_) (fun f cdv A outer s H vs Q E hr h => ?_)
  · obtain ⟨a, b, ws, ds, rfl, _⟩ := h
    rfl
  · obtain ⟨a, b, ws, ds, rfl, ha, hb, hok, hne, k⟩ := h
    refine ⟨_, (pss_one (ps_ret (fcall G_node_need (hr.mono (by decide)) (by rfl) (pa_cons (pv 0) (pa_cons (pv 1) (pa_cons (pe_lst pa_nil) pa_nil)))))), ?_⟩
    refine ⟨_, rfl, _, rfl, (by show 0 ≤ sizeLine; decide), fun l hl => ?_⟩
    have sm : Same H (upd H l (.lst [])) := fun c u e => by rw [upd_ne (ne_of_none e hl)]; exact e
    exact ⟨a, b, l, ws, ds, [], rfl, Dp.same sm _ ha, Same.seq sm hb, SqL.of upd_same, hok, hne, fun p H' sm' hp => k p H' (Same.trans sm sm') hp⟩
end Kn

set_option Elab.async false
set_option maxRecDepth 100000
set_option linter.all false
namespace Kn
open PySem L2
local macro_rules | `(tactic| walk_at "wk") => `(tactic| repeat (first
  | refine ⟨_, rfl, ?_⟩
  | refine ⟨_, _, rfl, rfl, ?_⟩
  | refine ⟨⟨by decide, by decide⟩, ?_⟩
  | refine ⟨(by show (0 : Int) < _; decide), ?_⟩
  | refine ⟨Or.inl ⟨by omega, by omega⟩, ?_⟩
  | refine Or.inl ⟨_, rfl, ?_⟩
  | fail))
def adStep (ds gs : List Int) (s : Int × Int) (w : Way) : Int × Int :=
  (if wayMany ds gs w < s.1 then wayMany ds gs w else s.1, if w.whole = "found" then (if wayMany ds gs w < s.2 then wayMany ds gs w else s.2) else s.2)
def adds (ds gs : List Int) (ws : List Way) : Int × Int :=
  let s := ws.foldl (adStep ds gs) (99, 99)
  (s.1, if s.1 + 1 < s.2 then s.1 + 1 else s.2)
def spAdds (K : PySem.W.Frag) : Sp := fun vs H Q _ => ∃ (a b c : Addr) (ws : List Way) (ds gs : List Int), vs = [.ref a, .ref b, .ref c] ∧ Dp K H (.ref a) (.tuple (ws.map Way.d)) ∧ SqL K H b (ds.map V.int) ∧ SqL K H c (gs.map V.int) ∧
  (∀ w ∈ ws, WayOk ds.length w ∧ w.steps.length ≤ 1000) ∧ ∀ (p : Addr) (H' : Hp), Same H H' → H' p = some (.tup [.int (adds ds gs ws).1, .int (adds ds gs ws).2]) → Q (.ref p) H'
structure TxtC (K : PySem.W.Frag) (mg : Str → Option Value) : Prop extends TxtN K mg where
  b_min : mg "min" = none
  b_sum : mg "sum" = none
  b_tuple : mg "tuple" = none
  b_list : mg "list" = none
  b_isinstance : mg "isinstance" = none
  b_bool : mg "bool" = none
variable {P : Program} {w : World} {K : PySem.W.Frag} {mg : Str → Option Value} {base : Heap}
abbrev s__law_adds : Stmt := top 8
abbrev N__law_adds : List Str := ["_law_ways", "_law_differences", "_law_given", "_law_low", "_law_high", "_law_chosen", "_law_many", "_law_place", "_law_step"]
abbrev P__law_adds : List Str := ["_law_ways", "_law_differences", "_law_given"]
theorem sc__law_adds : FnScope N__law_adds P__law_adds (defScope s__law_adds) := ⟨rfl, rfl, rfl, by decide +kernel, rfl, by decide +kernel, by decide +kernel⟩
theorem ok__law_adds (F : Fz K mg "_law_adds" s__law_adds P__law_adds) (T : TxtC K mg) : Fx P w K mg base CX0 "_law_adds" 1 P__law_adds (spAdds K) := by
  refine F.ok sc__law_adds (fun vs H Q E h => ?_) (fun f cdv A outer s H vs Q E hr h => ?_)
  · obtain ⟨a, b, c, ws, ds, gs, rfl, _⟩ := h
    rfl
  · obtain ⟨a, b, c, ws, ds, gs, rfl, ha, hb, hc, hok, k⟩ := h
    refine ⟨_, (pss_cons (ps_set (i := 3) sc__law_adds.nd rfl (Or.inl rfl) pe_int)
      (pss_cons (ps_set (i := 4) sc__law_adds.nd rfl (Or.inl rfl) pe_int)
      (pss_cons (ps_for PassesOwn.never rfl (pi_tupK K (pv 0)) (pg_name (i := 5) sc__law_adds.nd rfl (Or.inl rfl)) (pss_cons (ps_set (i := 6) sc__law_adds.nd rfl (Or.inl rfl) (pe_callB (call_len_seqK K) (by rfl) T.b_len PySem.boot_len (pa_cons (pe_lc (own := [("_law_place", 7)]) (g := (gName 7))  rfl sc__law_adds.nd (pi_tupK K (pe_ix (ix_tupK K) (pv 5) pe_int (fun _ _ => rfl))) (blkOk_by (own := [("_law_place", 7)]) (N := N__law_adds) (sc := defScope s__law_adds) (by decide +kernel)) (fun _ _ _ _ _ => (pg_name (i := 7) sc__law_adds.nd rfl (Or.inl rfl))) (fun _ _ _ _ _ => (pts_one (pt_cmpR (op_notIn_seqK K) (pv 7) (pv 2) (by rfl)))) (fun _ _ _ _ _ => (pv 7))) pa_nil)))
      (pss_cons (ps_set (i := 6) sc__law_adds.nd rfl (Or.inl rfl) (pe_op op_add (pv 6) (pe_callB (cr_sumK K rfl) (by rfl) T.b_sum (by decide +kernel) (pa_cons (pe_lc (own := [("_law_step", 8)]) (g := (gName 8))  rfl sc__law_adds.nd (pi_tupK K (pe_ix (ix_tupK K) (pv 5) pe_int (fun _ _ => rfl))) (blkOk_by (own := [("_law_step", 8)]) (N := N__law_adds) (sc := defScope s__law_adds) (by decide +kernel)) (fun _ _ _ _ _ => (pg_name (i := 8) sc__law_adds.nd rfl (Or.inl rfl))) (fun _ _ _ _ _ => (pts_one (pt_cmpR op_eq (pe_ix (ix_tupK K) (pv 8) pe_int (fun _ _ => rfl)) pe_str (nomark _)))) (fun _ _ _ _ _ => (pe_ix (ix_listK K) (pv 1) (pe_ix (ix_tupK K) (pv 8) pe_int (fun _ _ => rfl)) (fun _ _ => rfl)))) pa_nil))))
      (pss_cons (ps_set (i := 3) sc__law_adds.nd rfl (Or.inl rfl) (pe_callB (call_min2 rfl) (by rfl) T.b_min (by decide +kernel) (pa_cons (pv 3) (pa_cons (pe_callTy call_int1 (by rfl) T.b_int (by decide +kernel) (pa_cons (pv 6) pa_nil)) pa_nil))))
      (pss_one (ps_if (pt_cmpR op_eq (pe_ix (ix_tupK K) (pv 5) pe_int (fun _ _ => rfl)) pe_str (nomark _)) (pss_one (ps_set (i := 4) sc__law_adds.nd rfl (Or.inl rfl) (pe_callB (call_min2 rfl) (by rfl) T.b_min (by decide +kernel) (pa_cons (pv 4) (pa_cons (pe_callTy call_int1 (by rfl) T.b_int (by decide +kernel) (pa_cons (pv 6) pa_nil)) pa_nil))))) pss_nil))))))
      (pss_one (ps_ret (pe_tup (pa_cons (pv 3) (pa_cons (pe_callB (call_min2 rfl) (by rfl) T.b_min (by decide +kernel) (pa_cons (pv 4) (pa_cons (pe_callTy call_int1 (by rfl) T.b_int (by decide +kernel) (pa_cons (pe_op op_add (pv 3) pe_int) pa_nil)) pa_nil))) pa_nil)))))))), ?_⟩
    obtain ⟨a', xs, e, hT, hxs⟩ := ha.tup_inv
    cases e
    refine ⟨_, rfl, a, rfl, ⟨_, hT⟩, ?_⟩
    have stp : ∀ (i : Nat) (y : Way), ws[i]? = some y → (ws.take (i + 1)).foldl (adStep ds gs) (99, 99) = adStep ds gs ((ws.take i).foldl (adStep ds gs) (99, 99)) y := fun i y hy => by
      obtain ⟨hi, e⟩ := List.getElem?_eq_some_iff.mp hy
      rw [List.take_succ_eq_append_getElem hi, List.foldl_append, e]; rfl
    refine for_tup (xs := xs) (fun i σ H2 => ∃ v5 v6 v7 v8, σ = [some (.ref a), some (.ref b), some (.ref c), some (.int ((ws.take i).foldl (adStep ds gs) (99, 99)).1), some (.int ((ws.take i).foldl (adStep ds gs) (99, 99)).2), v5, v6, v7, v8] ∧ Same H H2) ?_ ?_ ?_ ?_
    · exact ⟨_, _, _, _, rfl, Same.refl H⟩
    · rintro i σ H2 _ ⟨_, _, _, _, _, sm⟩
      exact SqT.same sm hT
    · rintro i x σ H2 hx ⟨v5, v6, v7, v8, rfl, sm⟩
      obtain ⟨d, hd, hxd⟩ := hxs.get hx
      rw [List.getElem?_map] at hd
      obtain ⟨y, hy, rfl⟩ := Option.map_eq_some_iff.mp hd
      obtain ⟨yok, yln⟩ := hok y (List.mem_of_getElem? hy)
      rw [stp i y hy]
      obtain ⟨p, s1, n1, sx, rfl, hp, hs1, hsx, hn1⟩ := way_inv (Dp.same sm _ hxd)
      refine ⟨_, rfl, p, _, 2, _, rfl, rfl, hp, at_of (j := 2) rfl rfl, n1, rfl, ⟨_, hn1⟩, fun D hD => ?_⟩
      refine lc_pureT (outOf gs) hD hn1 (small1000 (by rw [List.length_map]; exact yok.ln)) ?_ ?_
      · intro j z H3 R1 R hz sm3 h1 h2
        rw [List.getElem?_map] at hz
        obtain ⟨q, hq, rfl⟩ := Option.map_eq_some_iff.mp hz
        refine ⟨rfl, _, rfl, _, rfl, c, _, rfl, .inl (Same.seq sm3 (Same.seq sm hc)), rfl, flat_ints gs, _, rfl, ?_⟩
        rw [inV_ints]
        simp only [if_true]
        cases e : gs.contains q with
        | true => exact iteF (h1 (outOf_t e))
        | false => exact iteT ⟨_, rfl, h2 _ (outOf_f e)⟩
      · refine ⟨D, _, rfl, .inl (SqL.of upd_same), ?_⟩
        rw [outOf_len]
        generalize hH3 : upd H2 D _ = H3
        have sm23 : Same H2 H3 := fun b u e => by rw [← hH3, upd_ne (ne_of_none e hD)]; exact e
        refine ⟨_, rfl, _, rfl, p, _, 1, _, rfl, rfl, SqT.same sm23 hp, at_of (j := 1) rfl rfl, s1, rfl, ⟨_, SqT.same sm23 hs1⟩, fun D2 hD2 => ?_⟩
        refine lc_accT (fun j => ((y.steps.take j).filter fun s => decide (s.2 = ("found" : Str))).map fun s => V.int (ds.getD s.1.toNat 0)) hD2 (SqT.same sm23 hs1) rfl ?_ ?_ ?_
        · intro j hj
          rw [List.length_map]
          refine small1000 (Nat.le_trans (List.length_filter_le _ _) ?_)
          rw [List.length_take]; omega
        · intro j z H4 R1 R hz sm4 h1 h2
          obtain ⟨d, hd, hzd⟩ := hsx.get hz
          rw [List.getElem?_map] at hd
          obtain ⟨q, hq, rfl⟩ := Option.map_eq_some_iff.mp hd
          have hq' := yok.st q (List.mem_of_getElem? hq)
          obtain ⟨hi, e⟩ := List.getElem?_eq_some_iff.mp hq
          rw [List.take_succ_eq_append_getElem hi, e, List.filter_append, List.map_append] at h1 h2
          obtain ⟨pz, zx, rfl, hpz, hzx⟩ := (Dp.same sm4 _ (Dp.same sm23 _ hzd)).tup_inv
          cases hzx with
          | cons g1 hzx => cases hzx with
            | cons g2 hzx =>
              cases hzx; cases g1; cases g2
              refine ⟨rfl, _, rfl, pz, _, 1, _, rfl, rfl, hpz, at_of (j := 1) rfl rfl, rfl, _, rfl, ?_⟩
              refine ite2 (fun cc => ?_) (fun cc => ?_)
              · have cc : q.2 = "found" := by simpa using cc
                have hlt : q.1.toNat < ds.length := by omega
                refine ⟨_, rfl, _, rfl, pz, _, 0, _, rfl, rfl, hpz, at_of (j := 0) rfl rfl, b, _, q.1, V.int ds[q.1.toNat], rfl, rfl, Same.seq sm4 (Same.seq sm23 (Same.seq sm hb)), at_of (j := q.1.toNat) (by omega) (by simp [hlt]), h2 _ ?_⟩
                rw [List.filter_cons, if_pos (decide_eq_true cc)]
                show _ ++ [V.int (ds.getD q.1.toNat 0)] = _
                rw [List.getD_eq_getElem?_getD, List.getElem?_eq_getElem hlt]
                rfl
              · have cc : ¬ q.2 = "found" := by simpa using cc
                refine h1 ?_
                rw [List.filter_cons, if_neg (fun z => cc (of_decide_eq_true z))]
                simp
        · have elen : (y.steps.take sx.length) = y.steps := by
            have := hsx.len
            rw [List.length_map] at this
            rw [this, List.take_length]
          rw [elen]
          have eacc : ((y.steps.filter fun s => decide (s.2 = ("found" : Str))).map fun s => V.int (ds.getD s.1.toNat 0)) = ((y.steps.filter fun s => decide (s.2 = ("found" : Str))).map fun s => ds.getD s.1.toNat 0).map V.int := by rw [List.map_map]; rfl
          rw [eacc]
          refine ⟨D2, _, rfl, SqL.of upd_same, ?_⟩
          generalize hH4 : upd H3 D2 _ = H4
          have sm34 : Same H3 H4 := fun b u e => by rw [← hH4, upd_ne (ne_of_none e hD2)]; exact e
          have sm5 : Same H H4 := Same.trans sm (Same.trans sm23 sm34)
          have hp4 := SqT.same sm34 (SqT.same sm23 hp)
          refine ⟨_, _, rfl, rfl, ?_⟩
          show tSeq _ _ _ [_, _, _, _, _, _, some (V.int (wayMany ds gs y)), _, _] _
          obtain ⟨o1, o2⟩ := ((ws.take i).foldl (adStep ds gs) (99, 99))
          generalize hm : wayMany ds gs y = m
          refine ⟨_, rfl, _, rfl, .inl ⟨m, rfl, o1, m, rfl, ?_⟩⟩
          refine ⟨_, rfl, p, _, 0, _, rfl, rfl, hp4, at_of (j := 0) rfl rfl, rfl, _, rfl, ?_⟩
          refine ite2 (fun cc => ?_) (fun cc => ?_)
          · have cc : y.whole = "found" := by simpa using cc
            refine ⟨_, rfl, _, rfl, .inl ⟨m, rfl, o2, m, rfl, ?_⟩⟩
            refine ⟨some (.ref p), some (.int m), v7, v8, ?_, sm5⟩
            simp only [adStep, hm, if_pos cc]
            rfl
          · have cc : ¬ y.whole = "found" := by simpa using cc
            refine ⟨some (.ref p), some (.int m), v7, v8, ?_, sm5⟩
            simp only [adStep, hm, if_neg cc]
            rfl
    · rintro σ H2 ⟨v5, v6, v7, v8, rfl, sm⟩
      have el : ws.take xs.length = ws := by
        have := hxs.len
        rw [List.length_map] at this
        rw [this, List.take_length]
      rw [el]
      refine ⟨_, rfl, _, rfl, _, rfl, _, _, rfl, rfl, .inl ⟨_, rfl, _, _, rfl, (by show 2 ≤ sizeLine; decide), fun p hp => ?_⟩⟩
      exact k p _ (fun b u q => by rw [upd_ne (ne_of_none (sm _ _ q) hp)]; exact sm _ _ q) upd_same
end Kn

set_option Elab.async false
set_option maxRecDepth 100000
set_option linter.all false
namespace Kn
open PySem L2
theorem nl_step (p : Int × Str) : nl (stepD p) = true := by simp [stepD, nl, nlAll]
theorem nl_steps (l : List (Int × Str)) : nlAll (l.map stepD) = true := nlAll_mem fun d hd => by
  obtain ⟨p, _, rfl⟩ := List.mem_map.mp hd
  exact nl_step p
theorem nl_ints (l : List Int) : nlAll (l.map PyData.int) = true := nlAll_mem fun d hd => by
  obtain ⟨p, _, rfl⟩ := List.mem_map.mp hd
  simp [nl]
theorem nl_way (y : Way) : nl y.d = true := by
  unfold Way.d
  simp [nl, nlAll, nl_steps, nl_ints]
structure Drawn (n : Int) (only : Str) (y : Way) : Prop where
  st : ∀ s ∈ y.steps, 0 ≤ s.1 ∧ s.1 < n
  sl : y.steps.length = n.toNat
  nt : ∀ m ∈ y.noted, 0 ≤ m ∧ m < n
  ln : y.noted.length ≤ n.toNat
def spSome (K : PySem.W.Frag) : Sp := fun vs H Q _ => ∃ (t : Addr) (n : Int) (only : Str), vs = [.ref t, .int n, .str only] ∧ Tape H t ∧ 0 ≤ n ∧ n ≤ 3 ∧
  ∀ (p : Addr) (y : Way) (H' : Hp), Dr t H H' → Dp K H' (.ref p) y.d → Drawn n only y → Q (.ref p) H'
variable {P : Program} {w : World} {K : PySem.W.Frag} {mg : Str → Option Value} {base : Heap}
abbrev s__law_some_way : Stmt := top 9
abbrev N__law_some_way : List Str := ["_law_tape_here", "_law_many", "_law_only", "_law_left", "_law_steps", "_law_marked", "_law_k"]
abbrev P__law_some_way : List Str := ["_law_tape_here", "_law_many", "_law_only"]
theorem sc__law_some_way : FnScope N__law_some_way P__law_some_way (defScope s__law_some_way) := ⟨rfl, rfl, rfl, by decide +kernel, rfl, by decide +kernel, by decide +kernel⟩
theorem ok__law_some_way (F : Fz K mg "_law_some_way" s__law_some_way P__law_some_way) (T : TxtC K mg) (G__law_take : Fx P w K mg base CX0 "_law_take" 1 P__law_take spTake) :
    Fx P w K mg base CX0 "_law_some_way" 2 P__law_some_way (spSome K) := by
  refine F.ok sc__law_some_way (fun vs H Q E h => ?_) (fun f cdv A outer s H vs Q E hr h => ?_)
  · obtain ⟨t, n, only, rfl, _⟩ := h
    rfl
  · obtain ⟨t, n, only, rfl, tp, hn0, hn3, k⟩ := h
    refine ⟨_, (pss_cons (ps_setLc (i := 3) (own := [("_law_k", 6)]) (g := (gName 6)) (tt := tYes) rfl sc__law_some_way.nd rfl rfl (sw_true rfl rfl rfl (by decide +kernel)) (pi_range1 (by rfl) T.b_range (pa_cons (pv 1) pa_nil)) (blkOk_by (own := [("_law_k", 6)]) (N := N__law_some_way) (sc := defScope s__law_some_way) (by decide +kernel)) (fun _ _ _ _ _ => (pg_name (i := 6) sc__law_some_way.nd rfl (Or.inl rfl))) (fun _ _ _ _ _ => pts_nil) (fun _ _ _ _ _ => (pv 6)))
      (pss_cons (ps_set (i := 4) sc__law_some_way.nd rfl (Or.inl rfl) (pe_lst pa_nil))
      (pss_cons (ps_set (i := 5) sc__law_some_way.nd rfl (Or.inl rfl) (pe_lst pa_nil))
      (pss_cons (ps_for PassesOwn.never rfl (pi_range1 (by rfl) T.b_range (pa_cons (pv 1) pa_nil)) (pg_name (i := 6) sc__law_some_way.nd rfl (Or.inl rfl)) (C8.pss_cut (ps_if (pt_cmpR op_eq (fcall G__law_take (hr.mono (by decide)) (by rfl) (pa_cons (pv 0) (pa_cons pe_int pa_nil))) pe_int (nomark _)) (pss_one (ps_expr (pe_bmK K PySem.F.plainAttrs_list PySem.F.slot_list_append PySem.F.type_list_append mt_append (pv 5) (pa_cons (pv 6) pa_nil)))) pss_nil)
      (pss_one (ps_expr (pe_bmK K PySem.F.plainAttrs_list PySem.F.slot_list_append PySem.F.type_list_append mt_append (pv 4) (pa_cons (pe_tup (pa_cons (pe_bmK K PySem.F.plainAttrs_list PySem.F.slot_list_pop PySem.F.type_list_pop mt_popAt (pv 3) (pa_cons (fcall G__law_take (hr.mono (by decide)) (by rfl) (pa_cons (pv 0) (pa_cons (pe_callB (call_len_seqK K) (by rfl) T.b_len PySem.boot_len (pa_cons (pv 3) pa_nil)) pa_nil))) pa_nil)) (pa_cons (pe_ix (ix_listK K) (pe_lst (pa_cons pe_str (pa_cons pe_str pa_nil))) (fcall G__law_take (hr.mono (by decide)) (by rfl) (pa_cons (pv 0) (pa_cons pe_int pa_nil))) (fun _ _ => rfl)) pa_nil))) pa_nil))))))
      (pss_one (ps_ret (pe_tup (pa_cons (pe_ix (ix_listK K) (pe_lst (pa_cons (pv 2) (pa_cons pe_str pa_nil))) (fcall G__law_take (hr.mono (by decide)) (by rfl) (pa_cons (pv 0) (pa_cons pe_int pa_nil))) (fun _ _ => rfl)) (pa_cons (pe_callTy (call_tuple_ofK K) (by rfl) T.b_tuple (by decide +kernel) (pa_cons (pv 4) pa_nil)) (pa_cons (pe_callTy (call_tuple_ofK K) (by rfl) T.b_tuple (by decide +kernel) (pa_cons (pv 5) pa_nil)) pa_nil)))))))))), ?_⟩
    refine ⟨_, rfl, n, rfl, by omega, by omega, fun l0 h0 => ?_⟩
    refine lc_accR (fun j => ((List.range j).map fun (m : Nat) => (0 + (m : Int) : Int)).map V.int) h0 rfl ?_ ?_ ?_
    · intro i hi
      refine small1000 ?_
      simp; omega
    · intro i H1 R1 R hi sm h1 h2
      refine ⟨rfl, yes_ ⟨_, rfl, h2 _ ?_⟩⟩
      simp [List.range_succ]
    · refine ⟨(by show 0 ≤ sizeLine; decide), fun l1 h1 => ⟨(by show 0 ≤ sizeLine; decide), fun l2 h2 => ?_⟩⟩
      have n10 : l0 ≠ l1 := ne_of_none upd_same h1
      have n21 : l1 ≠ l2 := ne_of_none upd_same h2
      have n20 : l0 ≠ l2 := ne_of_none (show (upd (upd H l0 _) l1 _) l0 = some _ by rw [upd_ne n10]; exact upd_same) h2
      have h1' : H l1 = none := by rw [← h1, upd_ne n10.symm]
      have h2' : H l2 = none := by rw [← h2, upd_ne n21.symm, upd_ne n20.symm]
      have nt0 := tp.ne h0
      have nt1 := tp.ne h1'
      have nt2 := tp.ne h2'
      refine ⟨_, rfl, n, rfl, by omega, by omega, ?_⟩
      refine for_range (n := n.toNat) (fun i σ H2 => ∃ (ls : List Int) (sts : List (Int × Str)) (sx : List V) (ms : List Int) (v6 : Option V), σ = [some (.ref t), some (.int n), some (.str only), some (.ref l0), some (.ref l1), some (.ref l2), v6] ∧
        H2 l0 = some (.lst (ls.map V.int)) ∧ ls.length + i = n.toNat ∧ (∀ x ∈ ls, 0 ≤ x ∧ x < n) ∧ H2 l1 = some (.lst sx) ∧ DpAll K H2 sx (sts.map stepD) ∧ sts.length = i ∧ (∀ s ∈ sts, 0 ≤ s.1 ∧ s.1 < n) ∧
        H2 l2 = some (.lst (ms.map V.int)) ∧ ms.length ≤ i ∧ (∀ m ∈ ms, 0 ≤ m ∧ m < n) ∧ Dr t H H2) ?_ ?_ ?_
      · refine ⟨_, [], [], [], _, rfl, by rw [upd_ne n20, upd_ne n10]; exact upd_same, by simp, ?_, by rw [upd_ne n21]; exact upd_same, .nil, rfl, by simp, upd_same, Nat.le_refl _, by simp, ?_⟩
        · intro x hx
          obtain ⟨m, hm, rfl⟩ := List.mem_map.mp hx
          have := List.mem_range.mp hm
          omega
        · have d1 : Dr t H (upd H l0 (.lst (((List.range n.toNat).map fun (m : Nat) => (0 + (m : Int) : Int)).map V.int))) := Dr.new tp h0
          have d2 := Dr.new (o := .lst []) d1.tape h1
          have d3 := Dr.new (o := .lst []) d2.tape h2
          exact d1.trans (d2.trans d3)
      · rintro i σ H2 hi ⟨ls, sts, sx, ms, v6, rfl, e0, hl, hls, e1, hsx, hst, hsts, e2, hml, hms, dr⟩
        refine ⟨fun σ H3 => ∃ (ms : List Int), σ = [some (.ref t), some (.int n), some (.str only), some (.ref l0), some (.ref l1), some (.ref l2), some (.int (0 + (i : Int)))] ∧ H3 l2 = some (.lst (ms.map V.int)) ∧ ms.length ≤ i + 1 ∧ (∀ m ∈ ms, 0 ≤ m ∧ m < n) ∧
          H3 l0 = some (.lst (ls.map V.int)) ∧ H3 l1 = some (.lst sx) ∧ DpAll K H3 sx (sts.map stepD) ∧ Dr t H H3, ?_, ?_⟩
        · refine ⟨_, rfl, t, 2, rfl, dr.tape, by decide, fun r H3 r0 r1 d3 => ⟨rfl, _, rfl, ?_⟩⟩
          have e0' := d3.keep _ _ e0 nt0.symm
          have e1' := d3.keep _ _ e1 nt1.symm
          have e2' := d3.keep _ _ e2 nt2.symm
          have hsx' := DpAll.tups (d3.tups dr.tape) _ (nl_steps sts) hsx
          have dr' := dr.trans d3
          refine ite2 (fun c => ?_) (fun c => ?_)
          · refine ⟨_, rfl, .inl ⟨rfl, _, SqL.of e2'⟩, _, rfl, l2, _, _, rfl, rfl, e2', small1000 (by simp; omega), ?_⟩
            refine ⟨ms ++ [0 + (i : Int)], rfl, by rw [upd_same]; simp, by simp; omega, ?_, by rw [upd_ne n20]; exact e0', by rw [upd_ne n21]; exact e1', DpAll.tups (tups_upd e2') _ (nl_steps sts) hsx', ?_⟩
            · intro m hm
              rcases List.mem_append.mp hm with hm | hm
              · exact hms m hm
              · simp at hm; omega
            · exact Dr.upd dr' nt2 h2'
          · exact ⟨ms, rfl, e2', by omega, hms, e0', e1', hsx', dr'⟩
        · rintro σ H3 ⟨ms, rfl, e2, hml, hms, e0, e1, hsx, dr⟩
          refine ⟨_, rfl, .inl ⟨rfl, _, SqL.of e1⟩, _, rfl, .inl ⟨rfl, _, SqL.of e0⟩, _, rfl, _, rfl, l0, _, rfl, .inl (SqL.of e0), t, _, rfl, dr.tape, (by simp; omega), fun r H4 r0 r1 d4 => ?_⟩
          rw [List.length_map] at r1
          have e0' := d4.keep _ _ e0 nt0.symm
          have e1' := d4.keep _ _ e1 nt1.symm
          have e2' := d4.keep _ _ e2 nt2.symm
          have hsx' := DpAll.tups (d4.tups dr.tape) _ (nl_steps sts) hsx
          have dr' := dr.trans d4
          have hr' : r.toNat < ls.length := by omega
          refine ⟨l0, _, r, r.toNat, V.int ls[r.toNat], rfl, rfl, e0', by omega, by omega, seqIdx_nat r0 (by simpa using hr'), by simp [hr'], ?_⟩
          refine ⟨(by show 2 ≤ sizeLine; decide), fun l3 h3 => ?_⟩
          have n3 : ∀ {b o}, H4 b = some o → b ≠ l0 → b ≠ l3 := fun {b o} e nb => ne_of_none (show (upd H4 l0 _) b = some o by rw [upd_ne nb]; exact e) h3
          have d5 : Dr t H (upd H4 l0 (.lst ((ls.map V.int).eraseIdx r.toNat))) := Dr.upd dr' nt0 h0
          have d6 := d5.trans (Dr.new (o := .lst [.str "told", .str "found"]) d5.tape h3)
          refine ⟨_, rfl, t, 2, rfl, d6.tape, by decide, fun q H5 q0 q1 d7 => ?_⟩
          have m0 : l0 ≠ l3 := ne_of_none upd_same h3
          have e3'' : H5 l3 = some (.lst [.str "told", .str "found"]) := d7.keep _ _ upd_same (d5.tape.ne h3).symm
          have e0'' : H5 l0 = some (.lst ((ls.eraseIdx r.toNat).map V.int)) := d7.keep _ _ (by rw [upd_ne m0, upd_same, map_eraseIdx']) nt0.symm
          have e1'' : H5 l1 = some (.lst sx) := d7.keep _ _ (by rw [upd_ne (n3 e1' n10.symm), upd_ne n10.symm]; exact e1') nt1.symm
          have e2'' : H5 l2 = some (.lst (ms.map V.int)) := d7.keep _ _ (by rw [upd_ne (n3 e2' n20.symm), upd_ne n20.symm]; exact e2') nt2.symm
          have hsx'' : DpAll K H5 sx (sts.map stepD) := DpAll.tups ((tups_upd e0').trans ((tups_new h3).trans (d7.tups d6.tape))) _ (nl_steps sts) hsx'
          have dr'' := d6.trans d7
          have hq : ∃ m : Str, atI [V.str "told", V.str "found"] q = some (.str m) := by
            have : q = 0 ∨ q = 1 := by omega
            rcases this with rfl | rfl
            · exact ⟨_, rfl⟩
            · exact ⟨_, rfl⟩
          obtain ⟨m, hm⟩ := hq
          refine ⟨l3, _, q, _, rfl, rfl, SqL.of e3'', hm, ?_⟩
          refine ⟨(by show 2 ≤ sizeLine; decide), fun l4 h4 => ?_⟩
          have m1 : l1 ≠ l4 := ne_of_none e1'' h4
          refine ⟨l1, _, _, rfl, rfl, by rw [upd_ne m1]; exact e1'', ?_, ?_⟩
          · refine small1000 ?_
            rw [hsx.len, List.length_map]; omega
          · have hx : ∀ x ∈ ls, 0 ≤ x ∧ x < n := hls
            refine ⟨ls.eraseIdx r.toNat, sts ++ [(ls[r.toNat], m)], sx ++ [V.ref l4], ms, _, rfl, ?_, ?_, ?_, upd_same, ?_, ?_, ?_, ?_, hml, hms, ?_⟩
            · rw [upd_ne n10, upd_ne (ne_of_none e0'' h4)]; exact e0''
            · rw [List.length_eraseIdx, if_pos hr']; omega
            · intro x hx; exact hls x (List.mem_of_mem_eraseIdx hx)
            · rw [List.map_append]
              have tu : Tups H5 (upd (upd H5 l4 (.tup [V.int ls[r.toNat], V.str m])) l1 (.lst (sx ++ [V.ref l4]))) := (tups_new h4).trans (tups_upd (t := l1) (ys := sx) (by rw [upd_ne m1]; exact e1''))
              refine DpAll.snoc (DpAll.tups tu _ (nl_steps sts) hsx'') ?_
              exact .tup (SqT.of (by rw [upd_ne m1.symm]; exact upd_same)) (.cons (.int _) (.cons (.str _) .nil))
            · simp [hst]
            · intro s hs
              rcases List.mem_append.mp hs with hs | hs
              · exact hsts s hs
              · simp at hs; subst hs; exact hls _ (List.getElem_mem _)
            · rw [upd_ne n21.symm, upd_ne (ne_of_none e2'' h4)]; exact e2''
            · exact Dr.upd (dr''.trans (Dr.new dr''.tape h4)) nt1 h1'
      · rintro σ H2 ⟨ls, sts, sx, ms, v6, rfl, e0, hl, hls, e1, hsx, hst, hsts, e2, hml, hms, dr⟩
        refine ⟨_, rfl, (by show 2 ≤ sizeLine; decide), fun l3 h3 => ?_⟩
        have d3 := dr.trans (Dr.new (o := .lst [.str only, .str "told"]) dr.tape h3)
        refine ⟨_, rfl, t, 2, rfl, d3.tape, by decide, fun q H4 q0 q1 d4 => ?_⟩
        have hq : ∃ m : Str, atI [V.str only, V.str "told"] q = some (.str m) := by
          have : q = 0 ∨ q = 1 := by omega
          rcases this with rfl | rfl
          · exact ⟨_, rfl⟩
          · exact ⟨_, rfl⟩
        obtain ⟨m, hm⟩ := hq
        have e1' : H4 l1 = some (.lst sx) := d4.keep _ _ (by rw [upd_ne (ne_of_none e1 h3)]; exact e1) nt1.symm
        have e2' : H4 l2 = some (.lst (ms.map V.int)) := d4.keep _ _ (by rw [upd_ne (ne_of_none e2 h3)]; exact e2) nt2.symm
        have hsx' : DpAll K H4 sx (sts.map stepD) := DpAll.tups ((tups_new h3).trans (d4.tups d3.tape)) _ (nl_steps sts) hsx
        have dr' := d3.trans d4
        refine ⟨l3, _, q, _, rfl, rfl, SqL.of (d4.keep _ _ upd_same (dr.tape.ne h3).symm), hm, ?_⟩
        refine ⟨_, rfl, l1, _, rfl, .inl ⟨SqL.of e1', fun p1 hp1 => ?_⟩⟩
        refine ⟨_, rfl, l2, _, rfl, .inl ⟨SqL.of (by rw [upd_ne (ne_of_none e2' hp1)]; exact e2'), fun p2 hp2 => ⟨(by show 3 ≤ sizeLine; decide), fun p3 hp3 => ?_⟩⟩⟩
        have d5 := dr'.trans (Dr.new (o := .tup sx) dr'.tape hp1)
        have d6 := d5.trans (Dr.new (o := .tup (ms.map V.int)) d5.tape hp2)
        have d7 := d6.trans (Dr.new (o := .tup [V.str m, V.ref p1, V.ref p2]) d6.tape hp3)
        have m12 : p1 ≠ p2 := ne_of_none upd_same hp2
        have m23 : p2 ≠ p3 := ne_of_none upd_same hp3
        have m13 : p1 ≠ p3 := ne_of_none (by rw [upd_ne m12]; exact upd_same) hp3
        refine k p3 ⟨m, sts, ms⟩ _ d7 (.tup (SqT.of upd_same) (.cons (.str _) (.cons (.tup (xs := sx) (SqT.of ?_) ?_) (.cons (.tup (SqT.of ?_) (DpAll.ints _)) .nil)))) ⟨hsts, hst, hms, hml⟩
        · rw [upd_ne m13, upd_ne m12]; exact upd_same
        · exact DpAll.tups ((tups_new hp1).trans ((tups_new hp2).trans (tups_new hp3))) _ (nl_steps sts) hsx'
        · rw [upd_ne m23]; exact upd_same
end Kn

set_option Elab.async false
set_option maxRecDepth 100000
set_option linter.all false
namespace Kn
open PySem L2
theorem adds_step {ds gs : List Int} {o1 o2 : Option Int} {q : Int × Int} {y : Way} (h1 : q.1 = o1.getD 99) (h2 : q.2 = o2.getD 99) (b1 : ∀ t, o1 = some t → t < 98) (hb : wayMany ds gs y < 98) :
    (adStep ds gs q y).1 = (nnStep ds gs (o1, o2) y).1.getD 99 ∧ (adStep ds gs q y).2 = (nnStep ds gs (o1, o2) y).2.getD 99 ∧ ∀ t, (nnStep ds gs (o1, o2) y).1 = some t → t < 98 := by
  have key : ∀ (o : Option Int) (z : Int), z = o.getD 99 → (if wayMany ds gs y < z then wayMany ds gs y else z) = (least1 o (wayMany ds gs y)).getD 99 := fun o z e => by
    cases o with
    | none =>
      have e : z = 99 := e
      subst e
      rw [if_pos (by omega)]; rfl
    | some t =>
      have e : z = t := e
      subst e
      unfold least1
      dsimp only
      by_cases c : wayMany ds gs y < z
      · rw [if_pos c, if_pos c]; rfl
      · rw [if_neg c, if_neg c]; rfl
  refine ⟨key o1 q.1 h1, ?_, ?_⟩
  · show (if y.whole = "found" then _ else _) = (if y.whole = "found" then least1 o2 _ else o2).getD 99
    by_cases c : y.whole = "found"
    · rw [if_pos c, if_pos c]; exact key o2 q.2 h2
    · rw [if_neg c, if_neg c]; exact h2
  · intro t e
    have e : least1 o1 (wayMany ds gs y) = some t := e
    cases o1 with
    | none => cases e; exact hb
    | some u =>
      have hu := b1 u rfl
      unfold least1 at e
      dsimp only at e
      split at e
      · cases e; exact hb
      · cases e; exact hu
theorem adds_fold (ds gs : List Int) : ∀ (ws : List Way) (s : Option Int × Option Int) (q : Int × Int), q.1 = s.1.getD 99 → q.2 = s.2.getD 99 → (∀ t, s.1 = some t → t < 98) → (∀ y ∈ ws, wayMany ds gs y < 98) →
    (ws.foldl (adStep ds gs) q).1 = (ws.foldl (nnStep ds gs) s).1.getD 99 ∧ (ws.foldl (adStep ds gs) q).2 = (ws.foldl (nnStep ds gs) s).2.getD 99 ∧ ∀ t, (ws.foldl (nnStep ds gs) s).1 = some t → t < 98
  | [], _, _, h1, h2, b, _ => ⟨h1, h2, b⟩
  | y :: ws, (o1, o2), q, h1, h2, b, hb => by
    obtain ⟨g1, g2, g3⟩ := adds_step (y := y) h1 h2 b (hb y (by simp))
    exact adds_fold ds gs ws (nnStep ds gs (o1, o2) y) _ g1 g2 g3 fun z hz => hb z (by simp [hz])
theorem adds_eq {ds gs : List Int} {ws : List Way} (hne : ws ≠ []) (hb : ∀ y ∈ ws, wayMany ds gs y < 98) : adds ds gs ws = nodeNeed ds gs ws := by
  obtain ⟨h1, h2, h3⟩ := adds_fold ds gs ws (none, none) (99, 99) rfl rfl (fun _ e => nomatch e) hb
  obtain ⟨t, et⟩ := nn_some ds gs (s := (none, none)) hne
  unfold adds nodeNeed
  generalize ws.foldl (adStep ds gs) (99, 99) = q at *
  generalize ws.foldl (nnStep ds gs) (none, none) = s at *
  obtain ⟨o1, o2⟩ := s
  obtain ⟨q1, q2⟩ := q
  cases et
  have h1 : q1 = t := h1
  have ht := h3 t rfl
  subst h1
  cases o2 with
  | none =>
    have h2 : q2 = 99 := h2
    subst h2
    show (q1, if q1 + 1 < 99 then q1 + 1 else 99) = (q1, q1 + 1)
    rw [if_pos (by omega)]
  | some f =>
    have h2 : q2 = f := h2
    subst h2
    rfl
theorem stepsSum_le {ds : List Int} (hd : ∀ d ∈ ds, d ≤ 1) : ∀ (l : List (Int × Str)), stepsSum ds l ≤ l.length
  | [] => by show (0 : Int) ≤ _; omega
  | q :: l => by
    have ih := stepsSum_le hd l
    unfold stepsSum at *
    rw [List.filter_cons]
    split
    · rw [List.map_cons, List.sum_cons, List.length_cons]
      have : ds.getD q.1.toNat 0 ≤ 1 := by
        rw [List.getD_eq_getElem?_getD]
        cases e : ds[q.1.toNat]? with
        | none => show (0 : Int) ≤ 1; omega
        | some z => exact hd z (List.mem_of_getElem? e)
      omega
    · rw [List.length_cons]; omega
theorem wayMany_lt {n : Int} {only : Str} {ds : List Int} {y : Way} (hn : n ≤ 3) (hd : ∀ d ∈ ds, d ≤ 1) (h : Drawn n only y) : wayMany ds [] y < 98 := by
  unfold wayMany
  have h1 := stepsSum_le hd y.steps
  have h2 : (y.noted.filter fun p => !([] : List Int).contains p).length ≤ y.noted.length := List.length_filter_le _ _
  have h3 := h.sl
  have h4 := h.ln
  omega
theorem isi_tuple {K : PySem.W.Frag} : PySem.W.kitOne K (.type "tuple") (.type "tuple") = some true := kit_ty (by decide +kernel)
theorem isi_int {K : PySem.W.Frag} : PySem.W.kitOne K (.type "int") (.type "int") = some true := kit_ty (by decide +kernel)
theorem isi_int_bool {K : PySem.W.Frag} : PySem.W.kitOne K (.type "int") (.type "bool") = some false := kit_ty (by decide +kernel)
def spAnswer (K : PySem.W.Frag) : Sp := fun vs H Q _ => ∃ (a b : Addr) (ws : List Way) (ds : List Int) (n : Int) (only : Str), vs = [.ref a, .ref b] ∧ Dp K H (.ref a) (.tuple (ws.map Way.d)) ∧ SqL K H b (ds.map V.int) ∧ n ≤ 3 ∧
  (∀ y ∈ ws, Drawn n only y) ∧ ws ≠ [] ∧ ds.length = n.toNat ∧ (∀ d ∈ ds, d ≤ 1) ∧ ∀ H', Same H H' → Q (.bl true) H'
theorem eqv_ints : ∀ (l : List Int), PyData.eqv (.list (l.map .int)) (.list (l.map .int)) = true
  | l => by
    rw [PyData.eqv]
    exact eqvAll_refl _ (nl_ints l)
theorem shaped_ints (l : List Int) : SeqAt.shaped (.list (l.map .int)) = true := (Lay.lst (Lay.ints 0 l)).shaped
variable {P : Program} {w : World} {K : PySem.W.Frag} {mg : Str → Option Value} {base : Heap}
abbrev s__law_answer : Stmt := top 10
abbrev N__law_answer : List Str := ["_law_ways", "_law_row", "_law_passed", "_law_answer_here", "_law_number"]
abbrev P__law_answer : List Str := ["_law_ways", "_law_row"]
theorem sc__law_answer : FnScope N__law_answer P__law_answer (defScope s__law_answer) := ⟨rfl, rfl, rfl, by decide +kernel, rfl, by decide +kernel, by decide +kernel⟩
theorem ok__law_answer (F : Fz K mg "_law_answer" s__law_answer P__law_answer) (T : TxtC K mg) (G_own_need : Fx P w K mg base CX0 "own_need" 2 P_own_need (spOwn K)) (G__law_adds : Fx P w K mg base CX0 "_law_adds" 1 P__law_adds (spAdds K)) :
    Fx P w K mg base CX0 "_law_answer" 3 P__law_answer (spAnswer K) := by
  refine F.ok sc__law_answer (fun vs H Q E h => ?_) (fun f cdv A outer s H vs Q E hr h => ?_)
  · obtain ⟨a, b, ws, ds, n, only, rfl, _⟩ := h
    rfl
  · obtain ⟨a, b, ws, ds, n, only, rfl, ha, hb, hn, hok, hne, hdl, hd1, k⟩ := h
    refine ⟨_, (pss_cons (ps_set (i := 2) sc__law_answer.nd rfl (Or.inl rfl) (pe_callTy (call_list_ofK K) (by rfl) T.b_list (by decide +kernel) (pa_cons (pv 1) pa_nil)))
      (pss_cons (ps_set (i := 3) sc__law_answer.nd rfl (Or.inl rfl) (fcall G_own_need (hr.mono (by decide)) (by rfl) (pa_cons (pv 0) (pa_cons (pv 2) pa_nil))))
      (pss_cons (ps_if (PW.pt (pw_or (pt_not (pt_val (pe_callB (call_isi1K K) (by rfl) T.b_isinstance (by decide +kernel) (pa_cons (pv 3) (pa_cons (pe_bltn (v := .ty "tuple") (by rfl) T.b_tuple (by decide +kernel) rfl) pa_nil))))) (pw_or (pt_cmpR op_ne (pe_callB (call_len_seqK K) (by rfl) T.b_len PySem.boot_len (pa_cons (pv 3) pa_nil)) pe_int (nomark _)) (pw_or1 (pt_cmpR (op_neDK K hr.units) (pv 2) (pv 1) (nomark _)))))) (pss_one (ps_ret pe_bl)) pss_nil)
      (pss_cons (ps_for PassesOwn.never rfl (pi_tupK K (pv 3)) (pg_name (i := 4) sc__law_answer.nd rfl (Or.inl rfl)) (pss_one (ps_if (PW.pt (pw_or (pt_not (pt_val (pe_callB (call_isi1K K) (by rfl) T.b_isinstance (by decide +kernel) (pa_cons (pv 4) (pa_cons (pe_bltn (v := .ty "int") (by rfl) T.b_int (by decide +kernel) rfl) pa_nil))))) (pw_or1 (pt_val (pe_callB (call_isi1K K) (by rfl) T.b_isinstance (by decide +kernel) (pa_cons (pv 4) (pa_cons (pe_bltn (v := .ty "bool") (by rfl) T.b_bool (by decide +kernel) rfl) pa_nil))))))) (pss_one (ps_ret pe_bl)) pss_nil)))
      (pss_one (ps_ret (pe_cmpR (op_eqDK K hr.units) (pv 3) (fcall G__law_adds (hr.mono (by decide)) (by rfl) (pa_cons (pv 0) (pa_cons (pv 1) (pa_cons (pe_lst pa_nil) pa_nil)))) (nomark _)))))))), ?_⟩
    have wok : ∀ y ∈ ws, WayOk ds.length y := fun y hy => ⟨fun s hs => by have := (hok y hy).st s hs; omega, by have := (hok y hy).ln; omega⟩
    refine ⟨_, rfl, b, _, rfl, .inl hb, fun l hl => ?_⟩
    have sm1 : Same H (upd H l (.lst (ds.map V.int))) := fun c u e => by rw [upd_ne (ne_of_none e hl)]; exact e
    refine ⟨_, rfl, _, rfl, a, l, ws, ds, rfl, Dp.same sm1 _ ha, SqL.of upd_same, wok, hne, fun p H2 sm2 hp => ?_⟩
    have sm12 := Same.trans sm1 sm2
    have hl2 : H2 l = some (.lst (ds.map V.int)) := sm2 _ _ upd_same
    refine ⟨_, rfl, _, _, _, _, _, rfl, .ty _, .base (.tup hp), isi_tuple, _, rfl, ?_⟩
    refine iteF ?_
    refine ⟨_, rfl, p, _, rfl, .inr (SqT.of hp), rfl, _, rfl, ?_⟩
    refine iteF ?_
    refine ⟨_, rfl, _, rfl, _, _, .lst (SqL.of hl2) (DpAll.ints ds), .lst (Same.seq sm12 hb) (DpAll.ints ds), shaped_ints ds, shaped_ints ds, _, rfl, ?_⟩
    rw [eqv_ints]
    refine iteF ?_
    refine ⟨_, rfl, p, rfl, ⟨_, SqT.of hp⟩, ?_⟩
    refine for_tup (xs := [.int (nodeNeed ds [] ws).1, .int (nodeNeed ds [] ws).2]) (fun i σ H3 => ∃ v4, σ = [some (.ref a), some (.ref b), some (.ref l), some (.ref p), v4] ∧ H3 = H2) ?_ ?_ ?_ ?_
    · exact ⟨_, rfl, rfl⟩
    · rintro i σ H3 _ ⟨_, _, rfl⟩; exact SqT.of hp
    · rintro i x σ H3 hx ⟨v4, rfl, rfl⟩
      have hx : ∃ z : Int, x = .int z := by
        match i, hx with
        | 0, hx => cases hx; exact ⟨_, rfl⟩
        | 1, hx => cases hx; exact ⟨_, rfl⟩
        | i + 2, hx => simp at hx
      obtain ⟨z, rfl⟩ := hx
      refine ⟨_, rfl, _, _, _, _, _, rfl, .ty _, .base (.int _), isi_int, _, rfl, iteF ?_⟩
      refine ⟨_, rfl, _, _, _, _, _, rfl, .ty _, .base (.int _), isi_int_bool, _, rfl, iteF ?_⟩
      exact ⟨_, rfl, rfl⟩
    · rintro σ H3 ⟨v4, rfl, rfl⟩
      refine ⟨_, rfl, _, rfl, _, rfl, (by show 0 ≤ sizeLine; decide), fun l4 h4 => ?_⟩
      have sm4 : Same H3 (upd H3 l4 (.lst [])) := fun c u e => by rw [upd_ne (ne_of_none e h4)]; exact e
      have smA := Same.trans sm12 sm4
      refine ⟨a, b, l4, ws, ds, [], rfl, Dp.same smA _ ha, Same.seq smA hb, SqL.of upd_same, fun y hy => ⟨wok y hy, by have := (hok y hy).sl; omega⟩, fun q H5 sm5 hq => ?_⟩
      rw [adds_eq hne fun y hy => wayMany_lt hn hd1 (hok y hy)] at hq
      refine ⟨.tuple [.int _, .int _], .tuple [.int _, .int _], .tup (SqT.of (sm5 _ _ (sm4 _ _ hp))) (.cons (.int _) (.cons (.int _) .nil)), .tup (SqT.of hq) (.cons (.int _) (.cons (.int _) .nil)), ?_, ?_, ?_⟩
      · exact (Lay.tup (Lay.ints 0 [_, _])).shaped
      · exact (Lay.tup (Lay.ints 0 [_, _])).shaped
      · rw [eqv_refl _ (by simp [nl, nlAll])]
        exact k _ (Same.trans smA sm5)
end Kn

set_option Elab.async false
set_option maxRecDepth 100000
set_option linter.all false
namespace Kn
open PySem L2
def spLaw (K : PySem.W.Frag) : Sp := fun vs H Q _ => ∃ (a : Addr) (ns : List Int), vs = [.ref a] ∧ SqL K H a (ns.map V.int) ∧ ns.length ≤ 63 ∧ ∀ H', Q (.bl true) H'
theorem nl_ways (ws : List Way) : nlAll (ws.map Way.d) = true := nlAll_mem fun d hd => by
  obtain ⟨y, _, rfl⟩ := List.mem_map.mp hd
  exact nl_way y
variable {P : Program} {w : World} {K : PySem.W.Frag} {mg : Str → Option Value} {base : Heap}
abbrev s_law : Stmt := top 11
abbrev N_law : List Str := ["_law_script", "_law_tape_here", "_law_many", "_law_only", "_law_ways", "_law_row", "_law_k"]
abbrev P_law : List Str := ["_law_script"]
theorem sc_law : FnScope N_law P_law (defScope s_law) := ⟨rfl, rfl, rfl, by decide +kernel, rfl, by decide +kernel, by decide +kernel⟩
theorem DpAll_reverse {K : PySem.W.Frag} {H : Hp} : ∀ {vs : List V} {ds : List PyData}, DpAll K H vs ds → DpAll K H vs.reverse ds.reverse
  | _, _, .nil => .nil
  | _, _, .cons h a => by
    rw [List.reverse_cons, List.reverse_cons]
    exact DpAll.snoc (DpAll_reverse a) h
theorem ok_law {f : Addr} {fd : FuncData} (F : Fun K "law" "law" s_law f fd) (T : TxtC K mg) (G__law_tape : Fx P w K mg base CX0 "_law_tape" 2 P__law_tape (spTape K)) (G__law_take : Fx P w K mg base CX0 "_law_take" 1 P__law_take spTake)
    (G__law_some_way : Fx P w K mg base CX0 "_law_some_way" 2 P__law_some_way (spSome K)) (G__law_answer : Fx P w K mg base CX0 "_law_answer" 3 P__law_answer (spAnswer K)) : FnOk P w K mg base CX0 4 f fd P_law (spLaw K) := by
  refine F.ok sc_law (fun vs H Q E h => ?_) (fun cdv A outer s H vs Q E hr h => ?_)
  · obtain ⟨a, ns, rfl, _⟩ := h
    rfl
  · obtain ⟨a, ns, rfl, hS, _, k⟩ := h
    refine ⟨_, (pss_cons (ps_set (i := 1) sc_law.nd rfl (Or.inr rfl) (fcall G__law_tape (hr.mono (by decide)) (by rfl) (pa_cons (pv 0) (pa_cons pe_int (pa_cons pe_int pa_nil)))))
      (pss_cons (ps_set (i := 2) sc_law.nd rfl (Or.inr rfl) (fcall G__law_take (hr.mono (by decide)) (by rfl) (pa_cons (pv 1) (pa_cons pe_int pa_nil))))
      (pss_cons (ps_set (i := 3) sc_law.nd rfl (Or.inr rfl) pe_str)
      (C8.pss_cut (ps_if (pt_cmpR op_eq (fcall G__law_take (hr.mono (by decide)) (by rfl) (pa_cons (pv 1) (pa_cons pe_int pa_nil))) pe_int (nomark _)) (pss_one (ps_set (i := 3) sc_law.nd rfl (Or.inr rfl) pe_str)) pss_nil)
      (pss_cons (ps_set (i := 4) sc_law.nd rfl (Or.inl rfl) (pe_callTy (call_tuple_ofK K) (by rfl) T.b_tuple (by decide +kernel) (pa_cons (pe_lc (own := [("_law_k", 6)]) (g := (gName 6)) (tt := tYes) rfl sc_law.nd (pi_range1 (by rfl) T.b_range (pa_cons (pe_op op_add pe_int (fcall G__law_take (hr.mono (by decide)) (by rfl) (pa_cons (pv 1) (pa_cons pe_int pa_nil)))) pa_nil)) (blkOk_by (own := [("_law_k", 6)]) (N := N_law) (sc := defScope s_law) (by decide +kernel)) (fun _ _ _ _ _ => (pg_name (i := 6) sc_law.nd rfl (Or.inl rfl))) (fun _ _ _ _ _ => pts_nil) (fun _ _ _ _ _ => (fcall G__law_some_way (hr.mono (by decide)) (by rfl) (pa_cons (pv 1) (pa_cons (pv 2) (pa_cons (pv 3) pa_nil)))))) pa_nil)))
      (pss_cons (ps_setLc (i := 5) (own := [("_law_k", 6)]) (g := (gName 6)) (tt := tYes) rfl sc_law.nd rfl rfl (sw_true rfl rfl rfl (by decide +kernel)) (pi_range1 (by rfl) T.b_range (pa_cons (pv 2) pa_nil)) (blkOk_by (own := [("_law_k", 6)]) (N := N_law) (sc := defScope s_law) (by decide +kernel)) (fun _ _ _ _ _ => (pg_name (i := 6) sc_law.nd rfl (Or.inl rfl))) (fun _ _ _ _ _ => pts_nil) (fun _ _ _ _ _ => (fcall G__law_take (hr.mono (by decide)) (by rfl) (pa_cons (pv 1) (pa_cons pe_int pa_nil)))))
      (pss_cons (ps_if (PW.pt (pw_or (pt_not (pt_val (fcall G__law_answer (hr.mono (by decide)) (by rfl) (pa_cons (pv 4) (pa_cons (pv 5) pa_nil))))) (pw_or1 (pt_not (pt_val (fcall G__law_answer (hr.mono (by decide)) (by rfl) (pa_cons (pv 4) (pa_cons (pe_lc (own := [("_law_k", 6)]) (g := (gName 6)) (tt := tYes) rfl sc_law.nd (pi_range1 (by rfl) T.b_range (pa_cons (pv 2) pa_nil)) (blkOk_by (own := [("_law_k", 6)]) (N := N_law) (sc := defScope s_law) (by decide +kernel)) (fun _ _ _ _ _ => (pg_name (i := 6) sc_law.nd rfl (Or.inl rfl))) (fun _ _ _ _ _ => pts_nil) (fun _ _ _ _ _ => pe_int)) pa_nil)))))))) (pss_one (ps_ret pe_bl)) pss_nil)
      (pss_one (ps_ret (pe_and (fcall G__law_answer (hr.mono (by decide)) (by rfl) (pa_cons (pv 4) (pa_cons (pe_lc (own := [("_law_k", 6)]) (g := (gName 6)) (tt := tYes) rfl sc_law.nd (pi_range1 (by rfl) T.b_range (pa_cons (pv 2) pa_nil)) (blkOk_by (own := [("_law_k", 6)]) (N := N_law) (sc := defScope s_law) (by decide +kernel)) (fun _ _ _ _ _ => (pg_name (i := 6) sc_law.nd rfl (Or.inl rfl))) (fun _ _ _ _ _ => pts_nil) (fun _ _ _ _ _ => pe_int)) pa_nil))) (pe_one (fcall G__law_answer (hr.mono (by decide)) (by rfl) (pa_cons (pe_revT K (pv 4) (po_some (pe_un un_neg pe_int))) (pa_cons (pv 5) pa_nil)))))))))))))), ?_⟩
    refine ⟨_, rfl, a, 0, 60, ns, rfl, hS, by decide, by decide, by decide, fun t H1 ht sm1 tp1 => ?_⟩
    refine ⟨_, rfl, t, 4, rfl, tp1, by decide, fun n H2 n0 n1 d2 => ?_⟩
    refine ⟨fun σ H3 => ∃ only : Str, σ = [some (.ref a), some (.ref t), some (.int n), some (.str only), none, none, none] ∧ Dr t H1 H3, ?_, ?_⟩
    · refine ⟨_, rfl, t, 4, rfl, d2.tape, by decide, fun r H3 r0 r1 d3 => ⟨rfl, _, rfl, ?_⟩⟩
      refine ite2 (fun c => ?_) (fun c => ?_)
      · exact ⟨_, rfl, d2.trans d3⟩
      · exact ⟨_, rfl, d2.trans d3⟩
    · rintro σ H3 ⟨only, rfl, d3⟩
      refine ⟨_, rfl, t, 4, rfl, d3.tape, by decide, fun r H4 r0 r1 d4 => ⟨_, _, rfl, rfl, _, rfl, by omega, by omega, fun D hD => ?_⟩⟩
      have d4' := d3.trans d4
      have nD : t ≠ D := d4.tape.ne hD
      refine lc_range (lo := 0) (n := (1 + r).toNat) (fun i H5 => ∃ (ws : List Way) (xs : List V), H5 D = some (.lst xs) ∧ DpAll K H5 xs (ws.map Way.d) ∧ ws.length = i ∧ (∀ y ∈ ws, Drawn n only y) ∧ Dr t H4 H5) ?_ ?_ ?_
      · exact ⟨[], [], upd_same, .nil, rfl, by simp, Dr.new d4.tape hD⟩
      · rintro i H5 hi ⟨ws, xs, e1, hxs, hl, hws, d5⟩
        refine ⟨rfl, yes_ ⟨_, rfl, _, rfl, _, rfl, t, n, only, rfl, d5.tape, n0, by omega, fun p y H6 d6 hy yok => ?_⟩⟩
        have e1' := d6.keep _ _ e1 nD.symm
        refine ⟨xs, e1', small1000 (by rw [hxs.len, List.length_map]; omega), ws ++ [y], xs ++ [.ref p], upd_same, ?_, by simp [hl], ?_, Dr.upd (d5.trans d6) nD hD⟩
        · rw [List.map_append]
          exact DpAll.snoc (DpAll.tups ((d6.tups d5.tape).trans (tups_upd e1')) _ (nl_ways ws) hxs) (Dp.tups (tups_upd e1') _ (nl_way y) hy)
        · intro z hz
          rcases List.mem_append.mp hz with hz | hz
          · exact hws z hz
          · simp at hz; subst hz; exact yok
      · rintro H5 ⟨ws, xs, e1, hxs, hl, hws, d5⟩
        refine ⟨D, _, rfl, .inl ⟨SqL.of e1, fun W hW => ?_⟩⟩
        have hne : ws ≠ [] := by
          intro e
          subst e
          simp at hl
          omega
        have d6 := (d4'.trans d5).trans (Dr.new (o := .tup xs) d5.tape hW)
        have hWd : Dp K (upd H5 W (.tup xs)) (.ref W) (.tuple (ws.map Way.d)) := .tup (SqT.of upd_same) (DpAll.tups (tups_new hW) _ (nl_ways ws) hxs)
        refine ⟨_, rfl, n, rfl, by omega, by omega, fun R hR => ?_⟩
        have nR : t ≠ R := d6.tape.ne hR
        refine lc_range (lo := 0) (n := n.toNat) (fun i H6 => ∃ (ds : List Int), H6 R = some (.lst (ds.map V.int)) ∧ ds.length = i ∧ (∀ d ∈ ds, d ≤ 1) ∧ Dr t (upd H5 W (.tup xs)) H6) ?_ ?_ ?_
        · exact ⟨[], upd_same, rfl, by simp, Dr.new d6.tape hR⟩
        · rintro i H6 hi ⟨ds, e2, hl2, hds, d7⟩
          refine ⟨rfl, yes_ ⟨_, rfl, t, 2, rfl, d7.tape, by decide, fun z H7 z0 z1 d8 => ?_⟩⟩
          have e2' := d8.keep _ _ e2 nR.symm
          refine ⟨_, e2', small1000 (by rw [List.length_map]; omega), ds ++ [z], by rw [upd_same]; simp, by simp [hl2], ?_, Dr.upd (d7.trans d8) nR hR⟩
          intro d hd
          rcases List.mem_append.mp hd with hd | hd
          · exact hds d hd
          · simp at hd; omega
        · rintro H6 ⟨ds, e2, hl2, hds, d7⟩
          have hW6 := Dp.tups (d7.tups d6.tape) _ (by rw [nl]; exact nl_ways ws) hWd
          refine ⟨_, rfl, _, rfl, W, R, ws, ds, n, only, rfl, hW6, SqL.of e2, by omega, hws, hne, hl2, hds, fun H7 sm7 => ?_⟩
          refine ⟨_, rfl, iteF ?_⟩
          refine ⟨_, rfl, _, rfl, n, rfl, by omega, by omega, fun L0 h0 => ?_⟩
          refine lc_accR (fun j => (List.replicate j (0 : Int)).map V.int) h0 rfl (fun i hi => small1000 (by simp; omega)) (fun i H8 R1 R2 hi sm8 g1 g2 => ⟨rfl, yes_ (g2 _ (by simp [List.replicate_succ']))⟩) ?_
          have smL : Same H7 (upd H7 L0 (.lst ((List.replicate n.toNat (0 : Int)).map V.int))) := fun c u e => by rw [upd_ne (ne_of_none e h0)]; exact e
          have sm8 := Same.trans sm7 smL
          refine ⟨W, L0, ws, List.replicate n.toNat 0, n, only, rfl, Dp.same sm8 _ hW6, SqL.of upd_same, by omega, hws, hne, by simp, fun d hd => by rw [(List.mem_replicate.mp hd).2]; decide, fun H9 sm9 => ?_⟩
          have sm10 := Same.trans sm8 sm9
          refine ⟨_, rfl, iteF ?_⟩
          refine ⟨_, rfl, _, rfl, n, rfl, by omega, by omega, fun L1 h1 => ?_⟩
          refine lc_accR (fun j => (List.replicate j (1 : Int)).map V.int) h1 rfl (fun i hi => small1000 (by simp; omega)) (fun i H8 R1 R2 hi sm8 g1 g2 => ⟨rfl, yes_ (g2 _ (by simp [List.replicate_succ']))⟩) ?_
          have smL1 : Same H9 (upd H9 L1 (.lst ((List.replicate n.toNat (1 : Int)).map V.int))) := fun c u e => by rw [upd_ne (ne_of_none e h1)]; exact e
          have sm11 := Same.trans sm10 smL1
          refine ⟨W, L1, ws, List.replicate n.toNat 1, n, only, rfl, Dp.same sm11 _ hW6, SqL.of upd_same, by omega, hws, hne, by simp, fun d hd => by rw [(List.mem_replicate.mp hd).2]; decide, fun H12 sm12 => ?_⟩
          have sm13 := Same.trans sm11 sm12
          refine ⟨_, rfl, iteT ?_⟩
          obtain ⟨W', xs', eW, hWT, hWx⟩ := (Dp.same sm13 _ hW6).tup_inv
          cases eW
          refine ⟨_, rfl, _, rfl, -1, rfl, rfl, W, _, rfl, hWT, fun p hp => ?_⟩
          have smp : Same H12 (upd H12 p (.tup xs'.reverse)) := fun c u e => by rw [upd_ne (ne_of_none e hp)]; exact e
          refine ⟨_, rfl, p, R, ws.reverse, ds, n, only, rfl, .tup (SqT.of upd_same) ?_, Same.seq (Same.trans sm13 smp) (SqL.of e2), by omega, fun y hy => hws y (List.mem_reverse.mp hy), by simpa using hne, hl2, hds, fun H14 _ => k H14⟩
          rw [List.map_reverse]
          exact DpAll.same smp _ (DpAll_reverse hWx)
end Kn

set_option Elab.async false
set_option maxRecDepth 100000
set_option linter.all false
namespace Kn
open PySem L2
theorem all_mk {l : PySem.W.OpenLaw} {w : World} {K : PySem.W.Frag} {h : Heap} {mg : Str → Option Value} {fa : Addr} (X : K.In h) (G : h.Ns mainGlobals mg) (hfa : mg "law" = some (.ref fa))
    {f1 f2 f3 f4 f5 f6 f7 f8 f9 : Addr} {od1 an1 od2 an2 od3 an3 od4 an4 od5 an5 od6 an6 od7 an7 od8 an8 od9 an9 : Option Addr} {sl1 sl2 sl3 sl4 sl5 sl6 sl7 sl8 sl9 : Array (Option Value)} {oc1 kV1 dc1 pm1 cd1 ct1 oc2 kV2 dc2 pm2 cd2 ct2 oc3 kV3 dc3 pm3 cd3 ct3 oc4 kV4 dc4 pm4 cd4 ct4 oc5 kV5 dc5 pm5 cd5 ct5 oc6 kV6 dc6 pm6 cd6 ct6 oc7 kV7 dc7 pm7 cd7 ct7 oc8 kV8 dc8 pm8 cd8 ct8 oc9 kV9 dc9 pm9 cd9 ct9 : Value} {u_FOUND : Value}
    (a1 : PySem.W.nsIn K mainGlobals "node_need" = some (some (.ref f1))) (l1 : K.lookup f1 = some ⟨oc1, od1, .func (PySem.W.fnOf "node_need" "node_need" (defArgs s_node_need) (defBody s_node_need) (defScope s_node_need) .none kV1 dc1 pm1 an1 cd1 ct1), sl1⟩) (c1 : PySem.W.codeIn K cd1 "node_need" = true) (k1 : PySem.W.keepIn K (.ref f1) = true)
    (a2 : PySem.W.nsIn K mainGlobals "own_need" = some (some (.ref f2))) (l2 : K.lookup f2 = some ⟨oc2, od2, .func (PySem.W.fnOf "own_need" "own_need" (defArgs s_own_need) (defBody s_own_need) (defScope s_own_need) .none kV2 dc2 pm2 an2 cd2 ct2), sl2⟩) (c2 : PySem.W.codeIn K cd2 "own_need" = true) (k2 : PySem.W.keepIn K (.ref f2) = true)
    (a3 : PySem.W.nsIn K mainGlobals "_law_cell" = some (some (.ref f3))) (l3 : K.lookup f3 = some ⟨oc3, od3, .func (PySem.W.fnOf "_law_cell" "_law_cell" (defArgs s__law_cell) (defBody s__law_cell) (defScope s__law_cell) .none kV3 dc3 pm3 an3 cd3 ct3), sl3⟩) (c3 : PySem.W.codeIn K cd3 "_law_cell" = true) (k3 : PySem.W.keepIn K (.ref f3) = true)
    (a4 : PySem.W.nsIn K mainGlobals "_law_tape" = some (some (.ref f4))) (l4 : K.lookup f4 = some ⟨oc4, od4, .func (PySem.W.fnOf "_law_tape" "_law_tape" (defArgs s__law_tape) (defBody s__law_tape) (defScope s__law_tape) .none kV4 dc4 pm4 an4 cd4 ct4), sl4⟩) (c4 : PySem.W.codeIn K cd4 "_law_tape" = true) (k4 : PySem.W.keepIn K (.ref f4) = true)
    (a5 : PySem.W.nsIn K mainGlobals "_law_take" = some (some (.ref f5))) (l5 : K.lookup f5 = some ⟨oc5, od5, .func (PySem.W.fnOf "_law_take" "_law_take" (defArgs s__law_take) (defBody s__law_take) (defScope s__law_take) .none kV5 dc5 pm5 an5 cd5 ct5), sl5⟩) (c5 : PySem.W.codeIn K cd5 "_law_take" = true) (k5 : PySem.W.keepIn K (.ref f5) = true)
    (a6 : PySem.W.nsIn K mainGlobals "_law_adds" = some (some (.ref f6))) (l6 : K.lookup f6 = some ⟨oc6, od6, .func (PySem.W.fnOf "_law_adds" "_law_adds" (defArgs s__law_adds) (defBody s__law_adds) (defScope s__law_adds) .none kV6 dc6 pm6 an6 cd6 ct6), sl6⟩) (c6 : PySem.W.codeIn K cd6 "_law_adds" = true) (k6 : PySem.W.keepIn K (.ref f6) = true)
    (a7 : PySem.W.nsIn K mainGlobals "_law_some_way" = some (some (.ref f7))) (l7 : K.lookup f7 = some ⟨oc7, od7, .func (PySem.W.fnOf "_law_some_way" "_law_some_way" (defArgs s__law_some_way) (defBody s__law_some_way) (defScope s__law_some_way) .none kV7 dc7 pm7 an7 cd7 ct7), sl7⟩) (c7 : PySem.W.codeIn K cd7 "_law_some_way" = true) (k7 : PySem.W.keepIn K (.ref f7) = true)
    (a8 : PySem.W.nsIn K mainGlobals "_law_answer" = some (some (.ref f8))) (l8 : K.lookup f8 = some ⟨oc8, od8, .func (PySem.W.fnOf "_law_answer" "_law_answer" (defArgs s__law_answer) (defBody s__law_answer) (defScope s__law_answer) .none kV8 dc8 pm8 an8 cd8 ct8), sl8⟩) (c8 : PySem.W.codeIn K cd8 "_law_answer" = true) (k8 : PySem.W.keepIn K (.ref f8) = true)
    (a9 : PySem.W.nsIn K mainGlobals "law" = some (some (.ref f9))) (l9 : K.lookup f9 = some ⟨oc9, od9, .func (PySem.W.fnOf "law" "law" (defArgs s_law) (defBody s_law) (defScope s_law) .none kV9 dc9 pm9 an9 cd9 ct9), sl9⟩) (c9 : PySem.W.codeIn K cd9 "law" = true) (k9 : PySem.W.keepIn K (.ref f9) = true)
    (q_FOUND : PySem.W.nsIn K mainGlobals "FOUND" = some (some u_FOUND)) (r_FOUND : RelV (.str "found") u_FOUND)
    (z_len : PySem.W.nsIn K mainGlobals "len" = some none)
    (z_int : PySem.W.nsIn K mainGlobals "int" = some none)
    (z_range : PySem.W.nsIn K mainGlobals "range" = some none)
    (z_min : PySem.W.nsIn K mainGlobals "min" = some none)
    (z_sum : PySem.W.nsIn K mainGlobals "sum" = some none)
    (z_tuple : PySem.W.nsIn K mainGlobals "tuple" = some none)
    (z_list : PySem.W.nsIn K mainGlobals "list" = some none)
    (z_isinstance : PySem.W.nsIn K mainGlobals "isinstance" = some none)
    (z_bool : PySem.W.nsIn K mainGlobals "bool" = some none) :
    ∃ fd : FuncData, (∀ (s : Shared) (v : Value), BindsTo s fd ⟨[v], []⟩ [("_law_script", v)]) ∧ ∀ base : Heap, K.In base → base.Ns mainGlobals mg → FnOk l.prog w K mg base CX0 4 fa fd ["_law_script"] (spLaw K) := by
  have e := hfa.symm.trans (PySem.W.mg_of X G a9)
  cases e
  have FL := fun_mk (st := s_law) l9 c9 k9
  have F_node_need : Fz K mg "node_need" s_node_need P_node_need := ⟨f1, _, fun_mk (st := s_node_need) l1 c1 k1, PySem.W.mg_of X G a1, (fun_mk (st := s_node_need) l1 c1 k1).binds (ps := P_node_need) fun _ _ _ _ _ _ us hl => match us, hl with | [_, _, _], _ => rfl⟩
  have F_own_need : Fz K mg "own_need" s_own_need P_own_need := ⟨f2, _, fun_mk (st := s_own_need) l2 c2 k2, PySem.W.mg_of X G a2, (fun_mk (st := s_own_need) l2 c2 k2).binds (ps := P_own_need) fun _ _ _ _ _ _ us hl => match us, hl with | [_, _], _ => rfl⟩
  have F__law_cell : Fz K mg "_law_cell" s__law_cell P__law_cell := ⟨f3, _, fun_mk (st := s__law_cell) l3 c3 k3, PySem.W.mg_of X G a3, (fun_mk (st := s__law_cell) l3 c3 k3).binds (ps := P__law_cell) fun _ _ _ _ _ _ us hl => match us, hl with | [_, _], _ => rfl⟩
  have F__law_tape : Fz K mg "_law_tape" s__law_tape P__law_tape := ⟨f4, _, fun_mk (st := s__law_tape) l4 c4 k4, PySem.W.mg_of X G a4, (fun_mk (st := s__law_tape) l4 c4 k4).binds (ps := P__law_tape) fun _ _ _ _ _ _ us hl => match us, hl with | [_, _, _], _ => rfl⟩
  have F__law_take : Fz K mg "_law_take" s__law_take P__law_take := ⟨f5, _, fun_mk (st := s__law_take) l5 c5 k5, PySem.W.mg_of X G a5, (fun_mk (st := s__law_take) l5 c5 k5).binds (ps := P__law_take) fun _ _ _ _ _ _ us hl => match us, hl with | [_, _], _ => rfl⟩
  have F__law_adds : Fz K mg "_law_adds" s__law_adds P__law_adds := ⟨f6, _, fun_mk (st := s__law_adds) l6 c6 k6, PySem.W.mg_of X G a6, (fun_mk (st := s__law_adds) l6 c6 k6).binds (ps := P__law_adds) fun _ _ _ _ _ _ us hl => match us, hl with | [_, _, _], _ => rfl⟩
  have F__law_some_way : Fz K mg "_law_some_way" s__law_some_way P__law_some_way := ⟨f7, _, fun_mk (st := s__law_some_way) l7 c7 k7, PySem.W.mg_of X G a7, (fun_mk (st := s__law_some_way) l7 c7 k7).binds (ps := P__law_some_way) fun _ _ _ _ _ _ us hl => match us, hl with | [_, _, _], _ => rfl⟩
  have F__law_answer : Fz K mg "_law_answer" s__law_answer P__law_answer := ⟨f8, _, fun_mk (st := s__law_answer) l8 c8 k8, PySem.W.mg_of X G a8, (fun_mk (st := s__law_answer) l8 c8 k8).binds (ps := P__law_answer) fun _ _ _ _ _ _ us hl => match us, hl with | [_, _], _ => rfl⟩
  have cn_FOUND : ∃ u, mg "FOUND" = some u ∧ RelV (.str "found") u := ⟨u_FOUND, PySem.W.mg_of X G q_FOUND, r_FOUND⟩
  have bn_len : mg "len" = none := PySem.W.mg_none_of X G z_len
  have bn_int : mg "int" = none := PySem.W.mg_none_of X G z_int
  have bn_range : mg "range" = none := PySem.W.mg_none_of X G z_range
  have bn_min : mg "min" = none := PySem.W.mg_none_of X G z_min
  have bn_sum : mg "sum" = none := PySem.W.mg_none_of X G z_sum
  have bn_tuple : mg "tuple" = none := PySem.W.mg_none_of X G z_tuple
  have bn_list : mg "list" = none := PySem.W.mg_none_of X G z_list
  have bn_isinstance : mg "isinstance" = none := PySem.W.mg_none_of X G z_isinstance
  have bn_bool : mg "bool" = none := PySem.W.mg_none_of X G z_bool
  have T := (⟨⟨⟨bn_len, bn_int, bn_range⟩, cn_FOUND⟩, bn_min, bn_sum, bn_tuple, bn_list, bn_isinstance, bn_bool⟩ : TxtC K mg)
  refine ⟨PySem.W.fnOf "law" "law" (defArgs s_law) (defBody s_law) (defScope s_law) .none kV9 dc9 pm9 an9 cd9 ct9, fun s v => .of_eq rfl, fun base _ _ => ?_⟩
  have G1 := ok__law_take (P := l.prog) (w := w) (base := base) F__law_take T.toTxt
  have G2 := ok__law_cell (P := l.prog) (w := w) (base := base) F__law_cell T.toTxt
  have G3 := ok__law_tape F__law_tape T.toTxt G2
  have G4 := ok_node_need (P := l.prog) (w := w) (base := base) F_node_need T.toTxtN
  have G5 := ok_own_need F_own_need T.toTxtN G4
  have G6 := ok__law_adds (P := l.prog) (w := w) (base := base) F__law_adds T
  have G7 := ok__law_some_way F__law_some_way T G1
  have G8 := ok__law_answer F__law_answer T G5 G6
  exact ok_law FL T G3 G1 G7 G8
theorem walk {l : PySem.W.OpenLaw} {q : Program} {loose : List Str} {XP : (Str → Option Value) → Heap → Prop} {YP : World → Heap → Prop} {d : DefRec} {K : Params → PySem.W.Frag} (hn : l.most = some 63) (hdf : d.params.defaults = [])
    (hY : ∀ (w : World) (h : Heap), YP w h → (K w.params).In h)
    (F : ∀ (w : World) (mg : Str → Option Value) (fa : Addr) (h : Heap), (K w.params).In h → h.Ns mainGlobals mg → mg d.name = some (.ref fa) →
      ∃ fd : FuncData, (∀ (s : Shared) (u : Value), BindsTo s fd ⟨[u], []⟩ [("_law_script", u)]) ∧ ∀ base : Heap, (K w.params).In base → base.Ns mainGlobals mg → FnOk l.prog w (K w.params) mg base CX0 4 fa fd ["_law_script"] (spLaw (K w.params))) :
    PySem.W.WalkO q loose XP YP l.row.toRowW d [] (fun f vs => PySem.call f vs) :=
  L2.walk_of (n := 63) (k := 4) (x := "_law_script") (CX := fun _ => CX0) (sp := fun w => spLaw (K w.params)) hn (by decide) hdf ⟨rfl, by decide, by decide⟩ hY F (fun _ _ a ns hl _ hS => ⟨a, ns, rfl, hS, hl, fun _ => rfl⟩) fun _ _ _ _ _ z => z
end Kn
open PySem PySem.W PyProof.Rows
set_option maxRecDepth 100000 in
set_option maxHeartbeats 0 in
theorem PySem.Challenge.cw_kindnotes_k14_what_a_node_needs_holds : PySem.Challenge.rw_kindnotes_k14_what_a_node_needs.Holds := by
  w_on; o_law; k_head; (case hw => w_witness2)
  k_fill
  refine Kn.walk (l := PySem.Challenge.rw_kindnotes_k14_what_a_node_needs) rfl rfl (fun w h Y => PySem.W.kIn_of Y) ?F
  case F =>
    intro w mg fa h KX G hmg
    refine' Kn.all_mk KX G hmg ?a1 ?l1 ?c1 ?k1 ?a2 ?l2 ?c2 ?k2 ?a3 ?l3 ?c3 ?k3 ?a4 ?l4 ?c4 ?k4 ?a5 ?l5 ?c5 ?k5 ?a6 ?l6 ?c6 ?k6 ?a7 ?l7 ?c7 ?k7 ?a8 ?l8 ?c8 ?k8 ?a9 ?l9 ?c9 ?k9 ?q_FOUND ?r_FOUND ?z_len ?z_int ?z_range ?z_min ?z_sum ?z_tuple ?z_list ?z_isinstance ?z_bool
    (case a1 => k_is)
    (case l1 => k_is)
    (case c1 => k_is)
    (case k1 => k_is)
    (case a2 => k_is)
    (case l2 => k_is)
    (case c2 => k_is)
    (case k2 => k_is)
    (case a3 => k_is)
    (case l3 => k_is)
    (case c3 => k_is)
    (case k3 => k_is)
    (case a4 => k_is)
    (case l4 => k_is)
    (case c4 => k_is)
    (case k4 => k_is)
    (case a5 => k_is)
    (case l5 => k_is)
    (case c5 => k_is)
    (case k5 => k_is)
    (case a6 => k_is)
    (case l6 => k_is)
    (case c6 => k_is)
    (case k6 => k_is)
    (case a7 => k_is)
    (case l7 => k_is)
    (case c7 => k_is)
    (case k7 => k_is)
    (case a8 => k_is)
    (case l8 => k_is)
    (case c8 => k_is)
    (case k8 => k_is)
    (case a9 => k_is)
    (case l9 => k_is)
    (case c9 => k_is)
    (case k9 => k_is)
    (case q_FOUND => k_is)
    (case r_FOUND => exact ⟨_, rfl⟩)
    (case z_len => k_is)
    (case z_int => k_is)
    (case z_range => k_is)
    (case z_min => k_is)
    (case z_sum => k_is)
    (case z_tuple => k_is)
    (case z_list => k_is)
    (case z_isinstance => k_is)
    (case z_bool => k_is)
#print axioms PySem.Challenge.cw_kindnotes_k14_what_a_node_needs_holds


