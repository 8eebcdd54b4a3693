import PyProof.Rows.All
import Wide.All
import OpenK.AllK
import Wide.FinOn
import HandS.ForMost
import HandS.ForExc
import HandS.TupAny
import HandS.IsInst
import HandS.Deep
import HandS.Flow
import HandS.Style
import HandS.Small
import HandS.SortInts
import HandS.Conv
import HandS.Codes
import KE.KRevSl
import HandS.FStr
import HandS.Defaults
import HandS.ExcIs
import HandS.MakeKwOnly
import HandS.Star
import PySem.Challenge.RW_kindnotes_k07_rules_are_made
set_option Elab.async false
set_option maxRecDepth 100000
namespace Kn
open PySem L2
/-- a def of the text that stands behind the top under its name, and how its arguments bind -/
structure Fz (K : PySem.W.Frag) (mg : Str → Option Value) (x : Str) (st : Stmt) (ps : List Str) : Prop where
  ex : ∃ (f : Addr) (fd : FuncData), Fun K x x st f fd ∧ mg x = some (.ref f) ∧ Binds K fd ps []
/-- a def by its promise -/
structure Fx (P : Program) (w : World) (K : PySem.W.Frag) (mg : Str → Option Value) (base : Heap) (CX : CXT) (x : Str) (k : Nat) (ps : List Str) (sp : Sp) : Prop where
  ex : ∃ (f : Addr) (fd : FuncData), FnOk P w K mg base CX k f fd ps sp ∧ mg x = some (.ref f) ∧ PySem.W.keepIn K (.ref f) = true ∧ Binds K fd ps []
theorem Fx.mono {P : Program} {w : World} {K : PySem.W.Frag} {mg : Str → Option Value} {base : Heap} {CX : CXT} {x : Str} {j k : Nat} {ps : List Str} {sp : Sp} (F : Fx P w K mg base CX x j ps sp) (h : j ≤ k) : Fx P w K mg base CX x k ps sp :=
  let ⟨f, fd, a, b⟩ := F.ex
  ⟨f, fd, a.mono h, b⟩
theorem Fz.ok {P : Program} {w : World} {K : PySem.W.Frag} {mg : Str → Option Value} {base : Heap} {x : Str} {st : Stmt} {ps N : List Str} {k : Nat} {sp : Sp} (F : Fz K mg x st ps) (S : FnScope N ps (defScope st)) (len : ∀ vs H Q E, sp vs H Q E → vs.length = ps.length)
    (hbody : ∀ (f : Addr) (cdv : Value) (A : Around) (outer : List Env) (s : Shared) (H : Hp) (vs : List V) (Q : VK) (E : XK), Room k (A.deeper (PyProof.Rows.envOfC x (defScope st) s.heap.objs.size f cdv)) → sp vs H Q E →
      ∃ t, PSs (cxOf CX0 P w K mg base N x (defScope st) f cdv A outer s H E).nox (defBody st) t ∧ t { nx := fun _ H' => Q .non H', rt := Q } (start N vs) H) : Fx P w K mg base CX0 x (k + 1) ps sp := by
  obtain ⟨f, fd, F1, m, b⟩ := F.ex
  exact ⟨f, fd, F1.ok S len (hbody f), m, F1.kp, b⟩
/-- a promise that nobody asks -/
theorem Fz.none {P : Program} {w : World} {K : PySem.W.Frag} {mg : Str → Option Value} {base : Heap} {CX : CXT} {x : Str} {st : Stmt} {ps : List Str} {k : Nat} {sp : Sp} (F : Fz K mg x st ps) (h : ∀ vs H Q E, ¬ sp vs H Q E) : Fx P w K mg base CX x k ps sp := by
  obtain ⟨f, fd, F1, m, b⟩ := F.ex
  exact ⟨f, fd, ⟨fun vs H Q E z => (h vs H Q E z).elim, fun A outer s H args us vs Q E _ _ _ _ z => (h vs H Q E z).elim⟩, m, F1.kp, b⟩
section
variable {X : Cx} {k : Nat} {ps : List Str} {sp : Sp} {E : XK} {x : Str} {p pos : Pos} {e : Expr} {es : List Expr} {t : TA} {CX : CXT}
/-- f(e, ..) of such a def, that raises nothing -/
theorem fcall (F : Fx X.prog X.w X.K X.mg X.base CX0 x k ps sp) (hr : Room k X.A) (hg : Gl X x) (ha : PA X (e :: es) t)
    (hdb : (x == ("__debug__" : Str)) = false := by decide) (he : starEach (e :: es) X.env = (false, eval e X.env) :: starEach es X.env := by rfl) (hpl : (backTo pos (starEach es X.env)).any (·.1) = false := by rfl) :
    PE X (.Call (.Name x p) (e :: es) [] pos) (tCall sp [] E0 t) := by
  obtain ⟨f, fd, F1, m, kp, b⟩ := F.ex
  exact pe_call F1 hr hg m kp b .nil pass0 ha hdb he hpl
/-- a module's constant -/
theorem pglob {v : V} (hg : Gl X x) (h : ∃ u, X.mg x = some u ∧ RelV v u) (hd : (x == ("__debug__" : Str)) = false := by decide) : PE X (.Name x pos) (tC v) := by
  obtain ⟨u, hm, r⟩ := h
  exact pe_glob hg hm r hd
end
/-! ### the tape -/
/-- at t a list of ints -/
def Tape (H : Hp) (t : Addr) : Prop := ∃ ns : List Int, H t = some (.lst (ns.map V.int))
/-- behind a draw from the tape at t: the tape is a tape, all else that stood stands -/
structure Dr (t : Addr) (H H' : Hp) : Prop where
  tape : Tape H' t
  keep : ∀ b o, H b = some o → b ≠ t → H' b = some o
theorem Dr.trans {t : Addr} {H H1 H2 : Hp} (a : Dr t H H1) (b : Dr t H1 H2) : Dr t H H2 := ⟨b.tape, fun c o h n => b.keep c o (a.keep c o h n) n⟩
theorem Dr.refl {t : Addr} {H : Hp} (a : Tape H t) : Dr t H H := ⟨a, fun _ _ h _ => h⟩
theorem Tape.ne {H : Hp} {t b : Addr} (h : Tape H t) (hb : H b = none) : t ≠ b := by
  obtain ⟨ns, h⟩ := h
  exact ne_of_none h hb
/-- a new object beside the tape -/
theorem Dr.new {t : Addr} {H : Hp} {p : Addr} {o : HO} (a : Tape H t) (hp : H p = none) : Dr t H (upd H p o) := by
  have n := a.ne hp
  refine ⟨?_, fun b u h nb => ?_⟩
  · obtain ⟨ns, h⟩ := a
    exact ⟨ns, by rw [upd_ne n]; exact h⟩
  · rw [upd_ne (ne_of_none h hp)]
    exact h
theorem Dr.put {t : Addr} {H : Hp} (ns : List Int) : Dr t H (upd H t (.lst (ns.map V.int))) := ⟨⟨ns, upd_same⟩, fun b o h n => by rw [upd_ne n]; exact h⟩
/-- a change at an address that did not stand at the entry -/
theorem Dr.upd {t : Addr} {H H1 : Hp} {l : Addr} {o : HO} (d : Dr t H H1) (n : t ≠ l) (hl : H l = none) : Dr t H (upd H1 l o) := by
  refine ⟨?_, fun b u h nb => ?_⟩
  · obtain ⟨ns, h⟩ := d.tape
    exact ⟨ns, by rw [upd_ne n]; exact h⟩
  · rw [upd_ne (ne_of_none h hl)]
    exact d.keep b u h nb
def spTake : Sp := fun vs H Q _ => ∃ (t : Addr) (m : Int), vs = [.ref t, .int m] ∧ Tape H t ∧ 0 < m ∧ ∀ (r : Int) (H' : Hp), 0 ≤ r → r < m → Dr t H H' → Q (.int r) H'
/-! ### the rules with the written part by name -/
section
variable {X : Cx}
theorem ix_listK (K : PySem.W.Frag) (h : X.K = K := by rfl) : IxR X (rIxL K) := by subst h; exact ix_list
theorem ix_tupK (K : PySem.W.Frag) (h : X.K = K := by rfl) : IxR X (rIxT K) := by subst h; exact ix_tup
theorem ix_seqK (K : PySem.W.Frag) (h : X.K = K := by rfl) : IxR X (rIx K) := by subst h; exact ix_seq
theorem sl_listK (K : PySem.W.Frag) (h : X.K = K := by rfl) : SlR X (rSlL K) := by subst h; exact sl_list
theorem sl_tupAK (K : PySem.W.Frag) (h : X.K = K := by rfl) : SlR X (rSlA K) := by subst h; exact sl_tupA
theorem op_in_seqK (K : PySem.W.Frag) (h : X.K = K := by rfl) : OpR X (compareOp .In) (rIn K false) := by subst h; exact op_in_seq
theorem op_notIn_seqK (K : PySem.W.Frag) (h : X.K = K := by rfl) : OpR X (compareOp .NotIn) (rIn K true) := by subst h; exact op_notIn_seq
theorem op_catAK (K : PySem.W.Frag) (h : X.K = K := by rfl) : OpR X (binaryOp .Add) (rCatA K) := by subst h; exact op_catA
theorem cr_sortedK (K : PySem.W.Frag) (h : X.K = K := by rfl) : CallR X (.builtin "sorted") (rSorted K) := by subst h; exact cr_sorted
theorem call_isi1K (K : PySem.W.Frag) (h : X.K = K := by rfl) : CallR X (.builtin "isinstance") (rIsi K) := by subst h; exact call_isi
theorem call_isiTK (K : PySem.W.Frag) (h : X.K = K := by rfl) : CallR X (.builtin "isinstance") (rIsiT K) := by subst h; exact call_isiT
theorem op_eqDK (K : PySem.W.Frag) (hu : X.A.units + 64 < cLine) (h : X.K = K := by rfl) : OpR X (compareOp .Eq) (rEqD K) := by subst h; exact op_eqD hu
theorem op_neDK (K : PySem.W.Frag) (hu : X.A.units + 64 < cLine) (h : X.K = K := by rfl) : OpR X (compareOp .NotEq) (rNeD K) := by subst h; exact op_neD hu
theorem op_inDK (K : PySem.W.Frag) (hu : X.A.units + 65 < cLine) (h : X.K = K := by rfl) : OpR X (compareOp .In) (rInD K) := by subst h; exact op_inD hu
theorem op_notInDK (K : PySem.W.Frag) (hu : X.A.units + 65 < cLine) (h : X.K = K := by rfl) : OpR X (compareOp .NotIn) (rNotInD K) := by subst h; exact op_notInD hu
theorem mt_indexDK (K : PySem.W.Frag) (hu : X.A.units + 65 < cLine) (h : X.K = K := by rfl) : MtR X "list.index" (rIndexD K) := by subst h; exact mt_indexD hu
theorem cr_sumK (K : PySem.W.Frag) (hu : X.calm = true) (h : X.K = K := by rfl) : CallR X (.builtin "sum") (rSum K) := by subst h; exact cr_sum hu
theorem cr_allK (K : PySem.W.Frag) (hu : X.calm = true) (h : X.K = K := by rfl) : CallR X (.builtin "all") (rAll K) := by subst h; exact cr_all hu
theorem cr_anyK (K : PySem.W.Frag) (hu : X.calm = true) (h : X.K = K := by rfl) : CallR X (.builtin "any") (rAny K) := by subst h; exact cr_any hu
theorem cr_minK (K : PySem.W.Frag) (hu : X.calm = true) (h : X.K = K := by rfl) : CallR X (.builtin "min") (rMin K) := by subst h; exact cr_min hu
theorem cr_maxK (K : PySem.W.Frag) (hu : X.calm = true) (h : X.K = K := by rfl) : CallR X (.builtin "max") (rMax K) := by subst h; exact cr_max hu
def rLenSq (K : PySem.W.Frag) : List V → Hp → VK → Prop := fun xs H Q => ∃ p ys, xs = [.ref p] ∧ (SqL K H p ys ∨ SqT K H p ys) ∧ Q (.int ys.length) H
theorem call_len_seqK (K : PySem.W.Frag) (h : X.K = K := by rfl) : CallR X (.builtin "len") (rLenSq K) := by subst h; exact call_len_seq
def rTupleOf (K : PySem.W.Frag) : List V → Hp → VK → Prop := fun xs H Q => ∃ p ys, xs = [.ref p] ∧ ((SqL K H p ys ∧ ∀ l, H l = none → Q (.ref l) (upd H l (.tup ys))) ∨ (SqT K H p ys ∧ Q (.ref p) H))
theorem call_tuple_ofK (K : PySem.W.Frag) (h : X.K = K := by rfl) : CallR X (.type "tuple") (rTupleOf K) := by subst h; exact call_tuple_of
def rListOf (K : PySem.W.Frag) : List V → Hp → VK → Prop := fun xs H Q => ∃ p ys, xs = [.ref p] ∧ (SqL K H p ys ∨ SqT K H p ys) ∧ ∀ l, H l = none → Q (.ref l) (upd H l (.lst ys))
theorem call_list_ofK (K : PySem.W.Frag) (h : X.K = K := by rfl) : CallR X (.type "list") (rListOf K) := by subst h; exact call_list_of
def rJoin (K : PySem.W.Frag) : V → List V → Hp → VK → Prop := fun x xs H Q => ∃ a p, ∃ ys : List Str, x = .str a ∧ xs = [.ref p] ∧ (SqL K H p (ys.map V.str) ∨ SqT K H p (ys.map V.str)) ∧ (ys.map (·.length)).sum + ys.length * a.length ≤ 16777216 ∧ Q (.str (Txt.join a ys)) H
theorem mt_joinK (K : PySem.W.Frag) (h : X.K = K := by rfl) : MtR X "str.join" (rJoin K) := by subst h; exact mt_join
variable {T : String} {name : Str} {id : String} {r : V → List V → Hp → VK → Prop} {o e : Expr} {es : List Expr} {to : TE} {t : TA} {apos cpos : Pos} {tg l : Expr} {tl : TE}
theorem pe_bmK (K : PySem.W.Frag) (pa : PlainAttrs T) (slot : Slot T name id) (hty : typeOf (.builtin id) = pure (.type "method_descriptor")) (hm : MtR X id r) (ho : PE X o to) (ha : PA X (e :: es) t) (h : X.K = K := by rfl)
    (hbase : attributeBase o name X.env (eval o X.env) = eval o X.env := by rfl)
    (hfew : ((backTo cpos (starEach (e :: es) X.env)).all (fun x => !x.1) && (backToKw cpos (keywordEach [] X.env)).all (fun x => x.1.isSome)
      && decide ((e :: es).length + ([] : List Keyword).length + (if ([] : List Keyword).isEmpty then 0 else 1) < 30)) = true := by rfl)
    (hline : (apos.endLine == cpos.line) = true := by rfl) (hs : starEach (e :: es) X.env = (false, eval e X.env) :: starEach es X.env := by rfl) (hplain : (backTo cpos (starEach es X.env)).any (·.1) = false := by rfl) :
    PE X (.Call (.Attribute o name apos) (e :: es) [] cpos) (tBM K T r to t) := by subst h; exact pe_bm pa slot hty hm ho ha hbase hfew hline hs hplain
theorem pe_bm0K (K : PySem.W.Frag) (pa : PlainAttrs T) (slot : Slot T name id) (hty : typeOf (.builtin id) = pure (.type "method_descriptor")) (hm : MtR X id r) (ho : PE X o to) (h : X.K = K := by rfl)
    (hbase : attributeBase o name X.env (eval o X.env) = eval o X.env := by rfl) (hline : (apos.endLine == cpos.line) = true := by rfl) : PE X (.Call (.Attribute o name apos) [] [] cpos) (tBM0 K T r to) := by subst h; exact pe_bm0 pa slot hty hm ho hbase hline
theorem pi_listK (K : PySem.W.Frag) (hl : PE X l tl) (h : X.K = K := by rfl) : PI X tg l (iList K tl) := by subst h; exact pi_list hl
theorem pi_tupK (K : PySem.W.Frag) (hl : PE X l tl) (h : X.K = K := by rfl) : PI X tg l (iTup K tl) := by subst h; exact pi_tup hl
end
end Kn

set_option Elab.async false
set_option maxRecDepth 100000
set_option linter.all false
namespace L2
open PySem
/-! ### data under a change of the heap -/
theorem Rd.same {H H' : Hp} {a : Addr} {u : HO} (e : Same H H') (h : Rd H a u) : Rd H' a u := by
  rcases h with h | ⟨o, h⟩
  · exact .inl (e _ _ h)
  · exact .inr ⟨o, e _ _ h⟩
theorem SqT.same {K : PySem.W.Frag} {H H' : Hp} {a : Addr} {xs : List V} (e : Same H H') (h : SqT K H a xs) : SqT K H' a xs := by
  rcases h with h | h
  · exact .inl (Rd.same e h)
  · exact .inr h
mutual
theorem Dp.same {K : PySem.W.Frag} {H H' : Hp} (e : Same H H') : ∀ (d : PyData) {v : V}, Dp K H v d → Dp K H' v d
  | .none, _, .non => .non
  | .bool b, _, .bl _ => .bl b
  | .int i, _, .int _ => .int i
  | .str x, _, .str _ => .str x
  | .list ds, _, .lst h a => .lst (Same.seq e h) (DpAll.same e ds a)
  | .tuple ds, _, .tup h a => .tup (SqT.same e h) (DpAll.same e ds a)
theorem DpAll.same {K : PySem.W.Frag} {H H' : Hp} (e : Same H H') : ∀ (ds : List PyData) {vs : List V}, DpAll K H vs ds → DpAll K H' vs ds
  | [], _, .nil => .nil
  | d :: ds, _, .cons h a => .cons (Dp.same e d h) (DpAll.same e ds a)
end
mutual
/-- no list in it -/
def nl : PyData → Bool
  | .list _ => false
  | .dict _ => false
  | .tuple ds => nlAll ds
  | _ => true
def nlAll : List PyData → Bool
  | [] => true
  | d :: ds => nl d && nlAll ds
end
/-- all tuples stay -/
def Tups (H H' : Hp) : Prop := ∀ b xs, Rd H b (.tup xs) → Rd H' b (.tup xs)
theorem Same.tups {H H' : Hp} (e : Same H H') : Tups H H' := fun _ _ h => Rd.same e h
theorem Tups.trans {H H1 H2 : Hp} (a : Tups H H1) (b : Tups H1 H2) : Tups H H2 := fun c xs h => b c xs (a c xs h)
theorem Tups.refl (H : Hp) : Tups H H := fun _ _ h => h
/-- all but one list stay -/
theorem tups_of {H H' : Hp} {t : Addr} {ys : List V} (ht : H t = some (.lst ys)) (k : ∀ b o, H b = some o → b ≠ t → H' b = some o) : Tups H H' := fun b xs h => by
  rcases h with h | ⟨o, h⟩
  · exact .inl (k _ _ h (ne_of h ht (by intro z; cases z)))
  · exact .inr ⟨o, k _ _ h (ne_of h ht (by intro z; cases z))⟩
theorem tups_upd {H : Hp} {t : Addr} {ys : List V} {o : HO} (ht : H t = some (.lst ys)) : Tups H (upd H t o) := tups_of ht fun b u h n => by rw [upd_ne n]; exact h
theorem same_new {H : Hp} {t : Addr} {o : HO} (ht : H t = none) : Same H (upd H t o) := fun b u h => by rw [upd_ne (ne_of_none h ht)]; exact h
theorem tups_new {H : Hp} {t : Addr} {o : HO} (ht : H t = none) : Tups H (upd H t o) := Same.tups fun b u h => by rw [upd_ne (ne_of_none h ht)]; exact h
mutual
theorem Dp.tups {K : PySem.W.Frag} {H H' : Hp} (e : Tups H H') : ∀ (d : PyData) {v : V}, nl d = true → Dp K H v d → Dp K H' v d
  | .none, _, _, .non => .non
  | .bool b, _, _, .bl _ => .bl b
  | .int i, _, _, .int _ => .int i
  | .str x, _, _, .str _ => .str x
  | .list _, _, n, _ => by simp [nl] at n
  | .dict _, _, n, _ => by simp [nl] at n
  | .tuple ds, _, n, .tup h a => by
    rw [nl] at n
    refine .tup ?_ (DpAll.tups e ds n a)
    rcases h with h | h
    · exact .inl (e _ _ h)
    · exact .inr h
theorem DpAll.tups {K : PySem.W.Frag} {H H' : Hp} (e : Tups H H') : ∀ (ds : List PyData) {vs : List V}, nlAll ds = true → DpAll K H vs ds → DpAll K H' vs ds
  | [], _, _, .nil => .nil
  | d :: ds, _, n, .cons h a => by
    rw [nlAll, Bool.and_eq_true] at n
    exact .cons (Dp.tups e d n.1 h) (DpAll.tups e ds n.2 a)
end
theorem nlAll_mem : ∀ {ds : List PyData}, (∀ d ∈ ds, nl d = true) → nlAll ds = true
  | [], _ => by rw [nlAll]
  | d :: ds, h => by rw [nlAll, h d (by simp), nlAll_mem fun e he => h e (by simp [he])]; rfl
theorem DpAll.len {K : PySem.W.Frag} {H : Hp} : ∀ {vs : List V} {ds : List PyData}, DpAll K H vs ds → vs.length = ds.length
  | _, _, .nil => rfl
  | _, _, .cons _ a => by simp [DpAll.len a]
theorem DpAll.get {K : PySem.W.Frag} {H : Hp} : ∀ {vs : List V} {ds : List PyData} {i : Nat} {v : V}, DpAll K H vs ds → vs[i]? = some v → ∃ d, ds[i]? = some d ∧ Dp K H v d
  | _, _, _, _, .nil, e => by simp at e
  | _, _, 0, _, .cons h _, e => by simp at e; subst e; exact ⟨_, rfl, h⟩
  | _, _, i + 1, v, .cons _ a, e => by
    obtain ⟨d, h1, h2⟩ := DpAll.get (i := i) (v := v) a (by simpa using e)
    exact ⟨d, by simpa using h1, h2⟩
theorem DpAll.of_get {K : PySem.W.Frag} {H : Hp} {vs : List V} {ds : List PyData} {i : Nat} {d : PyData} (a : DpAll K H vs ds) (e : ds[i]? = some d) : ∃ v, vs[i]? = some v ∧ Dp K H v d := by
  have hi : i < vs.length := by rw [a.len]; exact (List.getElem?_eq_some_iff.mp e).1
  obtain ⟨d', h1, h2⟩ := a.get (List.getElem?_eq_getElem hi)
  rw [e] at h1; cases h1
  exact ⟨_, List.getElem?_eq_getElem hi, h2⟩
theorem DpAll.snoc {K : PySem.W.Frag} {H : Hp} : ∀ {vs : List V} {ds : List PyData} {v : V} {d : PyData}, DpAll K H vs ds → Dp K H v d → DpAll K H (vs ++ [v]) (ds ++ [d])
  | _, _, _, _, .nil, h => .cons h .nil
  | _, _, _, _, .cons g a, h => .cons g (DpAll.snoc a h)
theorem DpAll.app {K : PySem.W.Frag} {H : Hp} : ∀ {vs ws : List V} {ds es : List PyData}, DpAll K H vs ds → DpAll K H ws es → DpAll K H (vs ++ ws) (ds ++ es)
  | _, _, _, _, .nil, h => h
  | _, _, _, _, .cons g a, h => .cons g (DpAll.app a h)
theorem DpAll.ints {K : PySem.W.Frag} {H : Hp} : ∀ (ns : List Int), DpAll K H (ns.map V.int) (ns.map PyData.int)
  | [] => .nil
  | n :: ns => .cons (.int n) (DpAll.ints ns)
theorem DpAll.ints_inv {K : PySem.W.Frag} {H : Hp} : ∀ {ns : List Int} {vs : List V}, DpAll K H vs (ns.map PyData.int) → vs = ns.map V.int
  | [], _, .nil => rfl
  | n :: ns, _, .cons (.int _) a => by rw [DpAll.ints_inv a]; rfl
theorem DpAll.strs {K : PySem.W.Frag} {H : Hp} : ∀ (ns : List Str), DpAll K H (ns.map V.str) (ns.map PyData.str)
  | [] => .nil
  | n :: ns => .cons (.str n) (DpAll.strs ns)
theorem DpAll.strs_inv {K : PySem.W.Frag} {H : Hp} : ∀ {ns : List Str} {vs : List V}, DpAll K H vs (ns.map PyData.str) → vs = ns.map V.str
  | [], _, .nil => rfl
  | n :: ns, _, .cons (.str _) a => by rw [DpAll.strs_inv a]; rfl
theorem Dp.tup_inv {K : PySem.W.Frag} {H : Hp} {v : V} {ds : List PyData} (h : Dp K H v (.tuple ds)) : ∃ a xs, v = .ref a ∧ SqT K H a xs ∧ DpAll K H xs ds := by
  cases h with
  | tup h a => exact ⟨_, _, rfl, h, a⟩
theorem Dp.lst_inv {K : PySem.W.Frag} {H : Hp} {v : V} {ds : List PyData} (h : Dp K H v (.list ds)) : ∃ a xs, v = .ref a ∧ SqL K H a xs ∧ DpAll K H xs ds := by
  cases h with
  | lst h a => exact ⟨_, _, rfl, h, a⟩
theorem inV_ints (n : Int) : ∀ (gs : List Int), inV (.int n) (gs.map V.int) = gs.contains n
  | [] => rfl
  | g :: gs => by
    have ih := inV_ints n gs
    unfold inV at *
    rw [List.map_cons, List.any_cons, ih, List.contains_cons]
    show ((g == n) || _) = ((n == g) || _)
    rw [Bool.beq_comm]
theorem flat_ints (gs : List Int) : (gs.map V.int).all flatV = true := by simp [flatV]
theorem DpAll.take {K : PySem.W.Frag} {H : Hp} : ∀ (n : Nat) {vs : List V} {ds : List PyData}, DpAll K H vs ds → DpAll K H (vs.take n) (ds.take n)
  | 0, _, _, _ => by simp; exact .nil
  | _ + 1, _, _, .nil => .nil
  | n + 1, _, _, .cons h a => .cons h (DpAll.take n a)
theorem DpAll.drop {K : PySem.W.Frag} {H : Hp} : ∀ (n : Nat) {vs : List V} {ds : List PyData}, DpAll K H vs ds → DpAll K H (vs.drop n) (ds.drop n)
  | 0, _, _, a => a
  | _ + 1, _, _, .nil => .nil
  | n + 1, _, _, .cons _ a => DpAll.drop n a
end L2
namespace Kn
open PySem L2
theorem Dr.tups {t : Addr} {H H' : Hp} (h : Tape H t) (d : Dr t H H') : Tups H H' := by
  obtain ⟨ns, h⟩ := h
  exact tups_of h d.keep
/-- the type of data -/
def tyD : PyData → String
  | .none => "NoneType"
  | .bool _ => "bool"
  | .int _ => "int"
  | .str _ => "str"
  | .list _ => "list"
  | .tuple _ => "tuple"
  | .dict _ => "dict"
theorem Dp.ty {K : PySem.W.Frag} {H : Hp} : ∀ {v : V} {d : PyData}, Dp K H v d → TyX K H v (.type (tyD d))
  | _, _, .non => .base .non
  | _, _, .bl b => .base (.bl b)
  | _, _, .int i => .base (.int i)
  | _, _, .str x => .base (.str x)
  | _, _, .lst h _ => by
    rcases h with (h | ⟨o, h⟩) | ⟨o, its, n, h, c, _⟩
    · exact .base (.lst h)
    · exact .base (.frz h)
    · exact .kList h c
  | _, _, .tup h _ => by
    rcases h with (h | ⟨o, h⟩) | ⟨o, its, n, h, c, _⟩
    · exact .base (.tup h)
    · exact .fTuple h
    · exact .kTuple h c
theorem seqIdx_nat {r : Int} {n : Nat} (h0 : 0 ≤ r) (h : r.toNat < n) : seqIndex? r n = some r.toNat := by
  have h1 : ¬ r < 0 := by omega
  have h2 : r < n := by omega
  simp [seqIndex?, h1, h0, h2]
theorem map_eraseIdx' {α β : Type} (f : α → β) : ∀ (l : List α) (i : Nat), (l.map f).eraseIdx i = (l.eraseIdx i).map f
  | [], _ => rfl
  | _ :: _, 0 => rfl
  | a :: l, i + 1 => by
    show f a :: (l.map f).eraseIdx i = f a :: (l.eraseIdx i).map f
    rw [map_eraseIdx' f l i]
theorem sIx_nat {n d i : Nat} {z : Int} (e : z = (i : Int)) (h : i ≤ n) : HT.sIx n d (some z) = i := by
  subst e
  rw [show HT.sIx n d (some (i : Int)) = (if (i : Int) < 0 then ((i : Int) + (n : Int)).toNat else min (i : Int).toNat n) from rfl, if_neg (by omega)]
  omega
theorem cut_take {xs : List V} {i : Nat} {z : Int} (e : z = (i : Int)) (h : i ≤ xs.length) : cutV xs none (some z) = xs.take i := by
  unfold cutV
  rw [sIx_nat e h, show HT.sIx xs.length 0 none = 0 from rfl]
  simp
theorem cut_drop {xs : List V} {i : Nat} {z : Int} (e : z = (i : Int)) (h : i ≤ xs.length) : cutV xs (some z) none = xs.drop i := by
  unfold cutV
  rw [sIx_nat e h, show HT.sIx xs.length xs.length none = xs.length from rfl]
  rw [List.take_of_length_le (by simp)]
theorem vstr_eq {a b : Str} (h : decide (V.str a = V.str b) = true) : a = b := by
  have := of_decide_eq_true h
  injection this
theorem vstr_ne {a b : Str} (h : ¬ decide (V.str a = V.str b) = true) : ¬ a = b := fun e => h (by rw [e]; exact decide_eq_true rfl)
/-- the heap without some addresses (those that will be changed) -/
def Hid (A : List Addr) (H : Hp) : Hp := fun b => if b ∈ A then none else H b
theorem Hid.get {A : List Addr} {H : Hp} {b : Addr} {o : HO} (h : H b = some o) (n : b ∉ A) : Hid A H b = some o := by unfold Hid; rw [if_neg n]; exact h
theorem Hid.of {A : List Addr} {H : Hp} {b : Addr} {o : HO} (h : Hid A H b = some o) : H b = some o ∧ b ∉ A := by
  unfold Hid at h
  by_cases c : b ∈ A
  · rw [if_pos c] at h; cases h
  · rw [if_neg c] at h; exact ⟨h, c⟩
theorem Hid.sub {A : List Addr} {H : Hp} : Same (Hid A H) H := fun b o h => (Hid.of h).1
theorem Hid.keep {A : List Addr} {H H' : Hp} (k : ∀ b o, H b = some o → b ∉ A → H' b = some o) : Same (Hid A H) (Hid A H') := fun b o h => Hid.get (k b o (Hid.of h).1 (Hid.of h).2) (Hid.of h).2
theorem Hid.same {A : List Addr} {H H' : Hp} (e : Same H H') : Same (Hid A H) (Hid A H') := Hid.keep fun b o h _ => e b o h
theorem Hid.upd {A : List Addr} {H : Hp} {a : Addr} {o : HO} (ha : a ∈ A) : Same (Hid A H) (Hid A (upd H a o)) := Hid.keep fun b u h n => by
  have nb : b ≠ a := fun z => n (by rw [z]; exact ha)
  rw [upd_ne nb]; exact h
/-- behind a new object, the heap by a name -/
theorem gen_new {H Ha : Hp} {p : Addr} {o : HO} (e : L2.upd H p o = Ha) (hp : H p = none) : Same H Ha ∧ Ha p = some o := by subst e; exact ⟨same_new hp, upd_same⟩
theorem itT {b : Bool} {A B : Prop} (hb : b = true) (h : A) : if b = true then A else B := by rw [if_pos hb]; exact h
theorem itF {b : Bool} {A B : Prop} (hb : b = false) (h : B) : if b = true then A else B := by rw [hb]; exact iteF h
theorem yes_ {σ : St} {H : Hp} {A B : Hp → Prop} (h : A H) : tYes σ H fun b H3 => if b = true then A H3 else B H3 := by
  show if true = true then A H else B H
  exact iteT h
/-! ### comprehensions that only read: the list is xs.filterMap f -/
section
variable {K : PySem.W.Frag} {a : Addr} {xs : List V} {g : TG} {tt : TT} {te : TE} {vs : List Nat} {σ : St} {H1 : Hp} {D : Addr} {Qd : Hp → Prop}
theorem filterMap_take {α β : Type} (f : α → Option β) {xs : List α} {i : Nat} {x : α} (h : xs[i]? = some x) : (xs.take (i + 1)).filterMap f = (xs.take i).filterMap f ++ (f x).toList := by
  have hi := (List.getElem?_eq_some_iff.mp h).1
  have hx : xs[i] = x := (List.getElem?_eq_some_iff.mp h).2
  rw [List.take_succ_eq_append_getElem hi, List.filterMap_append, hx]
  cases e : f x with
  | none => simp [e]
  | some y => simp [e]
theorem lc_pureT (f : V → Option V) (hD : H1 D = none) (ha : SqT K H1 a xs) (hz : xs.length < sizeLine)
    (hs : ∀ (i : Nat) x H (R1 : Hp → Prop) (R : V → Hp → Prop), xs[i]? = some x → Same H1 H → (f x = none → R1 H) → (∀ y, f x = some y → R y H) → g x (wipe σ vs) H fun σ2 H2 => wipe σ2 vs = wipe σ vs ∧ tt σ2 H2 fun b H3 => if b = true then te σ2 H3 R else R1 H3)
    (hd : Qd (upd H1 D (.lst (xs.filterMap f)))) :
    ∃ W : Nat → Nat → Hp → Prop, (∃ m, W 0 m (upd H1 D (.lst []))) ∧ ∀ i m H, W i m H →
      ((Itt K a).stop i H ∧ Qd H) ∨ ((Itt K a).go i H ∧ ∃ Nx : Hp → Prop, (∀ H', Nx H' → ∃ m', m' < m ∧ W (i + 1) m' H') ∧ ∀ x H', (Itt K a).yld i H x H' → g x (wipe σ vs) H' fun σ2 H2 => wipe σ2 vs = wipe σ vs ∧ tt σ2 H2 fun b H3 =>
        if b = true then te σ2 H3 fun y H4 => ∃ acc, H4 D = some (.lst acc) ∧ acc.length < sizeLine ∧ Nx (upd H4 D (.lst (acc ++ [y]))) else Nx H3) := by
  have sm : ∀ o, Same H1 (upd H1 D o) := fun o b u e => by rw [upd_ne (ne_of_none e hD)]; exact e
  refine lc_tup (xs := xs) (fun i H => H = upd H1 D (.lst ((xs.take i).filterMap f))) ?_ ?_ ?_ ?_
  · simp
  · rintro i H _ rfl; exact SqT.same (sm _) ha
  · rintro i x H hx rfl
    refine hs i x _ _ _ hx (sm _) (fun e => ?_) fun y e => ?_
    · rw [filterMap_take f hx, e]; simp
    · refine ⟨_, upd_same, ?_, ?_⟩
      · refine Nat.lt_of_le_of_lt (List.length_filterMap_le _ _) ?_
        rw [List.length_take]
        omega
      · rw [filterMap_take f hx, e, upd_upd]; rfl
  · rintro H rfl
    rw [List.take_length]; exact hd
theorem lc_pureL (f : V → Option V) (hD : H1 D = none) (ha : SqL K H1 a xs) (hz : xs.length < sizeLine)
    (hs : ∀ (i : Nat) x H (R1 : Hp → Prop) (R : V → Hp → Prop), xs[i]? = some x → Same H1 H → (f x = none → R1 H) → (∀ y, f x = some y → R y H) → g x (wipe σ vs) H fun σ2 H2 => wipe σ2 vs = wipe σ vs ∧ tt σ2 H2 fun b H3 => if b = true then te σ2 H3 R else R1 H3)
    (hd : Qd (upd H1 D (.lst (xs.filterMap f)))) :
    ∃ W : Nat → Nat → Hp → Prop, (∃ m, W 0 m (upd H1 D (.lst []))) ∧ ∀ i m H, W i m H →
      ((Itl K a).stop i H ∧ Qd H) ∨ ((Itl K a).go i H ∧ ∃ Nx : Hp → Prop, (∀ H', Nx H' → ∃ m', m' < m ∧ W (i + 1) m' H') ∧ ∀ x H', (Itl K a).yld i H x H' → g x (wipe σ vs) H' fun σ2 H2 => wipe σ2 vs = wipe σ vs ∧ tt σ2 H2 fun b H3 =>
        if b = true then te σ2 H3 fun y H4 => ∃ acc, H4 D = some (.lst acc) ∧ acc.length < sizeLine ∧ Nx (upd H4 D (.lst (acc ++ [y]))) else Nx H3) := by
  have sm : ∀ o, Same H1 (upd H1 D o) := fun o b u e => by rw [upd_ne (ne_of_none e hD)]; exact e
  refine lc_list (xs := xs) (fun i H => H = upd H1 D (.lst ((xs.take i).filterMap f))) ?_ ?_ ?_ ?_
  · simp
  · rintro i H _ rfl; exact Same.seq (sm _) ha
  · rintro i x H hx rfl
    refine hs i x _ _ _ hx (sm _) (fun e => ?_) fun y e => ?_
    · rw [filterMap_take f hx, e]; simp
    · refine ⟨_, upd_same, ?_, ?_⟩
      · refine Nat.lt_of_le_of_lt (List.length_filterMap_le _ _) ?_
        rw [List.length_take]
        omega
      · rw [filterMap_take f hx, e, upd_upd]; rfl
  · rintro H rfl
    rw [List.take_length]; exact hd
/-- .. the list after i turns is acc i -/
theorem lc_accT (acc : Nat → List V) (hD : H1 D = none) (ha : SqT K H1 a xs) (h0 : acc 0 = []) (hz : ∀ i, i < xs.length → (acc i).length < sizeLine)
    (hs : ∀ (i : Nat) x H (R1 : Hp → Prop) (R : V → Hp → Prop), xs[i]? = some x → Same H1 H → (acc (i + 1) = acc i → R1 H) → (∀ y, acc (i + 1) = acc i ++ [y] → R y H) → g x (wipe σ vs) H fun σ2 H2 => wipe σ2 vs = wipe σ vs ∧ tt σ2 H2 fun b H3 => if b = true then te σ2 H3 R else R1 H3)
    (hd : Qd (upd H1 D (.lst (acc xs.length)))) :
    ∃ W : Nat → Nat → Hp → Prop, (∃ m, W 0 m (upd H1 D (.lst []))) ∧ ∀ i m H, W i m H →
      ((Itt K a).stop i H ∧ Qd H) ∨ ((Itt K a).go i H ∧ ∃ Nx : Hp → Prop, (∀ H', Nx H' → ∃ m', m' < m ∧ W (i + 1) m' H') ∧ ∀ x H', (Itt K a).yld i H x H' → g x (wipe σ vs) H' fun σ2 H2 => wipe σ2 vs = wipe σ vs ∧ tt σ2 H2 fun b H3 =>
        if b = true then te σ2 H3 fun y H4 => ∃ acc, H4 D = some (.lst acc) ∧ acc.length < sizeLine ∧ Nx (upd H4 D (.lst (acc ++ [y]))) else Nx H3) := by
  have sm : ∀ o, Same H1 (upd H1 D o) := fun o b u e => by rw [upd_ne (ne_of_none e hD)]; exact e
  refine lc_tup (xs := xs) (fun i H => H = upd H1 D (.lst (acc i))) ?_ ?_ ?_ ?_
  · rw [h0]
  · rintro i H _ rfl; exact SqT.same (sm _) ha
  · rintro i x H hx rfl
    refine hs i x _ _ _ hx (sm _) (fun e => by rw [e]) fun y e => ?_
    exact ⟨_, upd_same, hz i (List.getElem?_eq_some_iff.mp hx).1, by rw [e, upd_upd]⟩
  · rintro H rfl
    exact hd
theorem lc_accL (acc : Nat → List V) (hD : H1 D = none) (ha : SqL K H1 a xs) (h0 : acc 0 = []) (hz : ∀ i, i < xs.length → (acc i).length < sizeLine)
    (hs : ∀ (i : Nat) x H (R1 : Hp → Prop) (R : V → Hp → Prop), xs[i]? = some x → Same H1 H → (acc (i + 1) = acc i → R1 H) → (∀ y, acc (i + 1) = acc i ++ [y] → R y H) → g x (wipe σ vs) H fun σ2 H2 => wipe σ2 vs = wipe σ vs ∧ tt σ2 H2 fun b H3 => if b = true then te σ2 H3 R else R1 H3)
    (hd : Qd (upd H1 D (.lst (acc xs.length)))) :
    ∃ W : Nat → Nat → Hp → Prop, (∃ m, W 0 m (upd H1 D (.lst []))) ∧ ∀ i m H, W i m H →
      ((Itl K a).stop i H ∧ Qd H) ∨ ((Itl K a).go i H ∧ ∃ Nx : Hp → Prop, (∀ H', Nx H' → ∃ m', m' < m ∧ W (i + 1) m' H') ∧ ∀ x H', (Itl K a).yld i H x H' → g x (wipe σ vs) H' fun σ2 H2 => wipe σ2 vs = wipe σ vs ∧ tt σ2 H2 fun b H3 =>
        if b = true then te σ2 H3 fun y H4 => ∃ acc, H4 D = some (.lst acc) ∧ acc.length < sizeLine ∧ Nx (upd H4 D (.lst (acc ++ [y]))) else Nx H3) := by
  have sm : ∀ o, Same H1 (upd H1 D o) := fun o b u e => by rw [upd_ne (ne_of_none e hD)]; exact e
  refine lc_list (xs := xs) (fun i H => H = upd H1 D (.lst (acc i))) ?_ ?_ ?_ ?_
  · rw [h0]
  · rintro i H _ rfl; exact Same.seq (sm _) ha
  · rintro i x H hx rfl
    refine hs i x _ _ _ hx (sm _) (fun e => by rw [e]) fun y e => ?_
    exact ⟨_, upd_same, hz i (List.getElem?_eq_some_iff.mp hx).1, by rw [e, upd_upd]⟩
  · rintro H rfl
    exact hd
/-- over a range -/
theorem lc_accR {lo : Int} {n : Nat} (acc : Nat → List V) (hD : H1 D = none) (h0 : acc 0 = []) (hz : ∀ i, i < n → (acc i).length < sizeLine)
    (hs : ∀ (i : Nat) H (R1 : Hp → Prop) (R : V → Hp → Prop), i < n → Same H1 H → (acc (i + 1) = acc i → R1 H) → (∀ y, acc (i + 1) = acc i ++ [y] → R y H) → g (.int (lo + i)) (wipe σ vs) H fun σ2 H2 => wipe σ2 vs = wipe σ vs ∧ tt σ2 H2 fun b H3 => if b = true then te σ2 H3 R else R1 H3)
    (hd : Qd (upd H1 D (.lst (acc n)))) :
    ∃ W : Nat → Nat → Hp → Prop, (∃ m, W 0 m (upd H1 D (.lst []))) ∧ ∀ i m H, W i m H →
      ((Itr lo n).stop i H ∧ Qd H) ∨ ((Itr lo n).go i H ∧ ∃ Nx : Hp → Prop, (∀ H', Nx H' → ∃ m', m' < m ∧ W (i + 1) m' H') ∧ ∀ x H', (Itr lo n).yld i H x H' → g x (wipe σ vs) H' fun σ2 H2 => wipe σ2 vs = wipe σ vs ∧ tt σ2 H2 fun b H3 =>
        if b = true then te σ2 H3 fun y H4 => ∃ acc, H4 D = some (.lst acc) ∧ acc.length < sizeLine ∧ Nx (upd H4 D (.lst (acc ++ [y]))) else Nx H3) := by
  have sm : ∀ o, Same H1 (upd H1 D o) := fun o b u e => by rw [upd_ne (ne_of_none e hD)]; exact e
  refine lc_range (fun i H => H = upd H1 D (.lst (acc i))) ?_ ?_ ?_
  · rw [h0]
  · rintro i H hi rfl
    refine hs i _ _ _ hi (sm _) (fun e => by rw [e]) fun y e => ?_
    exact ⟨_, upd_same, hz i hi, by rw [e, upd_upd]⟩
  · rintro H rfl
    exact hd
end
/-! ### data of a bounded depth -/
structure Lay (n : Nat) (d : PyData) : Prop where
  can : d.canLay0 = true
  dep : d.depth ≤ n
theorem Lay.mono {m n : Nat} {d : PyData} (h : Lay m d) (k : m ≤ n) : Lay n d := ⟨h.can, Nat.le_trans h.dep k⟩
theorem Lay.non (n : Nat) : Lay n .none := ⟨by simp [PyData.canLay0], by simp [PyData.depth]⟩
theorem Lay.bl (n : Nat) (b : Bool) : Lay n (.bool b) := ⟨by simp [PyData.canLay0], by simp [PyData.depth]⟩
theorem Lay.int (n : Nat) (i : Int) : Lay n (.int i) := ⟨by simp [PyData.canLay0], by simp [PyData.depth]⟩
theorem Lay.str (n : Nat) {x : Str} (h : PyData.strOk x = true) : Lay n (.str x) := ⟨by simpa [PyData.canLay0] using h, by simp [PyData.depth]⟩
theorem lay_all {n : Nat} : ∀ {ds : List PyData}, (∀ d ∈ ds, Lay n d) → PyData.canLayAll0 ds = true ∧ PyData.depthAll ds ≤ n
  | [], _ => ⟨by simp [PyData.canLayAll0], by simp [PyData.depthAll]⟩
  | d :: ds, h => by
    obtain ⟨h1, h2⟩ := lay_all (ds := ds) fun e he => h e (by simp [he])
    have h3 := h d (by simp)
    refine ⟨by rw [PyData.canLayAll0, h3.can, h1]; rfl, ?_⟩
    rw [PyData.depthAll]
    have := h3.dep
    omega
theorem Lay.tup {n : Nat} {ds : List PyData} (h : ∀ d ∈ ds, Lay n d) : Lay (n + 1) (.tuple ds) := by
  obtain ⟨h1, h2⟩ := lay_all h
  refine ⟨by rw [PyData.canLay0]; exact h1, ?_⟩
  rw [PyData.depth]; omega
theorem Lay.lst {n : Nat} {ds : List PyData} (h : ∀ d ∈ ds, Lay n d) : Lay (n + 1) (.list ds) := by
  obtain ⟨h1, h2⟩ := lay_all h
  refine ⟨by rw [PyData.canLay0]; exact h1, ?_⟩
  rw [PyData.depth]; omega
theorem Lay.shaped {n : Nat} {d : PyData} (h : Lay n d) (k : n ≤ 64 := by decide) : SeqAt.shaped d = true := by
  have := h.dep
  unfold SeqAt.shaped
  rw [h.can, decide_eq_true (show d.depth ≤ 64 by omega)]; rfl
theorem Lay.ints (n : Nat) (l : List Int) : ∀ d ∈ l.map PyData.int, Lay n d := fun d hd => by
  obtain ⟨i, _, rfl⟩ := List.mem_map.mp hd
  exact .int n i
/-! ### equality of data -/
mutual
theorem eqv_refl : ∀ (d : PyData), nl d = true → PyData.eqv d d = true
  | .none, _ => by simp [PyData.eqv]
  | .bool _, _ => by simp [PyData.eqv]
  | .int _, _ => by simp [PyData.eqv]
  | .str _, _ => by simp [PyData.eqv]
  | .list _, n => by simp [nl] at n
  | .dict _, n => by simp [nl] at n
  | .tuple ds, n => by
    rw [nl] at n
    rw [PyData.eqv]
    exact eqvAll_refl ds n
theorem eqvAll_refl : ∀ (ds : List PyData), nlAll ds = true → PyData.eqvAll ds ds = true
  | [], _ => by simp [PyData.eqvAll]
  | d :: ds, n => by
    rw [nlAll, Bool.and_eq_true] at n
    rw [PyData.eqvAll, eqv_refl d n.1, eqvAll_refl ds n.2]; rfl
end
end Kn

set_option Elab.async false
set_option maxRecDepth 100000
set_option linter.all false
namespace Kn
open PySem L2
section
open PySem.Spec PyProof.Rows
variable {prog : Program} {w : World} {A : Around} {E : Value → Shared → Prop} {s : Shared}
theorem sliceApplied_rev {sl : Addr} {vk : Value} {n : Nat} {Q : Int × Int × Nat → Shared → Prop} (hs : s.heap.IsSliceOf sl .none .none vk) (pk : IsPart vk (some (-1)))
    (h : Q ((n : Int) - 1, -1, n) s) : wpAny (model prog w) A (Builtin.Slice.sliceApplied (.ref sl) (pure (n : Int))) Q E s := by
  obtain ⟨os, hos, hcs, hds⟩ := id hs
  unfold Builtin.Slice.sliceApplied Builtin.Slice.sliceFields
  refine wpAny_bind (wpAny_bind (wpAny_field hos hds (x := .none) rfl (wpAny_bind (wpAny_field hos hds (x := .none) rfl (wpAny_bind (wpAny_field hos hds (x := vk) rfl (wpAny_pure ?_)))))))
  refine wpAny_bind (HT.slicePart_ pk ?_)
  show wpAny _ _ (if ((-1 : Int) == 0) = true then _ else _) _ _ s
  rw [if_neg (by decide)]
  refine wpAny_bind (HT.slicePart_ .none (wpAny_bind (HT.slicePart_ .none (wpAny_bind (wpAny_pure ?_)))))
  show wpAny _ _ (pure ((n : Int) - 1, (-1 : Int), Builtin.Slice.slicePlaces ((n : Int) - 1) (-1) (-1))) _ _ s
  have e : Builtin.Slice.slicePlaces ((n : Int) - 1) (-1) (-1) = n := by
    unfold Builtin.Slice.slicePlaces
    have h1 : ¬ ((-1 : Int) > 0) := by omega
    rw [if_neg h1]
    split
    · rw [show -(-1 : Int) = 1 from rfl, Int.ediv_one]; omega
    · omega
  rw [e]
  exact wpAny_pure h
theorem pick_rev (xs : Array Value) : ((List.range xs.size).filterMap fun (m : Nat) => xs[(((xs.size : Int) - 1) + (m : Int) * (-1)).toNat]?).toArray = xs.toList.reverse.toArray := by
  have e : (fun (m : Nat) => xs[(((xs.size : Int) - 1) + (m : Int) * (-1)).toNat]?) = (fun m => xs[m]?) ∘ (fun m => xs.size - 1 - m) := by
    funext m
    have : (((xs.size : Int) - 1) + (m : Int) * (-1)).toNat = xs.size - 1 - m := by omega
    rw [this]; rfl
  rw [e, ← List.filterMap_map, PySem.W.krv_range, List.filterMap_reverse, PySem.W.krv_all]
theorem getItem_tuple_rev {t sl : Addr} {items : Array Value} {vk : Value} {Q : Value → Shared → Prop} (ht : IsTup s.heap t items) (hs : s.heap.IsSliceOf sl .none .none vk) (pk : IsPart vk (some (-1)))
    (h : Q (.ref s.heap.objs.size) { s with heap := s.heap.push { cls := .type "tuple", data := .seq items.toList.reverse.toArray } })
    (hsz : items.size ≤ sizeLine) : wpAny (model prog w) A (getItem (.ref t) (.ref sl)) Q E s := by
  have htake : sizeOk (.seq items.toList.reverse.toArray) := by
    show items.toList.reverse.toArray.size ≤ sizeLine
    rw [List.size_toArray, List.length_reverse, Array.length_toList]
    exact hsz
  obtain ⟨os, hos, hcs, hds⟩ := id hs
  have hTs : s.TypeIs (.ref sl) "slice" := ⟨os, hos, hcs⟩
  unfold getItem
  try with_reducible refine wpAny_holding ?_
  first | refine wpAny_bind (wpAny_pure ?_) | skip
  refine wpAny_bind (wpAny_sequenceKey ht.typeIs (by decide) ?_)
  refine wpAny_bind (wpAny_callSpecial?_slot (name := Str.ofString "__getitem__") ht.typeIs PyProof.Rows.slot_tuple_getitem
    (wpAny_call_entry PyProof.Rows.slot_tuple_getitem ht.typeIs entry_tuple_getitem ?_ (args_tuple_getitem _ _)))
  show wpAny _ _ (Builtin.Tuple.tupleItemsOf (.ref t) >>= _) _ _ s
  refine wpAny_bind (tupleItemsOf_ ht ?_)
  refine wpAny_bind (wpAny_typeOf hTs ?_)
  rw [if_pos (by decide)]
  refine wpAny_bind (sliceApplied_rev hs pk ?_)
  have hno : ¬ ((((items.size : Int) - 1) == 0 && (-1 : Int) == 1 && items.size == items.size) = true) := by simp
  show wpAny _ _ (if ((((items.size : Int) - 1) == 0 && (-1 : Int) == 1 && items.size == items.size) = true) then _ else _) _ _ s
  rw [if_neg hno, pick_rev]
  first
    | exact wpAny_bind (m := Builtin.Tuple.tupleExact _) (wpAny_newObj_type (wpAny_pure ⟨_, rfl, wpAny_pure h⟩) htake)
    | exact wpAny_bind (m := Builtin.Tuple.tupleExact _) (wpAny_newObj_type (wpAny_bind (wpAny_pure (wpAny_pure ⟨_, rfl, wpAny_pure h⟩))) htake)
    | exact wpAny_bind (wpAny_bind (m := Builtin.Tuple.tupleExact _) (wpAny_newObj_type (wpAny_pure (wpAny_pure ⟨_, rfl, wpAny_pure h⟩)) htake))
    | exact wpAny_bind (wpAny_bind (m := Builtin.Tuple.tupleExact _) (wpAny_newObj_type (wpAny_pure ⟨_, rfl, wpAny_pure h⟩) htake))
end
theorem vals_reverse : ∀ {xs : List V} {us : List Value}, Vals xs us → Vals xs.reverse us.reverse
  | _, _, .nil => .nil
  | _, _, .cons r t => by
    rw [List.reverse_cons, List.reverse_cons]
    exact Vals.append (vals_reverse t) (.cons r .nil)
section
open PySem.Spec
variable {X : Cx} {e k : Expr} {te : TE} {tk : TO} {pos p2 : Pos}
def tRevT (K : PySem.W.Frag) (te : TE) (tk : TO) : TE := fun σ H Q => te σ H fun x H1 => tk σ H1 fun o H2 => o = some (-1) ∧ ∃ a xs, x = .ref a ∧ SqT K H2 a xs ∧ ∀ p, H2 p = none → Q (.ref p) (upd H2 p (.tup xs.reverse))
/-- t[::-1] of a tuple -/
theorem pe_revT (K : PySem.W.Frag) (he : PE X e te) (hk : PO X (some k) tk) (hK : X.K = K := by rfl) : PE X (.Subscript e (.Slice none none (some k) p2) pos) (tRevT K te tk) := by
  subst hK
  refine ⟨fun pins s σ H Q I h => ?_⟩
  refine PyProof.Rows.Subscript_ (thn (he.run pins s σ H _ I h) fun v s1 ⟨x, H1, I1, r1, q1⟩ => ?_)
  refine wpAny_Slice ?_
  rw [evalPart_none]
  refine wpAny_pure (wpAny_pure (thn (hk.run pins s1 σ H1 _ I1 q1) fun vk s3 ⟨o, H3, I3, pk, q3⟩ => ?_))
  obtain ⟨rfl, a, xs, rfl, hx, q⟩ := q3
  cases r1
  have I4 : Inv X pins σ H3 { s3 with heap := s3.heap.push { cls := .type "slice", data := .fields #[.none, .none, vk] } } := I3.kept (t' := s3.toks) fun b ob q => Heap.get?_push_of_some _ q
  obtain ⟨its, r, ht, hz⟩ := I4.tuple hx
  show wpAny (model X.prog X.w) X.A (PyProof.Rows.subscriptTail e (.Slice none none (some k) p2) (.ref a) (.ref s3.heap.objs.size)) (EP X pins σ Q) X.xe { s3 with heap := s3.heap.push { cls := .type "slice", data := .fields #[.none, .none, vk] } }
  have hlen : its.toArray.size = xs.length := by rw [List.size_toArray]; exact r.length.symm
  refine PyProof.Rows.tail_any (ops := [.ref a, .ref s3.heap.objs.size]) ht.typeIs PyProof.Rows.slot_tuple_getitem.lookup (getItem_tuple_rev ht (Heap.IsSliceOf.new ..) pk ?_ (by rw [hlen]; exact hz)) (by with_unfolding_all rfl)
  refine ⟨.ref _, _, I4.laid (t' := s3.toks) (o := .tup xs.reverse) (fun b ob q => Heap.get?_push_of_some _ q) (Nat.le_refl _) ?_, rfl, q _ (I4.hok.fresh (Nat.le_refl _))⟩
  exact ⟨by rw [List.length_reverse]; exact hz, _, vals_reverse r, PyProof.Rows.IsTup.new _ _⟩
def tRevL (K : PySem.W.Frag) (te : TE) (tk : TO) : TE := fun σ H Q => te σ H fun x H1 => tk σ H1 fun o H2 => o = some (-1) ∧ ∃ a xs, x = .ref a ∧ SqL K H2 a xs ∧ ∀ p, H2 p = none → Q (.ref p) (upd H2 p (.lst xs.reverse))
/-- l[::-1] of a list -/
theorem pe_revL (K : PySem.W.Frag) (he : PE X e te) (hk : PO X (some k) tk) (hK : X.K = K := by rfl) : PE X (.Subscript e (.Slice none none (some k) p2) pos) (tRevL K te tk) := by
  subst hK
  refine ⟨fun pins s σ H Q I h => ?_⟩
  refine PyProof.Rows.Subscript_ (thn (he.run pins s σ H _ I h) fun v s1 ⟨x, H1, I1, r1, q1⟩ => ?_)
  refine wpAny_Slice ?_
  rw [evalPart_none]
  refine wpAny_pure (wpAny_pure (thn (hk.run pins s1 σ H1 _ I1 q1) fun vk s3 ⟨o, H3, I3, pk, q3⟩ => ?_))
  obtain ⟨rfl, a, xs, rfl, hx, q⟩ := q3
  cases r1
  have I4 : Inv X pins σ H3 { s3 with heap := s3.heap.push { cls := .type "slice", data := .fields #[.none, .none, vk] } } := I3.kept (t' := s3.toks) fun b ob q => Heap.get?_push_of_some _ q
  obtain ⟨its, r, ht, hz⟩ := I4.list hx
  show wpAny (model X.prog X.w) X.A (PyProof.Rows.subscriptTail e (.Slice none none (some k) p2) (.ref a) (.ref s3.heap.objs.size)) (EP X pins σ Q) X.xe { s3 with heap := s3.heap.push { cls := .type "slice", data := .fields #[.none, .none, vk] } }
  have hlen := r.length
  refine PyProof.Rows.tail_any (ops := [.ref a, .ref s3.heap.objs.size]) ht.isList.typeIs slot_list_getitem.lookup (wpAny_getItem_list_slice ht.isList (Heap.IsSliceOf.new ..) .none .none pk (by simp) ?_ (by rw [List.size_toArray] <;> omega)) (by with_unfolding_all rfl)
  rw [PySem.W.krv_pick]
  refine ⟨.ref _, _, I4.laid (t' := s3.toks) (o := .lst xs.reverse) (fun b ob q => Heap.get?_push_of_some _ q) (Nat.le_refl _) ?_, rfl, q _ (I4.hok.fresh (Nat.le_refl _))⟩
  exact ⟨by rw [List.length_reverse]; exact hz, _, 0, vals_reverse r, Heap.get?_push_size _ rfl⟩
end
end Kn

set_option Elab.async false
set_option maxRecDepth 100000
set_option linter.all false
namespace Kn
open PySem L2
/-! ### a list or a tuple is walked -/
def SqS (K : PySem.W.Frag) (H : Hp) (a : Addr) (xs : List V) : Prop := SqL K H a xs ∨ SqT K H a xs
theorem SqS.same {K : PySem.W.Frag} {H H' : Hp} {a : Addr} {xs : List V} (e : Same H H') (h : SqS K H a xs) : SqS K H' a xs := by
  rcases h with h | h
  · exact .inl (Same.seq e h)
  · exact .inr (SqT.same e h)
def iSeq (K : PySem.W.Frag) (tl : TE) : TI := fun σ H R => tl σ H fun x H1 => ∃ a, x = .ref a ∧ (((∃ xs, SqL K H1 a xs) ∧ R (Itl K a) H1) ∨ ((∃ xs, SqT K H1 a xs) ∧ R (Itt K a) H1))
section
variable {X : Cx} {tg l : Expr} {tl : TE}
theorem pi_seqK (K : PySem.W.Frag) (hl : PE X l tl) (hK : X.K = K := by rfl) : PI X tg l (iSeq K tl) := by
  subst hK
  refine ⟨fun pins s σ H R I hw => ?_⟩
  refine thn (hl.run pins s σ H _ I hw) fun v s1 ⟨x, H1, J, r1, q1⟩ => ?_
  obtain ⟨a, rfl, ⟨⟨xs, hx⟩, q⟩ | ⟨⟨xs, hx⟩, q⟩⟩ := q1
  · cases r1
    have fp : ∀ b ∈ [s1.heap.objs.size], FpOk X pins H1 b := fun b hb => by
      rw [List.mem_singleton.mp hb]
      exact J.fpOk (Nat.le_refl _) (J.hok.fresh (Nat.le_refl _))
    obtain ⟨its, _, p, _⟩ := J.list hx
    exact wpAny_pyIter_list p.isList ⟨_, _, _, _, H1, rfl, J.kept (t' := s1.toks) fun _ _ e => Heap.get?_push_of_some _ e, turn_list a _, ⟨_, Heap.get?_push_size _ rfl, rfl, rfl⟩, fp, q⟩
  · cases r1
    have fp : ∀ b ∈ [s1.heap.objs.size], FpOk X pins H1 b := fun b hb => by
      rw [List.mem_singleton.mp hb]
      exact J.fpOk (Nat.le_refl _) (J.hok.fresh (Nat.le_refl _))
    obtain ⟨its, _, p, _⟩ := J.tuple hx
    exact wpAny_pyIter_tuple (show s1.heap.IsTuple a its.toArray from p) ⟨_, _, _, _, H1, rfl, J.kept (t' := s1.toks) fun _ _ e => Heap.get?_push_of_some _ e, turn_tuple a _, ⟨_, Heap.get?_push_size _ rfl, rfl, rfl⟩, fp, q⟩
end
/-- what a for asks of an iterator -/
abbrev ForR (g : TG) (tb : TS) (D : Ends) (σ : St) (J : It) (H1 : Hp) : Prop := ∃ W : Nat → Nat → St → Hp → Prop, (∃ m, W 0 m σ H1) ∧ ∀ i m σ H, W i m σ H →
  (J.stop i H ∧ D.nx σ H) ∨ (J.go i H ∧ ∃ N : St → Hp → Prop, (∀ σ' H', N σ' H' → ∃ m', m' < m ∧ W (i + 1) m' σ' H') ∧ ∀ x H', J.yld i H x H' → g x σ H' fun σ2 H2 => tb { D with nx := N, ct := N, bk := D.nx } σ2 H2)
theorem for_seq {K : PySem.W.Frag} {a : Addr} {xs : List V} {g : TG} {tb : TS} {D : Ends} {σ : St} {H : Hp} (hq : SqS K H a xs) (Pv : Nat → St → Hp → Prop) (h0 : Pv 0 σ H) (hl : ∀ i σ H2, Pv i σ H2 → Same H H2)
    (hs : ∀ (i : Nat) x σ H, xs[i]? = some x → Pv i σ H → g x σ H fun σ2 H2 => tb { D with nx := Pv (i + 1), ct := Pv (i + 1), bk := D.nx } σ2 H2) (hd : ∀ σ H, Pv xs.length σ H → D.nx σ H) :
    ((∃ xs, SqL K H a xs) ∧ ForR g tb D σ (Itl K a) H) ∨ ((∃ xs, SqT K H a xs) ∧ ForR g tb D σ (Itt K a) H) := by
  rcases hq with hq | hq
  · exact .inl ⟨⟨_, hq⟩, for_list (xs := xs) Pv h0 (fun i σ H2 _ p => Same.seq (hl i σ H2 p) hq) hs hd⟩
  · exact .inr ⟨⟨_, hq⟩, for_tup (xs := xs) Pv h0 (fun i σ H2 _ p => SqT.same (hl i σ H2 p) hq) hs hd⟩
abbrev LcR (g : TG) (tt : TT) (te : TE) (vs : List Nat) (σ : St) (D : Addr) (Qd : Hp → Prop) (J : It) (H1 : Hp) : Prop := ∃ W : Nat → Nat → Hp → Prop, (∃ m, W 0 m (upd H1 D (.lst []))) ∧ ∀ i m H, W i m H →
  (J.stop i H ∧ Qd H) ∨ (J.go i H ∧ ∃ Nx : Hp → Prop, (∀ H', Nx H' → ∃ m', m' < m ∧ W (i + 1) m' H') ∧ ∀ x H', J.yld i H x H' → g x (wipe σ vs) H' fun σ2 H2 => wipe σ2 vs = wipe σ vs ∧ tt σ2 H2 fun b H3 =>
    if b = true then te σ2 H3 fun y H4 => ∃ acc, H4 D = some (.lst acc) ∧ acc.length < sizeLine ∧ Nx (upd H4 D (.lst (acc ++ [y]))) else Nx H3)
/-- a comprehension over a list or a tuple that only reads -/
theorem lc_accS {K : PySem.W.Frag} {a : Addr} {xs : List V} {g : TG} {tt : TT} {te : TE} {vs : List Nat} {σ : St} {H1 : Hp} {Q : Addr → Hp → Prop} (hq : SqS K H1 a xs) (acc : Nat → List V) (h0 : acc 0 = []) (hz : ∀ i, i < xs.length → (acc i).length < sizeLine)
    (hs : ∀ (i : Nat) x H (R1 : Hp → Prop) (R : V → Hp → Prop), xs[i]? = some x → Same H1 H → (acc (i + 1) = acc i → R1 H) → (∀ y, acc (i + 1) = acc i ++ [y] → R y H) → g x (wipe σ vs) H fun σ2 H2 => wipe σ2 vs = wipe σ vs ∧ tt σ2 H2 fun b H3 => if b = true then te σ2 H3 R else R1 H3)
    (hd : ∀ D, H1 D = none → Q D (upd H1 D (.lst (acc xs.length)))) :
    ((∃ xs, SqL K H1 a xs) ∧ ∀ D, H1 D = none → LcR g tt te vs σ D (fun H => Q D H) (Itl K a) H1) ∨ ((∃ xs, SqT K H1 a xs) ∧ ∀ D, H1 D = none → LcR g tt te vs σ D (fun H => Q D H) (Itt K a) H1) := by
  rcases hq with hq | hq
  · exact .inl ⟨⟨_, hq⟩, fun D hD => lc_accL acc hD hq h0 hz hs (hd D hD)⟩
  · exact .inr ⟨⟨_, hq⟩, fun D hD => lc_accT acc hD hq h0 hz hs (hd D hD)⟩
/-! ### comprehensions whose turns make new objects -/
theorem lc_growT {K : PySem.W.Frag} {a : Addr} {xs : List V} {g : TG} {tt : TT} {te : TE} {vs : List Nat} {σ : St} {H1 : Hp} {D : Addr} {Qd : Hp → Prop} (acc : Nat → List V) (hD : H1 D = none) (ha : SqT K H1 a xs) (h0 : acc 0 = []) (hz : ∀ i, i < xs.length → (acc i).length < sizeLine)
    (hs : ∀ (i : Nat) x H (R1 : Hp → Prop) (R : V → Hp → Prop), xs[i]? = some x → Same H1 H → (∀ H', Same H H' → acc (i + 1) = acc i → R1 H') → (∀ y H', Same H H' → acc (i + 1) = acc i ++ [y] → R y H') → g x (wipe σ vs) H fun σ2 H2 => wipe σ2 vs = wipe σ vs ∧ tt σ2 H2 fun b H3 => if b = true then te σ2 H3 R else R1 H3)
    (hd : ∀ H, Same H1 H → H D = some (.lst (acc xs.length)) → Qd H) : LcR g tt te vs σ D Qd (Itt K a) H1 := by
  refine lc_tup (xs := xs) (fun i H => Same H1 H ∧ H D = some (.lst (acc i))) ⟨fun b u e => by rw [upd_ne (ne_of_none e hD)]; exact e, by rw [h0]; exact upd_same⟩ (fun i H _ ⟨sm, _⟩ => SqT.same sm ha) ?_ fun H ⟨sm, e⟩ => hd H sm e
  rintro i x H hx ⟨sm, e⟩
  refine hs i x _ _ _ hx sm (fun H' sm' z => ⟨Same.trans sm sm', by rw [z]; exact sm' _ _ e⟩) fun y H' sm' z => ?_
  exact ⟨_, sm' _ _ e, hz i (List.getElem?_eq_some_iff.mp hx).1, fun b u q => by rw [upd_ne (ne_of_none q hD)]; exact sm' _ _ (sm _ _ q), by rw [z]; exact upd_same⟩
theorem lc_growL {K : PySem.W.Frag} {a : Addr} {xs : List V} {g : TG} {tt : TT} {te : TE} {vs : List Nat} {σ : St} {H1 : Hp} {D : Addr} {Qd : Hp → Prop} (acc : Nat → List V) (hD : H1 D = none) (ha : SqL K H1 a xs) (h0 : acc 0 = []) (hz : ∀ i, i < xs.length → (acc i).length < sizeLine)
    (hs : ∀ (i : Nat) x H (R1 : Hp → Prop) (R : V → Hp → Prop), xs[i]? = some x → Same H1 H → (∀ H', Same H H' → acc (i + 1) = acc i → R1 H') → (∀ y H', Same H H' → acc (i + 1) = acc i ++ [y] → R y H') → g x (wipe σ vs) H fun σ2 H2 => wipe σ2 vs = wipe σ vs ∧ tt σ2 H2 fun b H3 => if b = true then te σ2 H3 R else R1 H3)
    (hd : ∀ H, Same H1 H → H D = some (.lst (acc xs.length)) → Qd H) : LcR g tt te vs σ D Qd (Itl K a) H1 := by
  refine lc_list (xs := xs) (fun i H => Same H1 H ∧ H D = some (.lst (acc i))) ⟨fun b u e => by rw [upd_ne (ne_of_none e hD)]; exact e, by rw [h0]; exact upd_same⟩ (fun i H _ ⟨sm, _⟩ => Same.seq sm ha) ?_ fun H ⟨sm, e⟩ => hd H sm e
  rintro i x H hx ⟨sm, e⟩
  refine hs i x _ _ _ hx sm (fun H' sm' z => ⟨Same.trans sm sm', by rw [z]; exact sm' _ _ e⟩) fun y H' sm' z => ?_
  exact ⟨_, sm' _ _ e, hz i (List.getElem?_eq_some_iff.mp hx).1, fun b u q => by rw [upd_ne (ne_of_none q hD)]; exact sm' _ _ (sm _ _ q), by rw [z]; exact upd_same⟩
theorem lc_growR {lo : Int} {n : Nat} {g : TG} {tt : TT} {te : TE} {vs : List Nat} {σ : St} {H1 : Hp} {D : Addr} {Qd : Hp → Prop} (acc : Nat → List V) (hD : H1 D = none) (h0 : acc 0 = []) (hz : ∀ i, i < n → (acc i).length < sizeLine)
    (hs : ∀ (i : Nat) H (R1 : Hp → Prop) (R : V → Hp → Prop), i < n → Same H1 H → (∀ H', Same H H' → acc (i + 1) = acc i → R1 H') → (∀ y H', Same H H' → acc (i + 1) = acc i ++ [y] → R y H') → g (.int (lo + i)) (wipe σ vs) H fun σ2 H2 => wipe σ2 vs = wipe σ vs ∧ tt σ2 H2 fun b H3 => if b = true then te σ2 H3 R else R1 H3)
    (hd : ∀ H, Same H1 H → H D = some (.lst (acc n)) → Qd H) : LcR g tt te vs σ D Qd (Itr lo n) H1 := by
  refine lc_range (fun i H => Same H1 H ∧ H D = some (.lst (acc i))) ⟨fun b u e => by rw [upd_ne (ne_of_none e hD)]; exact e, by rw [h0]; exact upd_same⟩ ?_ fun H ⟨sm, e⟩ => hd H sm e
  rintro i H hi ⟨sm, e⟩
  refine hs i _ _ _ hi sm (fun H' sm' z => ⟨Same.trans sm sm', by rw [z]; exact sm' _ _ e⟩) fun y H' sm' z => ?_
  exact ⟨_, sm' _ _ e, hz i hi, fun b u q => by rw [upd_ne (ne_of_none q hD)]; exact sm' _ _ (sm _ _ q), by rw [z]; exact upd_same⟩
/-! ### over the signs of a text -/
theorem lc_accStr {x : Str} {g : TG} {tt : TT} {te : TE} {vs : List Nat} {σ : St} {H1 : Hp} {D : Addr} {Qd : Hp → Prop} (acc : Nat → List V) (hD : H1 D = none) (h0 : acc 0 = []) (hz : ∀ i, i < x.length → (acc i).length < sizeLine)
    (hs : ∀ (i : Nat) (c : Nat) H (R1 : Hp → Prop) (R : V → Hp → Prop), x.cps.toList[i]? = some c → Same H1 H → (acc (i + 1) = acc i → R1 H) → (∀ y, acc (i + 1) = acc i ++ [y] → R y H) → g (.str ⟨#[c]⟩) (wipe σ vs) H fun σ2 H2 => wipe σ2 vs = wipe σ vs ∧ tt σ2 H2 fun b H3 => if b = true then te σ2 H3 R else R1 H3)
    (hd : Qd (upd H1 D (.lst (acc x.length)))) : LcR g tt te vs σ D Qd (Its x) H1 := by
  have sm : ∀ o, Same H1 (upd H1 D o) := fun o b u e => by rw [upd_ne (ne_of_none e hD)]; exact e
  refine ⟨fun i m H => m = x.length - i ∧ i ≤ x.length ∧ H = upd H1 D (.lst (acc i)), ⟨x.length, by simp, Nat.zero_le _, by rw [h0]⟩, ?_⟩
  rintro i m H ⟨rfl, hi, rfl⟩
  by_cases hlt : i < x.length
  · refine .inr ⟨hlt, fun H' => H' = upd H1 D (.lst (acc (i + 1))), fun H' e => ⟨x.length - (i + 1), by omega, rfl, by omega, e⟩, ?_⟩
    rintro v H' ⟨rfl, c, hc, rfl⟩
    refine hs i c _ _ _ (by rw [Array.getElem?_toList]; exact hc) (sm _) (fun e => by rw [e]) fun y e => ?_
    exact ⟨_, upd_same, hz i hlt, by rw [e, upd_upd]⟩
  · have e : i = x.length := by omega
    subst e
    exact .inl ⟨Nat.le_refl _, hd⟩
/-! ### f-strings -/
def tJoined (ts : List TE) : TE := fun σ H Q => tJs ts Str.empty σ H fun out H1 => Q (.str out) H1
theorem pe_joinedN {X : Cx} {v1 v2 : Expr} {rest : List Expr} {ts : List TE} {pos : Pos} (h : PJ X (v1 :: v2 :: rest) ts) : PE X (.JoinedStr (v1 :: v2 :: rest) pos) (tJoined ts) := pe_joined h
/-! ### a call by keywords alone -/
section
variable {X : Cx} {CX : CXT} {k : Nat} {f : Addr} {fd : FuncData} {ps ks : List Str} {sp : Sp} {E : XK} {x : Str} {p pos : Pos} {kws : List Keyword} {tk : TA} {g : List Value → List Value → List Value} {gV : List V → List V → List V}
theorem pe_callN0 (F : FnOk X.prog X.w X.K X.mg X.base CX k f fd ps sp) (hr : Room k X.A) (hg : Gl X x) (hm : X.mg x = some (.ref f)) (hk : PySem.W.keepIn X.K (.ref f) = true) (hb : KBn X.K fd ps 0 ks g gV) (hx : Passes CX X E) (hkw : PK X kws tk)
    (hall : (backToKw pos (keywordEach kws X.env)).all (·.1.isSome) = true := by rfl) (hks : (backToKw pos (keywordEach kws X.env)).filterMap (·.1) = ks := by rfl) (hdb : (x == ("__debug__" : Str)) = false := by decide)
    (hpl : ((backTo pos (starEach [] X.env)).any (·.1) || (backToKw pos (keywordEach kws X.env)).any (·.1.isNone)) = false := by rfl) : PE X (.Call (.Name x p) [] kws pos) (tCallN 0 ks.length sp gV E tNil tk) := by
  refine ⟨fun pins s σ H Q I h => wpAny_Call_Name_kw (ld_glob I hg hm ?_ hdb)⟩
  refine PySem.W.callWith_KW0 (h₀ := X.base) I.ok.mod.kin hk hall (thn (hkw.run pos pins s σ H _ I h) fun ws s2 ⟨zs, H2, J, rz, _, l2, q⟩ => ⟨J.kIn, ?_⟩) hpl
  rw [hks]
  exact run_fnN (us := []) (vs := []) F hr hb hx J .nil rz rfl l2 q
end
/-- a + b of tuples, told once -/
theorem cat_ {K : PySem.W.Frag} {H : Hp} {a b : Addr} {xs ys : List V} {Q : VK} (ha : SqT K H a xs) (hb : SqT K H b ys) (hz : xs.length + ys.length ≤ sizeLine) (k : ∀ r H', Same H H' → SqT K H' r (xs ++ ys) → Q (.ref r) H') : rCatA K (.ref a) (.ref b) H Q := by
  refine ⟨a, b, xs, ys, rfl, rfl, ha, hb, hz, fun z => ?_, fun _ z => ?_, fun _ _ p hp => ?_⟩
  · subst z
    exact k b H (Same.refl _) hb
  · subst z
    exact k a H (Same.refl _) (by rw [List.append_nil]; exact ha)
  · exact k p _ (same_new hp) (SqT.of upd_same)
theorem tupof_ {K : PySem.W.Frag} {H : Hp} {a : Addr} {xs : List V} {Q : VK} (ha : SqS K H a xs) (k : ∀ r H', Same H H' → SqT K H' r xs → Q (.ref r) H') : rTupleOf K [.ref a] H Q := by
  rcases ha with ha | ha
  · exact ⟨a, xs, rfl, .inl ⟨ha, fun l hl => k l _ (same_new hl) (SqT.of upd_same)⟩⟩
  · exact ⟨a, xs, rfl, .inr ⟨ha, k a H (Same.refl _) ha⟩⟩
end Kn

set_option Elab.async false
set_option maxRecDepth 100000
set_option linter.all false
namespace Kn
open PySem L2
/-- where the class of that name stands -/
def clsA (mg : Str → Option Value) (x : Str) : Addr := match mg x with
  | some (.ref a) => a
  | _ => 0
theorem clsA_of {mg : Str → Option Value} {x : Str} {a : Addr} (h : mg x = some (.ref a)) : clsA mg x = a := by unfold clsA; rw [h]
/-- an exception class of the text over ValueError, without an __init__ -/
structure ExcF (K : PySem.W.Frag) (mg : Str → Option Value) (x : Str) : Prop where
  g : mg x = some (.ref (clsA mg x))
  ex : PySem.W.excIn K (clsA mg x) [.type "ValueError", .type "Exception", .type "BaseException", .type "object"] "ValueError.__new__" = true
  k : PySem.W.keepIn K (.ref (clsA mg x)) = true
  b : PySem.W.subIn K (.ref (clsA mg x)) (.type "BaseException") = some true
  t : PySem.W.typeIn K (.ref (clsA mg x)) = some (.type "type")
theorem Fz.okX {P : Program} {w : World} {K : PySem.W.Frag} {mg : Str → Option Value} {base : Heap} {x : Str} {st : Stmt} {ps N : List Str} {k : Nat} {sp : Sp} (F : Fz K mg x st ps) (S : FnScope N ps (defScope st)) (len : ∀ vs H Q E, sp vs H Q E → vs.length = ps.length)
    (hbody : ∀ (f : Addr) (cdv : Value) (A : Around) (outer : List Env) (s : Shared) (H : Hp) (vs : List V) (Q : VK) (E : XK), Room k (A.deeper (PyProof.Rows.envOfC x (defScope st) s.heap.objs.size f cdv)) → sp vs H Q E →
      ∃ t, PSs (cxOf (L2.CX P w) P w K mg base N x (defScope st) f cdv A outer s H E) (defBody st) t ∧ t { nx := fun _ H' => Q .non H', rt := Q } (start N vs) H) : Fx P w K mg base (L2.CX P w) x (k + 1) ps sp := by
  obtain ⟨f, fd, F1, m, b⟩ := F.ex
  exact ⟨f, fd, F1.okX S len (hbody f), m, F1.kp, b⟩
/-- a def whose arguments bind as B says -/
structure FzB (K : PySem.W.Frag) (mg : Str → Option Value) (x : Str) (st : Stmt) (B : FuncData → Prop) : Prop where
  ex : ∃ (f : Addr) (fd : FuncData), Fun K x x st f fd ∧ mg x = some (.ref f) ∧ B fd
structure FxB (P : Program) (w : World) (K : PySem.W.Frag) (mg : Str → Option Value) (base : Heap) (CX : CXT) (x : Str) (k : Nat) (ps : List Str) (sp : Sp) (B : FuncData → Prop) : Prop where
  ex : ∃ (f : Addr) (fd : FuncData), FnOk P w K mg base CX k f fd ps sp ∧ mg x = some (.ref f) ∧ PySem.W.keepIn K (.ref f) = true ∧ B fd
theorem FzB.okX {P : Program} {w : World} {K : PySem.W.Frag} {mg : Str → Option Value} {base : Heap} {x : Str} {st : Stmt} {ps N : List Str} {k : Nat} {sp : Sp} {B : FuncData → Prop} (F : FzB K mg x st B) (S : FnScope N ps (defScope st)) (len : ∀ vs H Q E, sp vs H Q E → vs.length = ps.length)
    (hbody : ∀ (f : Addr) (cdv : Value) (A : Around) (outer : List Env) (s : Shared) (H : Hp) (vs : List V) (Q : VK) (E : XK), Room k (A.deeper (PyProof.Rows.envOfC x (defScope st) s.heap.objs.size f cdv)) → sp vs H Q E →
      ∃ t, PSs (cxOf (L2.CX P w) P w K mg base N x (defScope st) f cdv A outer s H E) (defBody st) t ∧ t { nx := fun _ H' => Q .non H', rt := Q } (start N vs) H) : FxB P w K mg base (L2.CX P w) x (k + 1) ps sp B := by
  obtain ⟨f, fd, F1, m, b⟩ := F.ex
  exact ⟨f, fd, F1.okX S len (hbody f), m, F1.kp, b⟩
section
variable {X : Cx} {k : Nat} {ps ks : List Str} {sp : Sp} {x : Str} {p pos : Pos} {kws : List Keyword} {tk : TA} {B : FuncData → Prop} {gV : List V → List V → List V} {CX : CXT} {E : XK}
/-- f(k = v, ..) -/
theorem kcall (F : FxB X.prog X.w X.K X.mg X.base CX x k ps sp B) (hB : ∀ fd, B fd → ∃ g, KBn X.K fd ps 0 ks g gV) (hr : Room k X.A) (hg : Gl X x) (hx : Passes CX X E) (hkw : PK X kws tk)
    (hall : (backToKw pos (keywordEach kws X.env)).all (·.1.isSome) = true := by rfl) (hks : (backToKw pos (keywordEach kws X.env)).filterMap (·.1) = ks := by rfl) (hdb : (x == ("__debug__" : Str)) = false := by decide)
    (hpl : ((backTo pos (starEach [] X.env)).any (·.1) || (backToKw pos (keywordEach kws X.env)).any (·.1.isNone)) = false := by rfl) : PE X (.Call (.Name x p) [] kws pos) (tCallN 0 ks.length sp gV E tNil tk) := by
  obtain ⟨f, fd, F1, m, kp, b⟩ := F.ex
  obtain ⟨g, hb⟩ := hB fd b
  exact pe_callN0 F1 hr hg m kp hb hx hkw hall hks hdb hpl
end
section
variable {X : Cx} {k : Nat} {ps : List Str} {sp : Sp} {E : XK} {x : Str} {p pos : Pos} {e : Expr} {es : List Expr} {t : TA}
/-- a call of a def that may raise, where it does not -/
theorem fcall0 (F : Fx X.prog X.w X.K X.mg X.base (L2.CX X.prog X.w) x k ps sp) (hr : Room k X.A) (hg : Gl X x) (ha : PA X (e :: es) t)
    (hdb : (x == ("__debug__" : Str)) = false := by decide) (he : starEach (e :: es) X.env = (false, eval e X.env) :: starEach es X.env := by rfl) (hpl : (backTo pos (starEach es X.env)).any (·.1) = false := by rfl) :
    PE X (.Call (.Name x p) (e :: es) [] pos) (tCall sp [] E0 t) := by
  obtain ⟨f, fd, F1, m, kp, b⟩ := F.ex
  exact pe_call F1 hr hg m kp b .nil passL ha hdb he hpl
/-- .. where what it raises leaves this def too -/
theorem fcallX {W : WX} (tk : Takes X W) (F : Fx X.prog X.w X.K X.mg X.base (L2.CX X.prog X.w) x k ps sp) (hr : Room k X.A) (hg : Gl X x) (ha : PA X (e :: es) t)
    (hdb : (x == ("__debug__" : Str)) = false := by decide) (he : starEach (e :: es) X.env = (false, eval e X.env) :: starEach es X.env := by rfl) (hpl : (backTo pos (starEach es X.env)).any (·.1) = false := by rfl) :
    PE X (.Call (.Name x p) (e :: es) [] pos) (tCallS sp (WE W) t) := by
  obtain ⟨f, fd, F1, m, kp, b⟩ := F.ex
  exact pe_callS F1 hr hg m kp b (fun σ => passAt tk σ) ha hdb he hpl
end
section
variable {X : Cx} {k n : Nat} {f : Addr} {fd : FuncData} {ps ks : List Str} {sp : Sp} {E : St → XK} {x : Str} {p pos : Pos} {kws : List Keyword} {tk : TA} {B : FuncData → Prop} {g : List Value → List Value → List Value} {gV : List V → List V → List V} {CX : CXT}
theorem run_kS {pins : List (Addr × Obj)} {σ : St} {H : Hp} {s : Shared} {Q : VK} {us ws : List Value} {vs zs : List V} (F : FnOk X.prog X.w X.K X.mg X.base CX k f fd ps sp) (hr : Room k X.A) (hb : KBn X.K fd ps n ks g gV) (hx : PassesAt CX X σ (E σ))
    (J : Inv X pins σ H s) (r : Vals vs us) (rz : Vals zs ws) (l1 : vs.length = n) (l2 : zs.length = ks.length) (h : sp (gV vs zs) H Q (E σ)) : wpAny (model X.prog X.w) X.A (call (.ref f) us (ks.zip ws)) (EP X pins σ Q) X.xe s := by
  have r2 := hb.rel r rz
  have bt := hb.to s us ws J.kIn (r.length.symm.trans l1) (rz.length.symm.trans l2)
  refine wpAny_call (codeAny_mono (F.run X.A X.stack s H ⟨us, ks.zip ws⟩ (g us ws) (gV vs zs) Q (E σ) hr J.env0 bt r2 h) fun fl s' hq => ?_)
  match fl, hq with
  | .error e, hq => exact hx pins H s e s' J hq
  | .ok (.ret u), hq => exact J.after hq
  | .ok .next, hq => exact hq.elim
  | .ok .brk, hq => exact hq.elim
  | .ok .cont, hq => exact hq.elim
def tCallNS (m : Nat) (sp : Sp) (gV : List V → List V → List V) (E : St → XK) (tk : TA) : TE := fun σ H Q => tk σ H fun zs H2 => zs.length = m ∧ sp (gV [] zs) H2 Q (E σ)
/-- f(k = v, ..) of a def that may raise, within a try -/
theorem kcallS {W : WX} (tkk : Takes X W) (F : FxB X.prog X.w X.K X.mg X.base (L2.CX X.prog X.w) x k ps sp B) (hB : ∀ fd, B fd → ∃ g, KBn X.K fd ps 0 ks g gV) (hr : Room k X.A) (hg : Gl X x) (hkw : PK X kws tk)
    (hall : (backToKw pos (keywordEach kws X.env)).all (·.1.isSome) = true := by rfl) (hks : (backToKw pos (keywordEach kws X.env)).filterMap (·.1) = ks := by rfl) (hdb : (x == ("__debug__" : Str)) = false := by decide)
    (hpl : ((backTo pos (starEach [] X.env)).any (·.1) || (backToKw pos (keywordEach kws X.env)).any (·.1.isNone)) = false := by rfl) : PE X (.Call (.Name x p) [] kws pos) (tCallNS ks.length sp gV (WE W) tk) := by
  obtain ⟨f, fd, F1, m, kp, b⟩ := F.ex
  obtain ⟨g, hb⟩ := hB fd b
  refine ⟨fun pins s σ H Q I h => wpAny_Call_Name_kw (ld_glob I hg m ?_ hdb)⟩
  refine PySem.W.callWith_KW0 (h₀ := X.base) I.ok.mod.kin kp hall (thn (hkw.run pos pins s σ H _ I h) fun ws s2 ⟨zs, H2, J, rz, l2, q⟩ => ⟨J.kIn, ?_⟩) hpl
  rw [hks]
  exact run_kS (us := []) (vs := []) (E := WE W) F1 hr hb (passAt tkk σ) J .nil rz rfl l2 q
end
/-- isinstance(e, c) in an except suite, e of a class without fields -/
def rIsX (K : PySem.W.Frag) (cls : Value) (d : Option Addr) (a : Addr) : List V → Hp → VK → Prop := fun xs H Q => ∃ (D : Addr) (c : V) (cv : Value) (b : Bool), cls = .ref D ∧ d = none ∧ ExcC K D ∧ xs = [.ref a, c] ∧ (∀ u, RelV c u → u = cv) ∧ PySem.W.kitOne K (.ref D) cv = some b ∧ Q (.bl b) H
theorem call_isX {X : Cx} {a : Addr} {cls : Value} {d : Option Addr} {oe : Obj} {pn : List (Addr × Obj)} (K : PySem.W.Frag) (hz : Zc cls d oe) (hf : ∃ vs, oe.data = .fields vs) (hK : X.K = K := by rfl) : CallR (X.suite a ((a, oe) :: pn)) (.builtin "isinstance") (rIsX K cls d a) := by
  subst hK
  intro pins s σ H xs us Q I r h
  obtain ⟨D, c, cv, b, rfl, rfl, C, e, hcv, k, q⟩ := h
  exact call_isE C hz hf pins s σ H xs us Q I r ⟨c, cv, b, e, hcv, k, q⟩
end Kn

set_option Elab.async false
set_option maxRecDepth 100000
set_option linter.all false
namespace Kn
open PySem L2
/-- a def by a promise over its positional values -/
structure FxR (P : Program) (w : World) (K : PySem.W.Frag) (mg : Str → Option Value) (base : Heap) (CX : CXT) (x : Str) (k : Nat) (sp : Sp) : Prop where
  ex : ∃ f : Addr, FnR P w K mg base CX k f sp ∧ mg x = some (.ref f) ∧ PySem.W.keepIn K (.ref f) = true
/-- a def with a star parameter -/
structure FzS (K : PySem.W.Frag) (mg : Str → Option Value) (x : Str) (st : Stmt) (ps : List Str) (pv : Str) : Prop where
  ex : ∃ (f : Addr) (fd : FuncData), Fun K x x st f fd ∧ mg x = some (.ref f) ∧ ∀ us rest : List Value, us.length = ps.length → bindArgs fd ⟨us ++ rest, []⟩ = (newTuple rest >>= fun t => pure (ps.zip us ++ [(pv, t)]))
def starSp (n : Nat) (sp : Sp) : Sp := fun vs H Q E => ∃ ws rest, vs = ws ++ rest ∧ ws.length = n ∧ rest.length ≤ sizeLine ∧ ∀ p, H p = none → sp (ws ++ [V.ref p]) (upd H p (.tup rest)) Q E
theorem FzS.okX {P : Program} {w : World} {K : PySem.W.Frag} {mg : Str → Option Value} {base : Heap} {x pv : Str} {st : Stmt} {ps N : List Str} {k : Nat} {sp : Sp} (F : FzS K mg x st ps pv) (S : FnScope N (ps ++ [pv]) (defScope st))
    (hbody : ∀ (f : Addr) (cdv : Value) (A : Around) (outer : List Env) (s : Shared) (H : Hp) (vs : List V) (Q : VK) (E : XK), Room k (A.deeper (PyProof.Rows.envOfC x (defScope st) s.heap.objs.size f cdv)) → sp vs H Q E →
      ∃ t, PSs (cxOf (L2.CX P w) P w K mg base N x (defScope st) f cdv A outer s H E) (defBody st) t ∧ t { nx := fun _ H' => Q .non H', rt := Q } (start N vs) H) : FxR P w K mg base (L2.CX P w) x (k + 1) (starSp ps.length sp) := by
  obtain ⟨f, fd, F1, m, b⟩ := F.ex
  obtain ⟨oc, od, kV, doc, pm, an, cdv, ct, osl, rfl, lk, hcd⟩ := F1.ex
  exact ⟨f, StX.fn_star lk hcd S StX.cxUp b (hbody f cdv), m, F1.kp⟩
section
variable {X : Cx} {CX : CXT} {k : Nat} {sp : Sp} {x : Str} {p pos : Pos} {e : Expr} {es : List Expr} {t : TA}
theorem run_fnRS {pins : List (Addr × Obj)} {σ : St} {H : Hp} {s : Shared} {f : Addr} {E : XK} {Q : VK} {us : List Value} {vs : List V} (F : FnR X.prog X.w X.K X.mg X.base CX k f sp) (hr : Room k X.A) (hx : PassesAt CX X σ E) (I : Inv X pins σ H s) (r : Vals vs us) (h : sp vs H Q E) :
    wpAny (model X.prog X.w) X.A (call (.ref f) us) (EP X pins σ Q) X.xe s := by
  refine wpAny_call (codeAny_mono (F X.A X.stack s H us vs Q E hr I.env0 r h) fun r s' hq => ?_)
  cases r with
  | error e => exact hx pins H s e s' I hq
  | ok fl =>
    cases fl with
    | ret u => exact I.after hq
    | next => exact False.elim hq
    | brk => exact False.elim hq
    | cont => exact False.elim hq
/-- f(e, ..) of a def with a star, what it raises leaves this def or is caught -/
theorem fcallR {W : WX} (tk : Takes X W) (F : FxR X.prog X.w X.K X.mg X.base (L2.CX X.prog X.w) x k sp) (hr : Room k X.A) (hg : Gl X x) (ha : PA X (e :: es) t)
    (hdb : (x == ("__debug__" : Str)) = false := by decide) (he : starEach (e :: es) X.env = (false, eval e X.env) :: starEach es X.env := by rfl) (hpl : (backTo pos (starEach es X.env)).any (·.1) = false := by rfl) :
    PE X (.Call (.Name x p) (e :: es) [] pos) (tCallS sp (WE W) t) := by
  obtain ⟨f, F1, hm, hk⟩ := F.ex
  refine ⟨fun pins s σ H Q I h => ?_⟩
  refine wpAny_Call_Name_kw (ld_glob I hg hm ?_ hdb)
  refine PySem.W.callWith_K (h₀ := X.base) I.ok.mod.kin hk (thn (ha.run pos pins s σ H _ I h) fun us s1 ⟨vs, H1, I1, r, q⟩ => ⟨I1.kIn, ?_⟩) he hpl
  exact run_fnRS F1 hr (passAt tk σ) I1 r q
end
end Kn

set_option Elab.async false
set_option maxRecDepth 100000
set_option linter.all false
namespace Kn
open PySem L2
theorem nlAll_app : ∀ {ds es : List PyData}, nlAll ds = true → nlAll es = true → nlAll (ds ++ es) = true
  | [], es, _, h => h
  | d :: ds, es, h, k => by
    rw [nlAll, Bool.and_eq_true] at h
    show nlAll (d :: (ds ++ es)) = true
    rw [nlAll, h.1, nlAll_app h.2 k]; rfl
theorem Dr.same {t : Addr} {H H' : Hp} (tp : Tape H t) (e : Same H H') : Dr t H H' := by
  obtain ⟨ns, h⟩ := tp
  exact ⟨⟨ns, e _ _ h⟩, fun b o h _ => e b o h⟩
/-- [.. draws .. for k in range(n)] -/
theorem lc_drawR {K : PySem.W.Frag} {lo : Int} {n : Nat} {g : TG} {tt : TT} {te : TE} {vs : List Nat} {σ : St} {H1 : Hp} {D t : Addr} {Qd : Hp → Prop} (Pd : Nat → List PyData → Prop) (tp : Tape H1 t) (hD : H1 D = none) (hn : n ≤ 1000) (h0 : Pd 0 [])
    (hs : ∀ (i : Nat) (ds : List PyData) (H : Hp) (R1 : Hp → Prop) (R : V → Hp → Prop), i < n → Dr t H1 H → Pd i ds → (∀ y d H', Dr t H H' → Dp K H' y d → nl d = true → Pd (i + 1) (ds ++ [d]) → R y H') →
      g (.int (lo + i)) (wipe σ vs) H fun σ2 H2 => wipe σ2 vs = wipe σ vs ∧ tt σ2 H2 fun b H3 => if b = true then te σ2 H3 R else R1 H3)
    (hd : ∀ H ys ds, Dr t H1 H → H D = some (.lst ys) → DpAll K H ys ds → nlAll ds = true → ds.length = n → Pd n ds → Qd H) : LcR g tt te vs σ D Qd (Itr lo n) H1 := by
  have nt := tp.ne hD
  refine lc_range (fun i H => ∃ ys ds, H D = some (.lst ys) ∧ Dr t H1 H ∧ DpAll K H ys ds ∧ nlAll ds = true ∧ ds.length = i ∧ Pd i ds) ?_ ?_ ?_
  · exact ⟨[], [], upd_same, Dr.new tp hD, .nil, by rw [nlAll], rfl, h0⟩
  · rintro i H hi ⟨ys, ds, eD, dr, hy, hnl, hl, p⟩
    refine hs i ds H _ _ hi dr p fun y d H' d2 hyd hnd p2 => ?_
    have eD2 := d2.keep _ _ eD nt.symm
    have hlen := hy.len
    refine ⟨ys, eD2, small1000 (by omega), ys ++ [y], ds ++ [d], upd_same, (dr.trans d2).upd nt hD, ?_, nlAll_app hnl (by rw [nlAll, nlAll, hnd]; rfl), by simp [hl], p2⟩
    exact DpAll.snoc (DpAll.tups (tups_upd eD2) _ hnl (DpAll.tups (Dr.tups dr.tape d2) _ hnl hy)) (Dp.tups (tups_upd eD2) _ hnd hyd)
  · rintro H ⟨ys, ds, eD, dr, hy, hnl, hl, p⟩
    exact hd H ys ds dr eD hy hnl hl p
end Kn

set_option Elab.async false
set_option maxRecDepth 100000
set_option linter.all false
namespace Kn
open PySem L2
/-! ### written-out data -/
def LitE (K : PySem.W.Frag) (te : TE) (d : PyData) : Prop := ∀ σ H (Q : VK), (∀ v H', Same H H' → Dp K H' v d → Q v H') → te σ H Q
def LitA (K : PySem.W.Frag) (t : TA) (ds : List PyData) : Prop := ∀ σ H (Q : List V → Hp → Prop), (∀ vs H', Same H H' → DpAll K H' vs ds → Q vs H') → t σ H Q
section
variable {K : PySem.W.Frag} {te : TE} {t : TA} {d : PyData} {ds : List PyData}
theorem lit_str {x : Str} : LitE K (tC (.str x)) (.str x) := fun _ H Q k => k _ H (Same.refl _) (.str _)
theorem lit_int {x : Int} : LitE K (tC (.int x)) (.int x) := fun _ H Q k => k _ H (Same.refl _) (.int _)
theorem lit_non : LitE K (tC .non) .none := fun _ H Q k => k _ H (Same.refl _) .non
theorem lit_nil : LitA K tNil [] := fun _ H Q k => k _ H (Same.refl _) .nil
theorem lit_cons (a : LitE K te d) (b : LitA K t ds) : LitA K (tCons te t) (d :: ds) := fun σ H Q k => a σ H _ fun v H1 s1 h1 => b σ H1 _ fun vs H2 s2 h2 => k _ H2 (Same.trans s1 s2) (.cons (Dp.same s2 _ h1) h2)
theorem lit_tup (a : LitA K t ds) (hz : ds.length ≤ 1000 := by decide) : LitE K (tTup t) (.tuple ds) := fun σ H Q k => a σ H _ fun vs H1 s1 h1 => ⟨Nat.le_trans (by rw [h1.len]; exact hz) (show 1000 ≤ sizeLine by decide), fun p hp => k _ _ (Same.trans s1 (same_new hp)) (.tup (SqT.of upd_same) (DpAll.same (same_new hp) _ h1))⟩
theorem lit_lst (a : LitA K t ds) (hz : ds.length ≤ 1000 := by decide) {σ : St} {H : Hp} {Q : VK} (k : ∀ l vs H', H l = none → Same H H' → H' l = some (.lst vs) → DpAll K H' vs ds → Q (.ref l) H') : tLst t σ H Q :=
  a σ H _ fun vs H1 s1 h1 => ⟨Nat.le_trans (by rw [h1.len]; exact hz) (show 1000 ≤ sizeLine by decide), fun p hp => k _ _ _ (by
    cases e : H p with
    | none => rfl
    | some o => have := s1 _ _ e; rw [hp] at this; cases this) (Same.trans s1 (same_new hp)) upd_same (DpAll.same (same_new hp) _ h1)⟩
end
theorem Dr.base {t : Addr} {H H1 H2 : Hp} (ht : H t = none) (sm : Same H H1) (d : Dr t H1 H2) : Same H H2 := fun b o h => d.keep b o (sm b o h) (ne_of_none h ht)
end Kn

set_option Elab.async false
set_option maxRecDepth 100000
set_option linter.all false
namespace Kn
open PySem L2
/-- a def with a star parameter and one keyword-only parameter, by its promise over (the keyword's value :: the positional values) -/
def FnRK (P : Program) (w : World) (K : PySem.W.Frag) (mg : Str → Option Value) (base : Heap) (CX : CXT) (k : Nat) (f : Addr) (kw : Str) (sp : Sp) : Prop :=
  ∀ (A : Around) (outer : List Env) (s : Shared) (H : Hp) (us : List Value) (u : Value) (vs : List V) (v : V) (Q : VK) (E : XK), Room k A → Env0 P w K mg base A outer s H → Vals vs us → RelV v u → sp (v :: vs) H Q E →
    codeAny (model P w) A (.call (.ref f) ⟨us, [(kw, u)]⟩) (CR CX outer P w H s Q E) s
structure FxRK (P : Program) (w : World) (K : PySem.W.Frag) (mg : Str → Option Value) (base : Heap) (CX : CXT) (x : Str) (k : Nat) (kw : Str) (sp : Sp) : Prop where
  ex : ∃ f : Addr, FnRK P w K mg base CX k f kw sp ∧ mg x = some (.ref f) ∧ PySem.W.keepIn K (.ref f) = true
structure FzSK (K : PySem.W.Frag) (mg : Str → Option Value) (x : Str) (st : Stmt) (pv kw : Str) : Prop where
  ex : ∃ (f : Addr) (fd : FuncData), Fun K x x st f fd ∧ mg x = some (.ref f) ∧ ∀ (rest : List Value) (u : Value), bindArgs fd ⟨rest, [(kw, u)]⟩ = (newTuple rest >>= fun t => pure [(kw, u), (pv, t)])
theorem FxRK.imp {P : Program} {w : World} {K : PySem.W.Frag} {mg : Str → Option Value} {base : Heap} {CX : CXT} {x : Str} {k : Nat} {kw : Str} {sp sp' : Sp} (F : FxRK P w K mg base CX x k kw sp) (h : ∀ vs H Q E, sp' vs H Q E → sp vs H Q E) : FxRK P w K mg base CX x k kw sp' :=
  let ⟨f, F1, m⟩ := F.ex
  ⟨f, fun A outer s H us u vs v Q E hr e0 r r2 hs => F1 A outer s H us u vs v Q E hr e0 r r2 (h _ _ _ _ hs), m⟩
def starKSp (sp : Sp) : Sp := fun vs H Q E => ∃ v rest, vs = v :: rest ∧ rest.length ≤ sizeLine ∧ ∀ p, H p = none → sp [v, V.ref p] (upd H p (.tup rest)) Q E
theorem FzSK.okX {P : Program} {w : World} {K : PySem.W.Frag} {mg : Str → Option Value} {base : Heap} {x pv kw : Str} {st : Stmt} {N : List Str} {k : Nat} {sp : Sp} (F : FzSK K mg x st pv kw) (S : FnScope N [kw, pv] (defScope st))
    (hbody : ∀ (f : Addr) (cdv : Value) (A : Around) (outer : List Env) (s : Shared) (H : Hp) (vs : List V) (Q : VK) (E : XK), Room k (A.deeper (PyProof.Rows.envOfC x (defScope st) s.heap.objs.size f cdv)) → sp vs H Q E →
      ∃ t, PSs (cxOf (L2.CX P w) P w K mg base N x (defScope st) f cdv A outer s H E) (defBody st) t ∧ t { nx := fun _ H' => Q .non H', rt := Q } (start N vs) H) : FxRK P w K mg base (L2.CX P w) x (k + 1) kw (starKSp sp) := by
  obtain ⟨f, fd, F1, m, hb⟩ := F.ex
  obtain ⟨oc, od, kV, doc, pm, an, cdv, ct, osl, rfl, lk, hcd⟩ := F1.ex
  refine ⟨f, ?_, m, F1.kp⟩
  intro A outer s H us u vs v Q E hr e0 r ru hsp
  obtain ⟨v, rest, ev, hz, hq⟩ := hsp
  cases ev
  have hn : H s.heap.objs.size = none := e0.hok.fresh (Nat.le_refl _)
  have hl2 : us.length ≤ sizeLine := by rw [← r.length]; exact hz
  refine StX.run_bnd lk hcd S hr e0 (G := fun xs H2 => ∃ p, H p = none ∧ xs = [v, V.ref p] ∧ H2 = upd H p (.tup vs)) (fun A' Ex Q' h => ?_) fun s2 H2 xs ⟨p, hp, ex, eH⟩ hr' => ?_
  · rw [hb us u]
    refine wpAny_bind (wpAny_newTuple (wpAny_pure ?_) hl2)
    have new : ObjOk P w (upd H s.heap.objs.size (.tup vs)) (s.heap.push ({ cls := .type "tuple", data := .seq us.toArray } : Obj)) s.heap.objs.size (.tup vs) := ⟨hz, us, r, ⟨_, Heap.get?_push_size _ rfl, rfl, _, rfl⟩⟩
    have un := StX.un_laid (fs := frs outer) (s := s) (o := ({ cls := .type "tuple", data := .seq us.toArray } : Obj)) (u := .tup vs) hn
    exact h _ _ [v, V.ref s.heap.objs.size] [u, Value.ref s.heap.objs.size] (StX.env0_laid e0 new) un rfl (fun e s' => StX.cxUp outer s H _ _ E e s' un (fun b o q => Heap.get?_push_of_some _ q) rfl) (.cons ru (.cons rfl .nil)) rfl ⟨_, hn, rfl, rfl⟩
  · subst ex eH
    exact hbody f cdv A outer s2 _ _ Q E hr' (hq p hp)
section
variable {X : Cx} {CX : CXT} {k : Nat} {sp : Sp} {x kw : Str} {p pos : Pos} {e : Expr} {es : List Expr} {t tk : TA} {kws : List Keyword}
theorem run_fnRK {pins : List (Addr × Obj)} {σ : St} {H : Hp} {s : Shared} {f : Addr} {E : XK} {Q : VK} {us : List Value} {u : Value} {vs : List V} {v : V} (F : FnRK X.prog X.w X.K X.mg X.base CX k f kw sp) (hr : Room k X.A) (hx : PassesAt CX X σ E) (I : Inv X pins σ H s) (r : Vals vs us) (ru : RelV v u) (h : sp (v :: vs) H Q E) :
    wpAny (model X.prog X.w) X.A (call (.ref f) us [(kw, u)]) (EP X pins σ Q) X.xe s := by
  refine wpAny_call (codeAny_mono (F X.A X.stack s H us u vs v Q E hr I.env0 r ru h) fun r s' hq => ?_)
  cases r with
  | error e => exact hx pins H s e s' I hq
  | ok fl =>
    cases fl with
    | ret u => exact I.after hq
    | next => exact False.elim hq
    | brk => exact False.elim hq
    | cont => exact False.elim hq
def tCallRK (sp : Sp) (E : St → XK) (t tk : TA) : TE := fun σ H Q => t σ H fun vs H1 => tk σ H1 fun zs H2 => ∃ v, zs = [v] ∧ sp (v :: vs) H2 Q (E σ)
/-- f(e, .., kw = v) -/
theorem fcallRK {W : WX} (tkk : Takes X W) (F : FxRK X.prog X.w X.K X.mg X.base (L2.CX X.prog X.w) x k kw sp) (hr : Room k X.A) (hg : Gl X x) (ha : PA X (e :: es) t) (hkw : PK X kws tk)
    (hall : (backToKw pos (keywordEach kws X.env)).all (·.1.isSome) = true := by rfl) (hks : (backToKw pos (keywordEach kws X.env)).filterMap (·.1) = [kw] := by rfl)
    (hdb : (x == ("__debug__" : Str)) = false := by decide) (he : starEach (e :: es) X.env = (false, eval e X.env) :: starEach es X.env := by rfl)
    (hpl : ((backTo pos (starEach (e :: es) X.env)).any (·.1) || (backToKw pos (keywordEach kws X.env)).any (·.1.isNone)) = false := by rfl) :
    PE X (.Call (.Name x p) (e :: es) kws pos) (tCallRK sp (WE W) t tk) := by
  obtain ⟨f, F1, hm, hk⟩ := F.ex
  refine ⟨fun pins s σ H Q I h => ?_⟩
  refine wpAny_Call_Name_kw (ld_glob I hg hm ?_ hdb)
  refine PySem.W.callWith_KW (h₀ := X.base) I.ok.mod.kin hk hall (thn (ha.run pos pins s σ H _ I h) fun us s1 ⟨vs, H1, I1, r, q⟩ => ?_) hpl he
  refine thn (hkw.run pos pins s1 σ H1 _ I1 q) fun ws s2 ⟨zs, H2, I2, rz, v, ez, q2⟩ => ⟨I2.kIn, ?_⟩
  subst ez
  cases rz with
  | cons ru rn =>
    cases rn
    rw [hks]
    exact run_fnRK F1 hr (passAt tkk σ) I2 r ru q2
/-- f(kw = v) -/
theorem fcallRK0 {W : WX} (tkk : Takes X W) (F : FxRK X.prog X.w X.K X.mg X.base (L2.CX X.prog X.w) x k kw sp) (hr : Room k X.A) (hg : Gl X x) (hkw : PK X kws tk)
    (hall : (backToKw pos (keywordEach kws X.env)).all (·.1.isSome) = true := by rfl) (hks : (backToKw pos (keywordEach kws X.env)).filterMap (·.1) = [kw] := by rfl)
    (hdb : (x == ("__debug__" : Str)) = false := by decide)
    (hpl : ((backTo pos (starEach [] X.env)).any (·.1) || (backToKw pos (keywordEach kws X.env)).any (·.1.isNone)) = false := by rfl) :
    PE X (.Call (.Name x p) [] kws pos) (tCallRK sp (WE W) tNil tk) := by
  obtain ⟨f, F1, hm, hk⟩ := F.ex
  refine ⟨fun pins s σ H Q I h => ?_⟩
  refine wpAny_Call_Name_kw (ld_glob I hg hm ?_ hdb)
  refine PySem.W.callWith_KW0 (h₀ := X.base) I.ok.mod.kin hk hall (thn (hkw.run pos pins s σ H _ I h) fun ws s2 ⟨zs, H2, I2, rz, v, ez, q2⟩ => ⟨I2.kIn, ?_⟩) hpl
  subst ez
  cases rz with
  | cons ru rn =>
    cases rn
    rw [hks]
    exact run_fnRK F1 hr (passAt tkk σ) I2 .nil ru q2
end
end Kn

set_option Elab.async false
set_option maxRecDepth 100000
set_option linter.all false
namespace Kn
open PySem L2
def top (i : Nat) : Stmt := PySem.Challenge.pw_kindnotes_k07_rules_are_made.main.body.getD i (.Pass ⟨0, 0, 0, 0⟩)
structure Txt (K : PySem.W.Frag) (mg : Str → Option Value) : Prop where
  b_all : mg "all" = none
  b_int : mg "int" = none
  b_isinstance : mg "isinstance" = none
  b_len : mg "len" = none
  b_list : mg "list" = none
  b_range : mg "range" = none
  b_str : mg "str" = none
  b_tuple : mg "tuple" = none
  c_LARGE : ∃ u, mg "LARGE" = some u ∧ RelV (.str "ABCDEFGHIJKLMNOPQRSTUVWXYZ") u
  c_LONGEST_WORD : ∃ u, mg "LONGEST_WORD" = some u ∧ RelV (.int 12) u
  c_MOST_PARTS : ∃ u, mg "MOST_PARTS" = some u ∧ RelV (.int 3) u
  c_MOST_PLACES : ∃ u, mg "MOST_PLACES" = some u ∧ RelV (.int 3) u
  c_SMALL : ∃ u, mg "SMALL" = some u ∧ RelV (.str "abcdefghijklmnopqrstuvwxyz") u
  e_BadRule : ExcF K mg "BadRule"
  g_BadKind : mg "BadKind" = some (.ref (clsA mg "BadKind"))
  g_NotesError : mg "NotesError" = some (.ref (clsA mg "NotesError"))
  g_BadRule : mg "BadRule" = some (.ref (clsA mg "BadRule"))
  exm_BadRule_NotesError : PySem.W.exmOne K (.ref (clsA mg "BadRule")) (.ref (clsA mg "NotesError")) = some true
  kit_BadRule_BadRule : PySem.W.kitOne K (.ref (clsA mg "BadRule")) (.ref (clsA mg "BadRule")) = some true
  kit_BadRule_BadKind : PySem.W.kitOne K (.ref (clsA mg "BadRule")) (.ref (clsA mg "BadKind")) = some false
  q_BadRule : ExcC K (clsA mg "BadRule")
end Kn

set_option Elab.async false
set_option maxRecDepth 100000
set_option linter.all false
namespace Kn
open PySem L2
local macro_rules | `(tactic| walk_at "wk") => `(tactic| repeat (first
  | refine ⟨_, rfl, ?_⟩
  | refine ⟨_, _, rfl, rfl, ?_⟩
  | refine ⟨⟨by decide, by decide⟩, ?_⟩
  | refine ⟨(by show (0 : Int) < _; decide), ?_⟩
  | refine ⟨Or.inl ⟨by omega, by omega⟩, ?_⟩
  | refine Or.inl ⟨_, rfl, ?_⟩
  | fail))
local macro_rules | `(tactic| walk_at "lits") => `(tactic| repeat (first
  | exact lit_nil
  | exact lit_str
  | exact lit_int
  | exact lit_non
  | refine lit_cons ?_ ?_
  | refine lit_tup ?_
  | fail))
variable {P : Program} {w : World} {K : PySem.W.Frag} {mg : Str → Option Value} {base : Heap}
abbrev s__law_take : Stmt := top 18
abbrev N__law_take : List Str := ["_law_tape_here", "_law_many"]
abbrev P__law_take : List Str := ["_law_tape_here", "_law_many"]
theorem sc__law_take : FnScope N__law_take P__law_take (defScope s__law_take) := ⟨rfl, rfl, rfl, by decide +kernel, rfl, by decide +kernel, by decide +kernel⟩
theorem ok__law_take (F : Fz K mg "_law_take" s__law_take P__law_take) (T : Txt K mg) : Fx P w K mg base CX0 "_law_take" 1 P__law_take spTake := by
  refine F.ok sc__law_take (fun vs H Q E h => ?_) (fun f cdv A outer s H vs Q E hr h => ?_)
  · obtain ⟨t, m, rfl, _⟩ := h
    rfl
  · obtain ⟨t, m, rfl, ⟨ns, ht⟩, hm, k⟩ := h
    refine ⟨_, (pss_cons (ps_if (pt_cmpR op_eq (pe_callB (call_len_seqK K) (by rfl) T.b_len PySem.boot_len (pa_cons (pv 0) pa_nil)) pe_int (nomark _)) (pss_one (ps_ret pe_int)) pss_nil)
      (pss_one (ps_ret (pe_op op_mod (pe_callTy call_int1 (by rfl) T.b_int (by decide +kernel) (pa_cons (pe_bmK K PySem.F.plainAttrs_list PySem.F.slot_list_pop PySem.F.type_list_pop mt_popAt (pv 0) (pa_cons pe_int pa_nil)) pa_nil)) (pv 1))))), ?_⟩
    refine ⟨_, rfl, t, _, rfl, .inl (SqL.of ht), rfl, _, rfl, ?_⟩
    refine ite2 (fun c => ?_) (fun c => ?_)
    · exact k 0 H (Int.le_refl _) hm (Dr.refl ⟨ns, ht⟩)
    · cases ns with
      | nil => exact (c rfl).elim
      | cons n ns =>
        refine ⟨_, rfl, .inl ⟨rfl, _, SqL.of ht⟩, t, _, 0, 0, _, rfl, rfl, ht, by decide, by decide, by simp [seqIndex?], rfl, .inl ⟨n, rfl, ?_⟩⟩
        refine ⟨_, rfl, n, m, rfl, rfl, hm, ?_⟩
        exact k (n % m) _ (Int.emod_nonneg _ (by omega)) (Int.emod_lt_of_pos _ hm) (Dr.put ns)

abbrev s__law_cell : Stmt := top 16
abbrev N__law_cell : List Str := ["_law_script", "_law_k"]
abbrev P__law_cell : List Str := ["_law_script", "_law_k"]
theorem sc__law_cell : FnScope N__law_cell P__law_cell (defScope s__law_cell) := ⟨rfl, rfl, rfl, by decide +kernel, rfl, by decide +kernel, by decide +kernel⟩
def spCell (K : PySem.W.Frag) : Sp := fun vs H Q _ => ∃ (a : Addr) (k : Int) (ns : List Int), vs = [.ref a, .int k] ∧ SqL K H a (ns.map V.int) ∧ 0 ≤ k ∧ ∀ z, Q (.int z) H
theorem ok__law_cell (F : Fz K mg "_law_cell" s__law_cell P__law_cell) (T : Txt K mg) : Fx P w K mg base CX0 "_law_cell" 1 P__law_cell (spCell K) := by
  refine F.ok sc__law_cell (fun vs H Q E h => ?_) (fun f cdv A outer s H vs Q E hr h => ?_)
  · obtain ⟨a, i, ns, rfl, _⟩ := h
    rfl
  · obtain ⟨a, i, ns, rfl, hs, hi, k⟩ := h
    refine ⟨_, (pss_cons (ps_if (pt_cmpR op_lt (pv 1) (pe_callB (call_len_seqK K) (by rfl) T.b_len PySem.boot_len (pa_cons (pv 0) pa_nil)) (nomark _)) (pss_one (ps_ret (pe_ix (ix_listK K) (pv 0) (pv 1) (fun _ _ => rfl)))) pss_nil)
      (pss_one (ps_ret pe_int))), ?_⟩
    refine ⟨_, rfl, _, rfl, a, _, rfl, .inl hs, _, _, rfl, rfl, _, rfl, ?_⟩
    refine ite2 (fun c => ?_) (fun c => ?_)
    · have c := of_decide_eq_true c
      rw [List.length_map] at c
      have hj : i.toNat < ns.length := by omega
      refine ⟨_, rfl, _, rfl, a, _, i, V.int ns[i.toNat], rfl, rfl, hs, at_of (j := i.toNat) (by omega) (by simp [hj]), k _⟩
    · exact k _

abbrev s__law_tape : Stmt := top 17
abbrev N__law_tape : List Str := ["_law_script", "_law_k", "_law_size", "_law_cell_here", "_law_left", "_law_tape_here", "_law_j", "_law_mixed"]
abbrev P__law_tape : List Str := ["_law_script", "_law_k", "_law_size"]
theorem sc__law_tape : FnScope N__law_tape P__law_tape (defScope s__law_tape) := ⟨rfl, rfl, rfl, by decide +kernel, rfl, by decide +kernel, by decide +kernel⟩
def spTape (K : PySem.W.Frag) : Sp := fun vs H Q _ => ∃ (a : Addr) (k n : Int) (ns : List Int), vs = [.ref a, .int k, .int n] ∧ SqL K H a (ns.map V.int) ∧ 0 ≤ k ∧ 0 ≤ n ∧ n ≤ 1000 ∧
  ∀ (t : Addr) (H' : Hp), H t = none → Same H H' → Tape H' t → Q (.ref t) H'
theorem ok__law_tape (F : Fz K mg "_law_tape" s__law_tape P__law_tape) (T : Txt K mg) (G__law_cell : Fx P w K mg base CX0 "_law_cell" 1 P__law_cell (spCell K)) : Fx P w K mg base CX0 "_law_tape" 2 P__law_tape (spTape K) := by
  refine F.ok sc__law_tape (fun vs H Q E h => ?_) (fun f cdv A outer s H vs Q E hr h => ?_)
  · obtain ⟨a, i, n, ns, rfl, _⟩ := h
    rfl
  · obtain ⟨a, i, n, ns, rfl, hs, hi, hn0, hn, k⟩ := h
    refine ⟨_, (pss_cons (ps_set (i := 3) sc__law_tape.nd rfl (Or.inl rfl) (fcall G__law_cell (hr.mono (by first | decide | omega)) (by rfl) (pa_cons (pv 0) (pa_cons (pv 1) pa_nil))))
      (pss_cons (ps_set (i := 4) sc__law_tape.nd rfl (Or.inl rfl) (pv 3))
      (pss_cons (ps_set (i := 5) sc__law_tape.nd rfl (Or.inl rfl) (pe_lst pa_nil))
      (pss_cons (ps_for PassesOwn.never rfl (pi_range1 (by rfl) T.b_range (pa_cons (pv 2) pa_nil)) (pg_name (i := 6) sc__law_tape.nd rfl (Or.inl rfl)) (pss_one (ps_if (PW.pt (pw_and (pt_cmpR op_ge (pv 3) (pe_op op_pow pe_int pe_int) (nomark _)) (pw_and1 (pt_cmpR op_gt (pv 4) pe_int (nomark _))))) (pss_cons (ps_expr (pe_bmK K PySem.F.plainAttrs_list PySem.F.slot_list_append PySem.F.type_list_append mt_append (pv 5) (pa_cons (pe_op op_mod (pe_callTy call_int1 (by rfl) T.b_int (by decide +kernel) (pa_cons (pv 4) pa_nil)) pe_int) pa_nil)))
      (pss_one (ps_set (i := 4) sc__law_tape.nd rfl (Or.inl rfl) (pe_op op_fdiv (pv 4) pe_int)))) (pss_cons (ps_set (i := 7) sc__law_tape.nd rfl (Or.inl rfl) (pe_op op_mod (pe_callTy call_int1 (by rfl) T.b_int (by decide +kernel) (pa_cons (pe_op op_add (pe_op op_mul (pe_op op_mod (pe_callTy call_int1 (by rfl) T.b_int (by decide +kernel) (pa_cons (pv 3) pa_nil)) pe_int) (pe_op op_add pe_int (pe_op op_mul pe_int (pv 6)))) (pe_op op_mul pe_int (pv 6))) pa_nil)) pe_int))
      (pss_one (ps_expr (pe_bmK K PySem.F.plainAttrs_list PySem.F.slot_list_append PySem.F.type_list_append mt_append (pv 5) (pa_cons (pe_op op_add (pv 7) (pe_op op_fdiv (pv 7) pe_int)) pa_nil))))))))
      (pss_one (ps_ret (pv 5))))))), ?_⟩
    refine ⟨_, rfl, _, rfl, a, i, ns, rfl, hs, hi, fun z => ?_⟩
    refine ⟨_, rfl, (by show 0 ≤ sizeLine; decide), fun t ht => ?_⟩
    refine ⟨_, rfl, n, rfl, by omega, by omega, ?_⟩
    refine for_range (n := n.toNat) (fun j σ H2 => ∃ (l : Int) (v6 v7 : Option V) (ms : List Int), σ = [some (.ref a), some (.int i), some (.int n), some (.int z), some (.int l), some (.ref t), v6, v7] ∧ H2 t = some (.lst (ms.map V.int)) ∧ ms.length = j ∧ ∀ b o, H b = some o → H2 b = some o) ?_ ?_ ?_
    · exact ⟨z, _, _, [], rfl, upd_same, rfl, fun b o e => by rw [upd_ne (ne_of_none e ht)]; exact e⟩
    · rintro j σ H2 hj ⟨l, v6, v7, ms, rfl, h2, hl, kp⟩
      have step : ∀ (x : Int) (l' : Int) (v6' v7' : Option V), ∃ (l : Int) (v6 v7 : Option V) (ms' : List Int), [some (V.ref a), some (V.int i), some (V.int n), some (V.int z), some (V.int l'), some (V.ref t), v6', v7'] = [some (V.ref a), some (.int i), some (.int n), some (.int z), some (.int l), some (.ref t), v6, v7] ∧ (upd H2 t (.lst (ms.map V.int ++ [V.int x]))) t = some (.lst (ms'.map V.int)) ∧ ms'.length = j + 1 ∧ ∀ b o, H b = some o → (upd H2 t (.lst (ms.map V.int ++ [V.int x]))) b = some o := fun x l' v6' v7' =>
        ⟨l', v6', v7', ms ++ [x], rfl, by rw [upd_same]; simp, by simp [hl], fun b o e => by rw [upd_ne (ne_of_none e ht)]; exact kp b o e⟩
      have hp : (10 : Int) ^ (18 : Int).toNat = 1000000000000000000 := by decide
      have app : ∀ (x : Int) (l' : Int) (v6' v7' : Option V), (ms.map V.int).length < sizeLine := fun _ _ _ _ => small1000 (by rw [List.length_map]; omega)
      have hm : 0 ≤ z % 9973 ∧ z % 9973 < 9973 := ⟨Int.emod_nonneg _ (by decide), Int.emod_lt_of_pos _ (by decide)⟩
      refine ⟨_, rfl, _, _, rfl, rfl, ⟨by decide, by decide, by decide⟩, _, _, rfl, rfl, _, rfl, ?_⟩
      refine ite2 (fun c => ?_) (fun c => ?_)
      · refine ⟨_, rfl, _, _, rfl, rfl, _, rfl, ?_⟩
        refine ite2 (fun c2 => ?_) (fun c2 => ?_)
        · refine ⟨_, rfl, .inl ⟨rfl, _, SqL.of h2⟩, _, rfl, .inl ⟨l, rfl, ?_⟩⟩
          refine ⟨_, _, rfl, rfl, (by show (0 : Int) < 5040; decide), t, _, _, rfl, rfl, h2, app 0 0 none none, ?_⟩
          refine ⟨_, rfl, _, _, rfl, rfl, ⟨by decide, by decide⟩, ?_⟩
          exact step _ _ _ _
        · walk_at "wk"
          refine ⟨.inl ⟨rfl, _, SqL.of h2⟩, ?_⟩
          walk_at "wk"
          exact ⟨t, _, _, rfl, rfl, h2, app 0 0 none none, step _ _ _ _⟩
      · walk_at "wk"
        refine ⟨.inl ⟨rfl, _, SqL.of h2⟩, ?_⟩
        walk_at "wk"
        exact ⟨t, _, _, rfl, rfl, h2, app 0 0 none none, step _ _ _ _⟩
    · rintro σ H2 ⟨l, v6, v7, ms, rfl, h2, hl, kp⟩
      exact ⟨_, rfl, k t H2 ht kp ⟨ms, h2⟩⟩

end Kn

set_option Elab.async false
set_option maxRecDepth 100000
set_option linter.all false
namespace Kn
open PySem L2
local macro_rules | `(tactic| walk_at "wk") => `(tactic| repeat (first
  | refine ⟨_, rfl, ?_⟩
  | refine ⟨_, _, rfl, rfl, ?_⟩
  | refine ⟨⟨by decide, by decide⟩, ?_⟩
  | refine ⟨(by show (0 : Int) < _; decide), ?_⟩
  | refine ⟨Or.inl ⟨by omega, by omega⟩, ?_⟩
  | refine Or.inl ⟨_, rfl, ?_⟩
  | fail))
local macro_rules | `(tactic| walk_at "lits") => `(tactic| repeat (first
  | exact lit_nil
  | exact lit_str
  | exact lit_int
  | exact lit_non
  | refine lit_cons ?_ ?_
  | refine lit_tup ?_
  | fail))
variable {P : Program} {w : World} {K : PySem.W.Frag} {mg : Str → Option Value} {base : Heap}
theorem DpAll.getMap {α : Type} {K : PySem.W.Frag} {H : Hp} {f : α → PyData} {l : List α} {vs : List V} {i : Nat} {v : V} (a : DpAll K H vs (l.map f)) (e : vs[i]? = some v) : ∃ y, l[i]? = some y ∧ Dp K H v (f y) := by
  obtain ⟨d, hd, h⟩ := a.get e
  rw [List.getElem?_map] at hd
  obtain ⟨y, hy, rfl⟩ := Option.map_eq_some_iff.mp hd
  exact ⟨y, hy, h⟩
theorem take_succ_get {α : Type} {l : List α} {i : Nat} {y : α} (h : l[i]? = some y) : l.take (i + 1) = l.take i ++ [y] := by
  obtain ⟨hi, e⟩ := List.getElem?_eq_some_iff.mp h
  rw [List.take_succ_eq_append_getElem hi, e]
theorem DpAll.take_len {α : Type} {K : PySem.W.Frag} {H : Hp} {f : α → PyData} {l : List α} {vs : List V} (a : DpAll K H vs (l.map f)) : l.take vs.length = l := by
  have := a.len
  rw [List.length_map] at this
  rw [this, List.take_length]
theorem isi {K : PySem.W.Frag} {a b : String} {r : Bool} (h : kitB a b = some r) : PySem.W.kitOne K (.type a) (.type b) = some r := kit_ty h
theorem kit_int_int : kitB "int" "int" = some true := by decide +kernel
theorem kit_int_bool : kitB "int" "bool" = some false := by decide +kernel
theorem kit_str_int : kitB "str" "int" = some false := by decide +kernel
theorem kit_tup_tup : kitB "tuple" "tuple" = some true := by decide +kernel
theorem kit_str_str : kitB "str" "str" = some true := by decide +kernel
theorem kit_tup_str : kitB "tuple" "str" = some false := by decide +kernel
theorem kit_str_tup : kitB "str" "tuple" = some false := by decide +kernel
theorem kit_lst_lst : kitB "list" "list" = some true := by decide +kernel
theorem fits1000 {n : Nat} (h : n ≤ 1000) : n ≤ sizeLine := Nat.le_of_lt (small1000 h)

/-! ### words, letters, forms -/
def SMALLc : List Nat := [97, 98, 99, 100, 101, 102, 103, 104, 105, 106, 107, 108, 109, 110, 111, 112, 113, 114, 115, 116, 117, 118, 119, 120, 121, 122]
def LARGEc : List Nat := [65, 66, 67, 68, 69, 70, 71, 72, 73, 74, 75, 76, 77, 78, 79, 80, 81, 82, 83, 84, 85, 86, 87, 88, 89, 90]
theorem small_c : (Str.ofString "abcdefghijklmnopqrstuvwxyz").cps.toList = SMALLc := by decide +kernel
theorem large_c : (Str.ofString "ABCDEFGHIJKLMNOPQRSTUVWXYZ").cps.toList = LARGEc := by decide +kernel
def isWord (x : Str) : Bool := decide (1 ≤ x.length) && decide (x.length ≤ 12) && x.cps.toList.all fun c => decide (c ∈ SMALLc)
def isLetter (x : Str) : Bool := decide (x.length = 1) && x.cps.toList.all fun c => decide (c ∈ LARGEc)
def isWordD : PyData → Bool
  | .str x => isWord x
  | _ => false
def isLetterD : PyData → Bool
  | .str x => isLetter x
  | _ => false
mutual
def isForm : PyData → Bool
  | .str x => isLetter x
  | .tuple [] => false
  | .tuple (d :: ds) => decide (ds.length ≤ 3) && isWordD d && isForms ds
  | .none => false
  | .bool _ => false
  | .int _ => false
  | .list _ => false
  | .dict _ => false
def isForms : List PyData → Bool
  | [] => true
  | d :: ds => isForm d && isForms ds
end
def strD : PyData → Bool
  | .str _ => true
  | _ => false
def tupD : PyData → Bool
  | .tuple _ => true
  | _ => false
theorem kit_str : ∀ d : PyData, nl d = true → kitB (tyD d) "str" = some (strD d)
  | .none, _ => by decide +kernel
  | .bool _, _ => (show kitB "bool" "str" = some false by decide +kernel)
  | .int _, _ => (show kitB "int" "str" = some false by decide +kernel)
  | .str _, _ => (show kitB "str" "str" = some true by decide +kernel)
  | .list _, n => by simp [nl] at n
  | .dict _, n => by simp [nl] at n
  | .tuple _, _ => (show kitB "tuple" "str" = some false by decide +kernel)
theorem kit_tup : ∀ d : PyData, nl d = true → kitB (tyD d) "tuple" = some (tupD d)
  | .none, _ => by decide +kernel
  | .bool _, _ => (show kitB "bool" "tuple" = some false by decide +kernel)
  | .int _, _ => (show kitB "int" "tuple" = some false by decide +kernel)
  | .str _, _ => (show kitB "str" "tuple" = some false by decide +kernel)
  | .list _, n => by simp [nl] at n
  | .dict _, n => by simp [nl] at n
  | .tuple _, _ => (show kitB "tuple" "tuple" = some true by decide +kernel)
theorem isForms_all : ∀ ds : List PyData, isForms ds = ds.all isForm
  | [] => by rw [isForms]; rfl
  | d :: ds => by rw [isForms, isForms_all ds]; rfl
theorem nl_mem {ds : List PyData} (h : nlAll ds = true) : ∀ d ∈ ds, nl d = true := by
  induction ds with
  | nil => intro d hd; cases hd
  | cons e ds ih =>
    rw [nlAll, Bool.and_eq_true] at h
    intro d hd
    rcases List.mem_cons.mp hd with rfl | hd
    · exact h.1
    · exact ih h.2 d hd
theorem depth_mem : ∀ {ds : List PyData} {d : PyData}, d ∈ ds → d.depth ≤ PyData.depthAll ds
  | e :: ds, d, h => by
    rw [PyData.depthAll]
    rcases List.mem_cons.mp h with rfl | h
    · omega
    · have := depth_mem h; omega
theorem depth_tup (ds : List PyData) : (PyData.tuple ds).depth = PyData.depthAll ds + 1 := by rw [PyData.depth]
mutual
/-- data without lists whose texts fit -/
def fitD : PyData → Bool
  | .str x => decide (x.length ≤ 1000) && PyData.strOk x
  | .tuple ds => decide (ds.length ≤ 1000) && fitAll ds
  | .list _ => false
  | .dict _ => false
  | .none => true
  | .bool _ => true
  | .int _ => true
def fitAll : List PyData → Bool
  | [] => true
  | d :: ds => fitD d && fitAll ds
end
mutual
theorem fit_nl : ∀ d : PyData, fitD d = true → nl d = true
  | .none, _ => by simp [nl]
  | .bool _, _ => by simp [nl]
  | .int _, _ => by simp [nl]
  | .str _, _ => by simp [nl]
  | .list _, h => by simp [fitD] at h
  | .dict _, h => by simp [fitD] at h
  | .tuple ds, h => by
    rw [fitD, Bool.and_eq_true] at h
    rw [nl]
    exact fit_nlAll ds h.2
theorem fit_nlAll : ∀ ds : List PyData, fitAll ds = true → nlAll ds = true
  | [], _ => by rw [nlAll]
  | d :: ds, h => by
    rw [fitAll, Bool.and_eq_true] at h
    rw [nlAll, fit_nl d h.1, fit_nlAll ds h.2]; rfl
end
mutual
theorem fit_lay : ∀ d : PyData, fitD d = true → d.canLay0 = true
  | .none, _ => by simp [PyData.canLay0]
  | .bool _, _ => by simp [PyData.canLay0]
  | .int _, _ => by simp [PyData.canLay0]
  | .str _, h => by
    rw [fitD, Bool.and_eq_true] at h
    rw [PyData.canLay0]; exact h.2
  | .list _, h => by simp [fitD] at h
  | .dict _, h => by simp [fitD] at h
  | .tuple ds, h => by
    rw [fitD, Bool.and_eq_true] at h
    rw [PyData.canLay0]
    exact fit_layAll ds h.2
theorem fit_layAll : ∀ ds : List PyData, fitAll ds = true → PyData.canLayAll0 ds = true
  | [], _ => by rw [PyData.canLayAll0]
  | d :: ds, h => by
    rw [fitAll, Bool.and_eq_true] at h
    rw [PyData.canLayAll0, fit_lay d h.1, fit_layAll ds h.2]; rfl
end
theorem fit_mem {ds : List PyData} (h : fitAll ds = true) : ∀ d ∈ ds, fitD d = true := by
  induction ds with
  | nil => intro d hd; cases hd
  | cons e ds ih =>
    rw [fitAll, Bool.and_eq_true] at h
    intro d hd
    rcases List.mem_cons.mp hd with rfl | hd
    · exact h.1
    · exact ih h.2 d hd
theorem fitAll_of {ds : List PyData} (h : ∀ d ∈ ds, fitD d = true) : fitAll ds = true := by
  induction ds with
  | nil => rw [fitAll]
  | cons e ds ih => rw [fitAll, h e (by simp), ih fun d hd => h d (by simp [hd])]; rfl
theorem fit_str {x : Str} (h : fitD (.str x) = true) : x.length ≤ 1000 := by
  rw [fitD, Bool.and_eq_true] at h
  exact of_decide_eq_true h.1
theorem fit_tup {ds : List PyData} (h : fitD (.tuple ds) = true) : ds.length ≤ 1000 ∧ fitAll ds = true := by
  rw [fitD, Bool.and_eq_true] at h
  exact ⟨of_decide_eq_true h.1, h.2⟩

abbrev s_is_word : Stmt := top 9
abbrev N_is_word : List Str := ["value", "char"]
abbrev P_is_word : List Str := ["value"]
theorem sc_is_word : FnScope N_is_word P_is_word (defScope s_is_word) := ⟨rfl, rfl, rfl, by decide +kernel, rfl, by decide +kernel, by decide +kernel⟩
def spWordQ (K : PySem.W.Frag) : Sp := fun vs H Q _ => ∃ (v : V) (d : PyData), vs = [v] ∧ Dp K H v d ∧ fitD d = true ∧ ∀ H', Same H H' → Q (.bl (isWordD d)) H'
theorem ok_is_word (F : Fz K mg "is_word" s_is_word P_is_word) (T : Txt K mg) : Fx P w K mg base CX0 "is_word" 1 P_is_word (spWordQ K) := by
  refine F.ok sc_is_word (fun vs H Q E h => ?_) (fun f cdv A outer s H vs Q E hr h => ?_)
  · obtain ⟨v, d, rfl, _⟩ := h
    rfl
  · obtain ⟨v, d, rfl, hd, hf, k⟩ := h
    refine ⟨_, (pss_cons (ps_if (PW.pt (pw_or (pt_not (pt_val (pe_callB (call_isi1K K) (by rfl) T.b_isinstance (by decide +kernel) (pa_cons (pv 0) (pa_cons (pe_bltn (v := .ty "str") (by rfl) T.b_str (by decide +kernel) rfl) pa_nil))))) (pw_or (pt_cmpR op_lt (pe_callB call_len_str (by rfl) T.b_len PySem.boot_len (pa_cons (pv 0) pa_nil)) pe_int (nomark _)) (pw_or1 (pt_cmpR op_gt (pe_callB call_len_str (by rfl) T.b_len PySem.boot_len (pa_cons (pv 0) pa_nil)) (pglob rfl T.c_LONGEST_WORD) (nomark _)))))) (pss_one (ps_ret pe_bl)) pss_nil)
      (pss_one (ps_ret (pe_callB (cr_allK K rfl) (by rfl) T.b_all (by decide +kernel) (pa_cons (pe_lc (own := [("char", 1)]) (g := (gName 1)) (tt := tYes) rfl sc_is_word.nd (pi_str (pv 0)) (blkOk_by (own := [("char", 1)]) (N := N_is_word) (sc := defScope s_is_word) (by decide +kernel)) (fun _ _ _ _ _ => (pg_name (i := 1) sc_is_word.nd rfl (Or.inl rfl))) (fun _ _ _ _ _ => pts_nil) (fun _ _ _ _ _ => (pe_cmpR op_in_sign (pv 1) (pglob rfl T.c_SMALL) (by rfl)))) pa_nil))))), ?_⟩
    refine ⟨_, rfl, _, _, _, _, _, rfl, .ty _, Kn.Dp.ty hd, isi (kit_str d (fit_nl d hf)), _, rfl, ?_⟩
    cases d with
    | str x =>
      cases hd
      have hx := fit_str hf
      refine itF rfl ?_
      refine ⟨_, rfl, x, rfl, fits1000 hx, _, _, rfl, rfl, _, rfl, ?_⟩
      refine ite2 (fun c => ?_) (fun c => ?_)
      · have c : ¬ 1 ≤ x.length := by have := of_decide_eq_true c; omega
        have e : isWordD (.str x) = false := by simp [isWordD, isWord, c]
        rw [e] at k
        exact k _ (Same.refl _)
      · have c : 1 ≤ x.length := by
          have c : ¬ (x.length : Int) < 1 := fun z => c (decide_eq_true z)
          omega
        refine ⟨_, rfl, x, rfl, fits1000 hx, _, _, rfl, rfl, _, rfl, ?_⟩
        refine ite2 (fun c2 => ?_) (fun c2 => ?_)
        · have c2 : ¬ x.length ≤ 12 := by have := of_decide_eq_true c2; omega
          have e : isWordD (.str x) = false := by simp [isWordD, isWord, c2]
          rw [e] at k
          exact k _ (Same.refl _)
        · have c2 : x.length ≤ 12 := by
            have c2 : ¬ (12 : Int) < (x.length : Int) := fun z => c2 (decide_eq_true z)
            omega
          refine ⟨_, rfl, x, rfl, fun D hD => ?_⟩
          refine lc_accStr (fun i => ((x.cps.toList.take i).map fun c => decide (c ∈ SMALLc)).map V.bl) hD (by simp) (fun i hi => small1000 (by simp; omega)) ?_ ?_
          · intro i c H1 R1 R hc sm g1 g2
            refine ⟨rfl, yes_ ⟨_, rfl, c, _, rfl, rfl, g2 _ ?_⟩⟩
            rw [take_succ_get hc, List.map_append, List.map_append, small_c]; rfl
          · refine ⟨D, _, rfl, SqL.of upd_same, ?_⟩
            have el : x.cps.toList.take x.length = x.cps.toList := List.take_of_length_le (by show x.cps.toList.length ≤ x.cps.size; simp)
            rw [el]
            have e : isWordD (.str x) = (x.cps.toList.map fun c => decide (c ∈ SMALLc)).all id := by
              show isWord x = _
              unfold isWord
              rw [decide_eq_true c, decide_eq_true c2, List.all_map]; rfl
            rw [e] at k
            exact k _ (same_new hD)
    | none => exact itT rfl (k _ (Same.refl _))
    | bool b => exact itT rfl (k _ (Same.refl _))
    | int i => exact itT rfl (k _ (Same.refl _))
    | tuple ds => exact itT rfl (k _ (Same.refl _))
    | list ds => simp [fitD] at hf
    | dict ds => simp [fitD] at hf
abbrev s_is_letter : Stmt := top 10
abbrev N_is_letter : List Str := ["value"]
abbrev P_is_letter : List Str := ["value"]
theorem sc_is_letter : FnScope N_is_letter P_is_letter (defScope s_is_letter) := ⟨rfl, rfl, rfl, by decide +kernel, rfl, by decide +kernel, by decide +kernel⟩
def spLetQ (K : PySem.W.Frag) : Sp := fun vs H Q _ => ∃ (v : V) (d : PyData), vs = [v] ∧ Dp K H v d ∧ fitD d = true ∧ Q (.bl (isLetterD d)) H
theorem ok_is_letter (F : Fz K mg "is_letter" s_is_letter P_is_letter) (T : Txt K mg) : Fx P w K mg base CX0 "is_letter" 1 P_is_letter (spLetQ K) := by
  refine F.ok sc_is_letter (fun vs H Q E h => ?_) (fun f cdv A outer s H vs Q E hr h => ?_)
  · obtain ⟨v, d, rfl, _⟩ := h
    rfl
  · obtain ⟨v, d, rfl, hd, hf, k⟩ := h
    refine ⟨_, (pss_one (ps_ret (pe_and (pe_callB (call_isi1K K) (by rfl) T.b_isinstance (by decide +kernel) (pa_cons (pv 0) (pa_cons (pe_bltn (v := .ty "str") (by rfl) T.b_str (by decide +kernel) rfl) pa_nil))) (pe_and (pe_cmpR op_eq (pe_callB call_len_str (by rfl) T.b_len PySem.boot_len (pa_cons (pv 0) pa_nil)) pe_int (nomark _)) (pe_one (pe_cmpR op_in_sign (pv 0) (pglob rfl T.c_LARGE) (by rfl))))))), ?_⟩
    refine ⟨_, rfl, _, _, _, _, _, rfl, .ty _, Kn.Dp.ty hd, isi (kit_str d (fit_nl d hf)), _, rfl, ?_⟩
    cases d with
    | str x =>
      cases hd
      have hx := fit_str hf
      refine itT rfl ?_
      refine ⟨_, rfl, x, rfl, fits1000 hx, rfl, _, rfl, ?_⟩
      by_cases c : x.length = 1
      · refine itT (b := decide (V.int (x.length : Int) = V.int 1)) (decide_eq_true (by rw [c]; rfl)) ?_
        obtain ⟨arr⟩ := x
        have c' : arr.size = 1 := c
        obtain ⟨cc, hcc⟩ : ∃ cc, arr = #[cc] := by
          match arr, c' with
          | ⟨[cc]⟩, _ => exact ⟨cc, rfl⟩
        subst hcc
        refine ⟨_, rfl, cc, _, rfl, rfl, ?_⟩
        have e : isLetterD (.str ⟨#[cc]⟩) = decide (cc ∈ LARGEc) := by
          show (decide ((⟨#[cc]⟩ : Str).length = 1) && ([cc].all fun c => decide (c ∈ LARGEc))) = _
          have c : decide ((⟨#[cc]⟩ : Str).length = 1) = true := decide_eq_true c
          rw [c]; simp
        rw [e] at k
        rw [large_c]
        exact k
      · refine itF (b := decide (V.int (x.length : Int) = V.int 1)) (decide_eq_false fun z => c (by injection z with z; omega)) ?_
        have e : isLetterD (.str x) = false := by simp [isLetterD, isLetter, c]
        rw [e] at k
        exact k
    | none => exact itF rfl k
    | bool b => exact itF rfl k
    | int i => exact itF rfl k
    | tuple ds => exact itF rfl k
    | list ds => simp [fitD] at hf
    | dict ds => simp [fitD] at hf

abbrev s_is_form : Stmt := top 11
abbrev N_is_form : List Str := ["value", "part"]
abbrev P_is_form : List Str := ["value"]
theorem sc_is_form : FnScope N_is_form P_is_form (defScope s_is_form) := ⟨rfl, rfl, rfl, by decide +kernel, rfl, by decide +kernel, by decide +kernel⟩
def spFormQ (K : PySem.W.Frag) (n : Nat) : Sp := fun vs H Q _ => ∃ (v : V) (d : PyData), vs = [v] ∧ Dp K H v d ∧ fitD d = true ∧ d.depth < n ∧ ∀ H', Same H H' → Q (.bl (isForm d)) H'
theorem ok_is_form (F : Fz K mg "is_form" s_is_form P_is_form) (T : Txt K mg) (G_is_word : Fx P w K mg base CX0 "is_word" 1 P_is_word (spWordQ K)) (G_is_letter : Fx P w K mg base CX0 "is_letter" 1 P_is_letter (spLetQ K)) : ∀ n, Fx P w K mg base CX0 "is_form" (n + 2) P_is_form (spFormQ K n)
  | 0 => F.none fun vs H Q E ⟨v, d, _, _, _, z, _⟩ => by omega
  | n + 1 => by
    have G_is_form := ok_is_form F T G_is_word G_is_letter n
    refine F.ok sc_is_form (fun vs H Q E h => ?_) (fun f cdv A outer s H vs Q E hr h => ?_)
    · obtain ⟨v, d, rfl, _⟩ := h
      rfl
    · obtain ⟨v, d, rfl, hd, hf, hdep, k⟩ := h
      refine ⟨_, (pss_cons (ps_if (pt_val (fcall G_is_letter (hr.mono (by first | decide | omega)) (by rfl) (pa_cons (pv 0) pa_nil))) (pss_one (ps_ret pe_bl)) pss_nil)
      (pss_cons (ps_if (PW.pt (pw_or (pt_not (pt_val (pe_callB (call_isi1K K) (by rfl) T.b_isinstance (by decide +kernel) (pa_cons (pv 0) (pa_cons (pe_bltn (v := .ty "tuple") (by rfl) T.b_tuple (by decide +kernel) rfl) pa_nil))))) (pw_or (pt_cmpR op_lt (pe_callB (call_len_seqK K) (by rfl) T.b_len PySem.boot_len (pa_cons (pv 0) pa_nil)) pe_int (nomark _)) (pw_or1 (pt_cmpR op_gt (pe_callB (call_len_seqK K) (by rfl) T.b_len PySem.boot_len (pa_cons (pv 0) pa_nil)) (pe_op op_add (pglob rfl T.c_MOST_PARTS) pe_int) (nomark _)))))) (pss_one (ps_ret pe_bl)) pss_nil)
      (pss_one (ps_ret (pe_and (fcall G_is_word (hr.mono (by first | decide | omega)) (by rfl) (pa_cons (pe_ix (ix_tupK K) (pv 0) pe_int (fun _ _ => rfl)) pa_nil)) (pe_one (pe_callB (cr_allK K rfl) (by rfl) T.b_all (by decide +kernel) (pa_cons (pe_lc (own := [("part", 1)]) (g := (gName 1)) (tt := tYes) rfl sc_is_form.nd (pi_tupK K (pe_slice (sl_tupAK K) (pv 0) (po_some pe_int) po_none)) (blkOk_by (own := [("part", 1)]) (N := N_is_form) (sc := defScope s_is_form) (by decide +kernel)) (fun _ _ _ _ _ => (pg_name (i := 1) sc_is_form.nd rfl (Or.inl rfl))) (fun _ _ _ _ _ => pts_nil) (fun _ _ _ _ _ => (fcall G_is_form (hr.mono (by first | decide | omega)) (by rfl) (pa_cons (pv 1) pa_nil)))) pa_nil)))))))), ?_⟩
      refine ⟨_, rfl, v, d, rfl, hd, hf, _, rfl, ?_⟩
      cases d with
      | str x =>
        refine ite2 (fun c => ?_) (fun c => ?_)
        · have e : isForm (.str x) = true := by rw [isForm]; exact c
          rw [e] at k
          exact k _ (Same.refl _)
        · have e : isForm (.str x) = false := by rw [isForm]; exact Bool.eq_false_iff.mpr c
          rw [e] at k
          refine ⟨_, rfl, _, _, _, _, _, rfl, .ty _, Kn.Dp.ty hd, isi (kit_tup _ (fit_nl _ hf)), _, rfl, itT rfl (k _ (Same.refl _))⟩
      | none =>
        refine itF rfl ⟨_, rfl, _, _, _, _, _, rfl, .ty _, Kn.Dp.ty hd, isi (kit_tup _ (fit_nl _ hf)), _, rfl, itT rfl ?_⟩
        have k := k _ (Same.refl _)
        rw [isForm] at k
        exact k
      | bool b =>
        refine itF rfl ⟨_, rfl, _, _, _, _, _, rfl, .ty _, Kn.Dp.ty hd, isi (kit_tup _ (fit_nl _ hf)), _, rfl, itT rfl ?_⟩
        have k := k _ (Same.refl _)
        rw [isForm] at k
        exact k
      | int i =>
        refine itF rfl ⟨_, rfl, _, _, _, _, _, rfl, .ty _, Kn.Dp.ty hd, isi (kit_tup _ (fit_nl _ hf)), _, rfl, itT rfl ?_⟩
        have k := k _ (Same.refl _)
        rw [isForm] at k
        exact k
      | list ds => simp [fitD] at hf
      | dict ds => simp [fitD] at hf
      | tuple ds =>
        refine itF rfl ⟨_, rfl, _, _, _, _, _, rfl, .ty _, Kn.Dp.ty hd, isi (kit_tup _ (fit_nl _ hf)), _, rfl, itF rfl ?_⟩
        obtain ⟨a, xs, rfl, ha, hx⟩ := hd.tup_inv
        obtain ⟨hl, hfa⟩ := fit_tup hf
        have hlen := hx.len
        rw [depth_tup] at hdep
        refine ⟨_, rfl, a, _, rfl, .inr ha, _, _, rfl, rfl, _, rfl, ?_⟩
        refine ite2 (fun c => ?_) (fun c => ?_)
        · have c : ¬ 1 ≤ ds.length := by have := of_decide_eq_true c; omega
          have e0 : ds = [] := List.length_eq_zero_iff.mp (by omega)
          subst e0
          have k := k _ (Same.refl _)
          rw [isForm] at k
          exact k
        · have c : 1 ≤ ds.length := by
            have c : ¬ (xs.length : Int) < 1 := fun z => c (decide_eq_true z)
            omega
          refine ⟨_, rfl, a, _, rfl, .inr ha, _, _, rfl, rfl, _, _, rfl, rfl, _, rfl, ?_⟩
          refine ite2 (fun c2 => ?_) (fun c2 => ?_)
          · have c2 : ¬ ds.length ≤ 4 := by have := of_decide_eq_true c2; omega
            cases ds with
            | nil => simp at c
            | cons d0 ds =>
              have k := k _ (Same.refl _)
              rw [isForm, decide_eq_false (by simp at c2; omega)] at k
              exact k
          · have c2 : ds.length ≤ 4 := by
              have c2 : ¬ (3 + 1 : Int) < (xs.length : Int) := fun z => c2 (decide_eq_true z)
              omega
            cases ds with
            | nil => simp at c
            | cons d0 ds =>
              rw [isForm, decide_eq_true (show ds.length ≤ 3 by simp at c2; omega), Bool.true_and] at k
              cases hx with
              | cons h0 hx =>
                rename_i v0 vs0
                refine ⟨_, rfl, a, _, 0, _, rfl, rfl, ha, at_of (j := 0) rfl rfl, _, d0, rfl, h0, fit_mem hfa d0 (by simp), fun H1 sm1 => ⟨_, rfl, ?_⟩⟩
                cases cw : isWordD d0 with
                | false =>
                  refine iteF ?_
                  rw [cw] at k
                  exact k _ sm1
                | true =>
                  refine iteT ?_
                  rw [cw] at k
                  refine ⟨_, rfl, 1, rfl, a, _, rfl, SqT.same sm1 ha, fun z => ?_, fun _ q hq => ?_⟩
                  · rw [sIx_nat (i := 1) (z := 1) rfl (by simp)] at z
                    exact absurd z.1 (by decide)
                  · rw [cut_drop (i := 1) (z := 1) rfl (by simp)]
                    generalize zz2 : upd _ q _ = H2
                    obtain ⟨s2, g2⟩ := gen_new zz2 hq
                    have g2 : H2 q = some (.tup vs0) := g2
                    refine ⟨q, rfl, ⟨_, SqT.of g2⟩, fun D hD => ?_⟩
                    refine lc_growT (fun i => ((ds.take i).map isForm).map V.bl) hD (SqT.of g2) (by simp) (fun i hi => small1000 (by simp at *; omega)) ?_ ?_
                    · intro i x H3 R1 R hxi sm3 g1' g2'
                      obtain ⟨e, he, hed⟩ := hx.get hxi
                      have hem := List.mem_of_getElem? he
                      refine ⟨rfl, yes_ ⟨_, rfl, x, e, rfl, Dp.same sm3 _ (Dp.same s2 _ (Dp.same sm1 _ hed)), fit_mem hfa e (by simp [hem]), ?_, fun H4 sm4 => g2' _ _ sm4 ?_⟩⟩
                      · have := depth_mem (List.mem_cons_of_mem d0 hem); omega
                      · rw [take_succ_get he, List.map_append, List.map_append]; rfl
                    · intro H3 sm3 eD
                      refine ⟨D, _, rfl, SqL.of eD, ?_⟩
                      have el : ds.take vs0.length = ds := by
                        have := hx.len
                        rw [this, List.take_length]
                      rw [el]
                      have e : (ds.map isForm).all id = isForms ds := by
                        rw [isForms_all, List.all_map]; rfl
                      rw [e]
                      simp only [Bool.true_and] at k
                      exact k _ (Same.trans sm1 (Same.trans s2 sm3))

end Kn

set_option Elab.async false
set_option maxRecDepth 100000
set_option linter.all false
namespace Kn
open PySem L2
local macro_rules | `(tactic| walk_at "wk") => `(tactic| repeat (first
  | refine ⟨_, rfl, ?_⟩
  | refine ⟨_, _, rfl, rfl, ?_⟩
  | refine ⟨⟨by decide, by decide⟩, ?_⟩
  | refine ⟨(by show (0 : Int) < _; decide), ?_⟩
  | refine ⟨Or.inl ⟨by omega, by omega⟩, ?_⟩
  | refine Or.inl ⟨_, rfl, ?_⟩
  | fail))
local macro_rules | `(tactic| walk_at "lits") => `(tactic| repeat (first
  | exact lit_nil
  | exact lit_str
  | exact lit_int
  | exact lit_non
  | refine lit_cons ?_ ?_
  | refine lit_tup ?_
  | fail))
variable {P : Program} {w : World} {K : PySem.W.Frag} {mg : Str → Option Value} {base : Heap}
theorem joinL_one : ∀ cs : List Nat, TL.joinL [] (cs.map fun c => [c]) = cs
  | [] => rfl
  | [c] => rfl
  | c :: d :: cs => by
    have h := joinL_one (d :: cs)
    show [c] ++ [] ++ TL.joinL [] ((d :: cs).map fun c => [c]) = c :: d :: cs
    rw [h]; rfl
theorem join_one (cs : List Nat) : PySem.Txt.join "" (cs.map fun c => (⟨#[c]⟩ : Str)) = ⟨cs.toArray⟩ := by
  have h := SX.join_S [] (cs.map fun c => [c])
  rw [joinL_one, List.map_map] at h
  exact h
theorem isWord_of {cs : List Nat} (h1 : 1 ≤ cs.length) (h2 : cs.length ≤ 12) (h : ∀ c ∈ cs, c ∈ SMALLc) : isWord ⟨cs.toArray⟩ = true := by
  have e : (⟨cs.toArray⟩ : Str).length = cs.length := by show cs.toArray.size = _; simp
  unfold isWord
  rw [e, decide_eq_true h1, decide_eq_true h2, Bool.true_and, Bool.true_and, List.all_eq_true]
  intro c hc
  exact decide_eq_true (h c (by simpa using hc))
theorem strOk_of {x : Str} (h : ∀ c ∈ x.cps.toList, c ∈ SMALLc ++ LARGEc) : PyData.strOk x = true := by
  unfold PyData.strOk
  rw [← Array.all_toList, List.all_eq_true]
  intro c hc
  have e : ∀ c ∈ SMALLc ++ LARGEc, decide (c < 0x110000) = true := by decide +kernel
  exact e c (h c hc)
theorem sum_one : ∀ cs : List Nat, ((cs.map fun c => (⟨#[c]⟩ : Str)).map (·.length)).sum = cs.length
  | [] => rfl
  | c :: cs => by
    have h := sum_one cs
    simp only [List.map_cons, List.sum_cons, h, List.length_cons]
    show 1 + cs.length = cs.length + 1
    omega
abbrev s__law_word : Stmt := top 19
abbrev N__law_word : List Str := ["_law_tape_here", "_law_alphabet", "_law_k"]
abbrev P__law_word : List Str := ["_law_tape_here"]
theorem sc__law_word : FnScope N__law_word P__law_word (defScope s__law_word) := ⟨rfl, rfl, rfl, by decide +kernel, rfl, by decide +kernel, by decide +kernel⟩
def spWord : Sp := fun vs H Q _ => ∃ t : Addr, vs = [.ref t] ∧ Tape H t ∧ ∀ (cs : List Nat) (H' : Hp), 1 ≤ cs.length → cs.length ≤ 12 → (∀ c ∈ cs, c ∈ SMALLc) → Dr t H H' → Q (.str ⟨cs.toArray⟩) H'
theorem ok__law_word (F : Fz K mg "_law_word" s__law_word P__law_word) (T : Txt K mg) (G__law_take : Fx P w K mg base CX0 "_law_take" 1 P__law_take spTake) : Fx P w K mg base CX0 "_law_word" 2 P__law_word spWord := by
  refine F.ok sc__law_word (fun vs H Q E h => ?_) (fun f cdv A outer s H vs Q E hr h => ?_)
  · obtain ⟨t, rfl, _⟩ := h
    rfl
  · obtain ⟨t, rfl, tp, k⟩ := h
    refine ⟨_, (pss_cons (ps_set (i := 1) sc__law_word.nd rfl (Or.inr rfl) pe_str)
      (pss_one (ps_ret (pe_bmK K PySem.F.plainAttrs_str PySem.F.slot_str_join PySem.F.type_str_join (mt_joinK K) pe_str (pa_cons (pe_lc (own := [("_law_k", 2)]) (g := (gName 2)) (tt := tYes) rfl sc__law_word.nd (pi_range1 (by rfl) T.b_range (pa_cons (pe_op op_add pe_int (fcall G__law_take (hr.mono (by first | decide | omega)) (by rfl) (pa_cons (pv 0) (pa_cons pe_int pa_nil)))) pa_nil)) (blkOk_by (own := [("_law_k", 2)]) (N := N__law_word) (sc := defScope s__law_word) (by decide +kernel)) (fun _ _ _ _ _ => (pg_name (i := 2) sc__law_word.nd rfl (Or.inl rfl))) (fun _ _ _ _ _ => pts_nil) (fun _ _ _ _ _ => (pe_ix ix_str (pv 1) (fcall G__law_take (hr.mono (by first | decide | omega)) (by rfl) (pa_cons (pv 0) (pa_cons pe_int pa_nil))) (fun _ _ => rfl)))) pa_nil))))), ?_⟩
    refine ⟨rfl, _, rfl, t, 12, rfl, tp, by decide, fun r H1 h0 h1 d1 => ?_⟩
    refine ⟨_, _, rfl, rfl, _, rfl, by omega, by omega, fun D hD => ?_⟩
    refine lc_drawR (K := K) (t := t) (fun i ds => ∃ cs : List Nat, ds = cs.map (fun c => PyData.str ⟨#[c]⟩) ∧ ∀ c ∈ cs, c ∈ SMALLc) d1.tape hD (by omega) ⟨[], rfl, by simp⟩ ?_ ?_
    · rintro i ds H2 R1 R hi d2 ⟨cs, rfl, hcs⟩ g
      refine ⟨rfl, yes_ ⟨_, rfl, _, rfl, t, 26, rfl, d2.tape, by decide, fun r2 H3 a0 a1 d3 => ?_⟩⟩
      obtain ⟨c, hc⟩ : ∃ c, SMALLc[r2.toNat]? = some c := by
        have : r2.toNat < SMALLc.length := by show r2.toNat < 26; omega
        exact ⟨_, List.getElem?_eq_getElem this⟩
      refine ⟨_, r2, c, rfl, rfl, by decide +kernel, ?_, g _ _ _ d3 (.str _) rfl ⟨cs ++ [c], by simp, fun c' h' => ?_⟩⟩
      · rw [small_c, show r2 = ((r2.toNat : Nat) : Int) by omega]
        exact atI_nat hc
      · rcases List.mem_append.mp h' with h' | h'
        · exact hcs c' h'
        · rw [List.mem_singleton.mp h']; exact List.mem_of_getElem? hc
    · rintro H2 ys ds d2 eD hy hnl hl ⟨cs, rfl, hcs⟩
      have e : cs.map (fun c => PyData.str ⟨#[c]⟩) = (cs.map fun c => (⟨#[c]⟩ : Str)).map PyData.str := by rw [List.map_map]; rfl
      rw [e] at hy
      have hy := DpAll.strs_inv hy
      subst hy
      rw [List.length_map] at hl
      refine ⟨_, D, _, rfl, rfl, .inl (SqL.of eD), ?_, ?_⟩
      · rw [sum_one, List.length_map]
        show cs.length + cs.length * 0 ≤ 16777216
        omega
      · rw [join_one]
        exact k cs H2 (by omega) (by omega) hcs (d1.trans d2)

theorem isLetter_one {c : Nat} (h : c ∈ LARGEc) : isLetter ⟨#[c]⟩ = true := by
  unfold isLetter
  rw [show (⟨#[c]⟩ : Str).length = 1 from rfl]
  simp [h]
theorem fit_letter {c : Nat} (h : c ∈ LARGEc) : fitD (.str ⟨#[c]⟩) = true := by
  rw [fitD, strOk_of (x := ⟨#[c]⟩) (fun d hd => by
    have : d = c := by simpa using hd
    rw [this]; simp [h]), decide_eq_true (show (⟨#[c]⟩ : Str).length ≤ 1000 by show 1 ≤ 1000; decide)]; rfl
theorem fit_word {cs : List Nat} (h2 : cs.length ≤ 12) (h : ∀ c ∈ cs, c ∈ SMALLc) : fitD (.str ⟨cs.toArray⟩) = true := by
  have e : (⟨cs.toArray⟩ : Str).length = cs.length := by show cs.toArray.size = _; simp
  rw [fitD, strOk_of (x := ⟨cs.toArray⟩) (fun d hd => by
    have : d ∈ cs := by simpa using hd
    simp [h d this]), e, decide_eq_true (show cs.length ≤ 1000 by omega)]; rfl
theorem depthAll_le {n : Nat} : ∀ {ds : List PyData}, (∀ d ∈ ds, d.depth ≤ n) → PyData.depthAll ds ≤ n
  | [], _ => by rw [PyData.depthAll]; omega
  | d :: ds, h => by
    rw [PyData.depthAll]
    have := h d (by simp)
    have := depthAll_le (ds := ds) fun e he => h e (by simp [he])
    omega
abbrev s__law_pattern : Stmt := top 20
abbrev N__law_pattern : List Str := ["_law_tape_here", "_law_depth", "_law_word_here", "_law_k"]
abbrev P__law_pattern : List Str := ["_law_tape_here", "_law_depth"]
theorem sc__law_pattern : FnScope N__law_pattern P__law_pattern (defScope s__law_pattern) := ⟨rfl, rfl, rfl, by decide +kernel, rfl, by decide +kernel, by decide +kernel⟩
def spPat (K : PySem.W.Frag) (n : Nat) : Sp := fun vs H Q _ => ∃ t : Addr, vs = [.ref t, .int n] ∧ Tape H t ∧ ∀ (v : V) (d : PyData) (H' : Hp), Dr t H H' → Dp K H' v d → isForm d = true → fitD d = true → d.depth ≤ n → Q v H'
theorem pat_step {sp' : Sp} {l : Nat} (F : Fz K mg "_law_pattern" s__law_pattern P__law_pattern) (T : Txt K mg) (G__law_take : Fx P w K mg base CX0 "_law_take" 1 P__law_take spTake) (G__law_word : Fx P w K mg base CX0 "_law_word" 2 P__law_word spWord)
    (n : Nat) (G__law_pattern : Fx P w K mg base CX0 "_law_pattern" (l + 2) P__law_pattern sp') (hsp : ∀ m, m + 1 = n → ∀ vs H Q E, spPat K m vs H Q E → sp' vs H Q E) : Fx P w K mg base CX0 "_law_pattern" (l + 3) P__law_pattern (spPat K n) := by
  refine F.ok sc__law_pattern (fun vs H Q E h => ?_) (fun f cdv A outer s H vs Q E hr h => ?_)
  · obtain ⟨t, rfl, _⟩ := h
    rfl
  · obtain ⟨t, rfl, tp, k⟩ := h
    refine ⟨_, (pss_cons (ps_if (PW.pt (pw_or (pt_cmpR op_eq (pv 1) pe_int (nomark _)) (pw_or1 (pt_cmpR op_eq (fcall G__law_take (hr.mono (by first | decide | omega)) (by rfl) (pa_cons (pv 0) (pa_cons pe_int pa_nil))) pe_int (nomark _))))) (pss_one (ps_ret (pe_ix ix_str pe_str (fcall G__law_take (hr.mono (by first | decide | omega)) (by rfl) (pa_cons (pv 0) (pa_cons pe_int pa_nil))) (fun _ _ => rfl)))) pss_nil)
      (pss_cons (ps_set (i := 2) sc__law_pattern.nd rfl (Or.inl rfl) (fcall G__law_word (hr.mono (by first | decide | omega)) (by rfl) (pa_cons (pv 0) pa_nil)))
      (pss_one (ps_ret (pe_op (op_catAK K) (pe_tup (pa_cons (pv 2) pa_nil)) (pe_callTy (call_tuple_ofK K) (by rfl) T.b_tuple (by decide +kernel) (pa_cons (pe_lc (own := [("_law_k", 3)]) (g := (gName 3)) (tt := tYes) rfl sc__law_pattern.nd (pi_range1 (by rfl) T.b_range (pa_cons (fcall G__law_take (hr.mono (by first | decide | omega)) (by rfl) (pa_cons (pv 0) (pa_cons pe_int pa_nil))) pa_nil)) (blkOk_by (own := [("_law_k", 3)]) (N := N__law_pattern) (sc := defScope s__law_pattern) (by decide +kernel)) (fun _ _ _ _ _ => (pg_name (i := 3) sc__law_pattern.nd rfl (Or.inl rfl))) (fun _ _ _ _ _ => pts_nil) (fun _ _ _ _ _ => (fcall G__law_pattern (hr.mono (by first | decide | omega)) (by rfl) (pa_cons (pv 0) (pa_cons (pe_op op_sub (pv 1) pe_int) pa_nil))))) pa_nil))))))), ?_⟩
    have leaf : ∀ H1, Dr t H H1 → ∀ (r : Int) (H2 : Hp), 0 ≤ r → r < 26 → Dr t H1 H2 → rIxS (.str "ABCDEFGHIJKLMNOPQRSTUVWXYZ") (.int r) H2 Q := fun H1 d1 r H2 a0 a1 d2 => by
      obtain ⟨c, hc⟩ : ∃ c, LARGEc[r.toNat]? = some c := by
        have : r.toNat < LARGEc.length := by show r.toNat < 26; omega
        exact ⟨_, List.getElem?_eq_getElem this⟩
      have hm := List.mem_of_getElem? hc
      refine ⟨_, r, c, rfl, rfl, by decide +kernel, ?_, k _ (.str ⟨#[c]⟩) _ (d1.trans d2) (.str _) (by rw [isForm]; exact isLetter_one hm) (fit_letter hm) (by simp [PyData.depth])⟩
      rw [large_c, show r = ((r.toNat : Nat) : Int) by omega]
      exact atI_nat hc
    by_cases hn : n = 0
    · subst hn
      refine ⟨_, rfl, rfl, _, rfl, iteT ?_⟩
      exact ⟨_, rfl, t, 26, rfl, tp, by decide, leaf H (Dr.refl tp)⟩
    · refine ⟨_, rfl, rfl, _, rfl, itF (b := decide (V.int (n : Int) = V.int 0)) (decide_eq_false fun z => hn (by injection z with z; omega)) ?_⟩
      refine ⟨_, rfl, t, 2, rfl, tp, by decide, fun r H1 a0 a1 d1 => ⟨rfl, _, rfl, ?_⟩⟩
      refine ite2 (fun c => ?_) (fun c => ?_)
      · exact ⟨_, rfl, t, 26, rfl, d1.tape, by decide, leaf H1 d1⟩
      · refine ⟨_, rfl, t, rfl, d1.tape, fun cs H2 b1 b2 b3 d2 => ?_⟩
        refine ⟨_, rfl, (by show 1 ≤ sizeLine; decide), fun p hp => ?_⟩
        generalize z1 : upd _ p _ = H3
        have d3 : Dr t H2 H3 := by rw [← z1]; exact Dr.new d2.tape hp
        obtain ⟨s3, g3⟩ := gen_new z1 hp
        refine ⟨_, rfl, t, 4, rfl, d3.tape, by decide, fun q H4 e0 e1 d4 => ?_⟩
        refine ⟨_, rfl, by omega, by omega, fun D hD => ?_⟩
        refine lc_drawR (K := K) (t := t) (fun i ds => ∀ d ∈ ds, isForm d = true ∧ fitD d = true ∧ d.depth + 1 ≤ n) d4.tape hD (by omega) (by simp) ?_ ?_
        · intro i ds H5 R1 R hi d5 hds g
          obtain ⟨m, rfl⟩ : ∃ m, n = m + 1 := ⟨n - 1, by omega⟩
          refine ⟨rfl, yes_ ⟨_, rfl, _, rfl, _, _, rfl, rfl, hsp m rfl _ _ _ _ ⟨t, ?_, d5.tape, fun v d H6 d6 hd f1 f2 f3 => ?_⟩⟩⟩
          · exact congrArg (fun z => [V.ref t, V.int z]) (show ((m + 1 : Nat) : Int) - 1 = m by omega)
          · refine g v d H6 d6 hd (fit_nl d f2) fun x hx => ?_
            rcases List.mem_append.mp hx with hx | hx
            · exact hds x hx
            · rw [List.mem_singleton.mp hx]; exact ⟨f1, f2, by omega⟩
        · intro H5 ys ds d5 eD hy hnl hl hds
          dsimp only [tNil]
          have np : p ≠ t := fun e => by
            have := (d2.tape).ne hp
            exact this e.symm
          have g5 : H5 p = some (.tup [.str ⟨cs.toArray⟩]) := d5.keep _ _ (d4.keep _ _ g3 np) np
          refine tupof_ (.inl (SqL.of eD)) fun r' H6 s6 h6 => ?_
          have hlen := hy.len
          refine cat_ (SqT.of (s6 _ _ g5)) h6 (fits1000 (by simp; omega)) fun r7 H7 s7 h7 => ?_
          have s57 := Same.trans s6 s7
          have d57 : Dr t H5 H7 := Dr.same d5.tape s57
          refine k _ (.tuple (.str ⟨cs.toArray⟩ :: ds)) H7 ((((d1.trans d2).trans d3).trans d4).trans (d5.trans d57)) (.tup h7 (.cons (.str _) (DpAll.same s57 _ hy))) ?_ ?_ ?_
          · rw [isForm, decide_eq_true (show ds.length ≤ 3 by omega), isForms_all]
            have e1 : isWordD (.str ⟨cs.toArray⟩) = true := isWord_of b1 b2 b3
            rw [e1, List.all_eq_true.mpr fun d hd => (hds d hd).1]; rfl
          · rw [fitD, fitAll, fit_word b2 b3, fitAll_of fun d hd => (hds d hd).2.1, decide_eq_true (by simp; omega)]; rfl
          · rw [depth_tup, PyData.depthAll]
            have := depthAll_le (n := n - 1) (ds := ds) fun d hd => by have := (hds d hd).2.2; omega
            simp [PyData.depth]
            omega
theorem ok__law_pattern (F : Fz K mg "_law_pattern" s__law_pattern P__law_pattern) (T : Txt K mg) (G1 : Fx P w K mg base CX0 "_law_take" 1 P__law_take spTake) (G2 : Fx P w K mg base CX0 "_law_word" 2 P__law_word spWord) : ∀ n : Nat, Fx P w K mg base CX0 "_law_pattern" (n + 3) P__law_pattern (spPat K n)
  | 0 => pat_step (sp' := fun _ _ _ _ => False) F T G1 G2 0 (F.none fun _ _ _ _ z => z) (fun m z => by omega)
  | n + 1 => pat_step F T G1 G2 (n + 1) (ok__law_pattern F T G1 G2 n) (fun m e vs H Q E h => by
      have e : m = n := by omega
      subst e; exact h)

end Kn

set_option Elab.async false
set_option maxRecDepth 100000
set_option linter.all false
namespace Kn
open PySem L2
local macro_rules | `(tactic| walk_at "wk") => `(tactic| repeat (first
  | refine ⟨_, rfl, ?_⟩
  | refine ⟨_, _, rfl, rfl, ?_⟩
  | refine ⟨⟨by decide, by decide⟩, ?_⟩
  | refine ⟨(by show (0 : Int) < _; decide), ?_⟩
  | refine ⟨Or.inl ⟨by omega, by omega⟩, ?_⟩
  | refine Or.inl ⟨_, rfl, ?_⟩
  | fail))
local macro_rules | `(tactic| walk_at "lits") => `(tactic| repeat (first
  | exact lit_nil
  | exact lit_str
  | exact lit_int
  | exact lit_non
  | refine lit_cons ?_ ?_
  | refine lit_tup ?_
  | fail))
variable {P : Program} {w : World} {K : PySem.W.Frag} {mg : Str → Option Value} {base : Heap}
abbrev s_rule : Stmt := top 14
abbrev N_rule : List Str := ["whole", "places", "made", "place"]
abbrev P_rule : List Str := ["whole", "places"]
theorem sc_rule : FnScope N_rule P_rule (defScope s_rule) := ⟨rfl, rfl, rfl, by decide +kernel, rfl, by decide +kernel, by decide +kernel⟩
/-- a place: the form of a bound name (or none), the form -/
def pairD (p : PyData × PyData) : PyData := .tuple [p.1, p.2]
def boundOk : PyData → Bool
  | .none => true
  | d => isForm d
def placeOk (p : PyData × PyData) : Bool := isForm p.2 && boundOk p.1
def ruleOk (ps : List (PyData × PyData)) (d : PyData) : Bool := decide (ps.length ≤ 3) && isForm d && ps.all placeOk
def ruleD (ps : List (PyData × PyData)) (d : PyData) : PyData := .tuple [.tuple (ps.map pairD), d]
theorem kitAny_tup (K : PySem.W.Frag) : PySem.W.kitAny K (.type "tuple") [.type "tuple", .type "list"] = some true := by
  have h : PySem.W.kitOne K (.type "tuple") (.type "tuple") = some true := isi (show kitB "tuple" "tuple" = some true by decide +kernel)
  unfold PySem.W.kitAny
  rw [h]
def isNoneD : PyData → Bool
  | .none => true
  | _ => false
theorem Dp.none_iff {K : PySem.W.Frag} {H : Hp} {v : V} {d : PyData} (h : Dp K H v d) : decide (v = .non) = isNoneD d := by
  cases h <;> first | rfl | exact decide_eq_false (fun z => nomatch z)
theorem rule_bad {ps : List (PyData × PyData)} {d : PyData} {q : PyData × PyData} (h : q ∈ ps) (b : placeOk q = false) : ruleOk ps d = false := by
  have : ps.all placeOk = false := List.all_eq_false.mpr ⟨q, h, by rw [b]; exact Bool.false_ne_true⟩
  rw [ruleOk, this, Bool.and_false]
def spRule0 (K : PySem.W.Frag) (mg : Str → Option Value) (n : Nat) : Sp := fun vs H Q E => ∃ (v : V) (p : Addr) (xs : List V) (d : PyData) (ps : List (PyData × PyData)), vs = [v, .ref p] ∧ Dp K H v d ∧ SqT K H p xs ∧ DpAll K H xs (ps.map pairD) ∧ fitD d = true ∧ d.depth < n ∧ ps.length ≤ 100 ∧
  (∀ q ∈ ps, fitD q.1 = true ∧ fitD q.2 = true ∧ q.1.depth < n ∧ q.2.depth < n) ∧
  (ruleOk ps d = true → ∀ r H', Same H H' → Dp K H' r (ruleD ps d) → Q r H') ∧ (ruleOk ps d = false → ∀ H', Same H H' → E (.ref (clsA mg "BadRule")) none H')
theorem ok_rule0 {n : Nat} (F : FzSK K mg "rule" s_rule "places" "whole") (T : Txt K mg) (G_is_form : Fx P w K mg base CX0 "is_form" (n + 2) P_is_form (spFormQ K n)) : FxRK P w K mg base (L2.CX P w) "rule" (n + 3) "whole" (starKSp (spRule0 K mg n)) := by
  refine F.okX sc_rule (fun f cdv A outer s H vs Q E hr h => ?_)
  obtain ⟨v, p, xs, d, ps, rfl, hd, hp, hx, hfd, hdep, hlen, hps, k1, k2⟩ := h
  refine ⟨_, (C8.pss_cut (ps_if (pt_not (pt_val (pe_callB (cr_allK K rfl) (by rfl) T.b_all (by decide +kernel) (pa_cons (pe_lc (own := [("place", 3)]) (g := (gName 3)) (tt := tYes) rfl sc_rule.nd (pi_tupK K (pv 1)) (blkOk_by (own := [("place", 3)]) (N := N_rule) (sc := defScope s_rule) (by decide +kernel)) (fun _ _ _ _ _ => (pg_name (i := 3) sc_rule.nd rfl (Or.inl rfl))) (fun _ _ _ _ _ => pts_nil) (fun _ _ _ _ _ => (pe_callB (call_isiTK K) (by rfl) T.b_isinstance (by decide +kernel) (pa_cons (pv 3) (pa_cons (pe_tup (pa_cons (pe_bltn (v := .ty "tuple") (by rfl) T.b_tuple (by decide +kernel) rfl) (pa_cons (pe_bltn (v := .ty "list") (by rfl) T.b_list (by decide +kernel) rfl) pa_nil))) pa_nil))))) pa_nil)))) (pss_one (ps_raise rfl (takes_of rfl rfl rfl rfl) (pmk_own PySem.F.excBase_ValueError T.e_BadRule.ex T.e_BadRule.g T.e_BadRule.k (raises_own T.e_BadRule.b T.e_BadRule.t) rfl))) pss_nil)
      (C8.pss_cut (ps_set (i := 2) sc_rule.nd rfl (Or.inl rfl) (pe_tup (pa_cons (pe_callTy (call_tuple_ofK K) (by rfl) T.b_tuple (by decide +kernel) (pa_cons (pe_lc (own := [("place", 3)]) (g := (gName 3)) (tt := tYes) rfl sc_rule.nd (pi_tupK K (pv 1)) (blkOk_by (own := [("place", 3)]) (N := N_rule) (sc := defScope s_rule) (by decide +kernel)) (fun _ _ _ _ _ => (pg_name (i := 3) sc_rule.nd rfl (Or.inl rfl))) (fun _ _ _ _ _ => pts_nil) (fun _ _ _ _ _ => (pe_callTy (call_tuple_ofK K) (by rfl) T.b_tuple (by decide +kernel) (pa_cons (pv 3) pa_nil)))) pa_nil)) (pa_cons (pv 0) pa_nil))))
      (pss_cons (ps_if (PW.pt (pw_or (pt_cmpR op_gt (pe_callB (call_len_seqK K) (by rfl) T.b_len PySem.boot_len (pa_cons (pe_ix (ix_tupK K) (pv 2) pe_int (fun _ _ => rfl)) pa_nil)) (pglob rfl T.c_MOST_PLACES) (nomark _)) (pw_or1 (pt_not (pt_val (fcall G_is_form (hr.mono (by first | decide | omega)) (by rfl) (pa_cons (pv 0) pa_nil))))))) (pss_one (ps_raise rfl (takes_of rfl rfl rfl rfl) (pmk_own PySem.F.excBase_ValueError T.e_BadRule.ex T.e_BadRule.g T.e_BadRule.k (raises_own T.e_BadRule.b T.e_BadRule.t) rfl))) pss_nil)
      (C8.pss_cut (ps_for (passes_of rfl) rfl (pi_tupK K (pe_ix (ix_tupK K) (pv 2) pe_int (fun _ _ => rfl))) (pg_name (i := 3) sc_rule.nd rfl (Or.inl rfl)) (pss_cons (ps_if (PW.pt (pw_or (pt_cmpR op_ne (pe_callB (call_len_seqK K) (by rfl) T.b_len PySem.boot_len (pa_cons (pv 3) pa_nil)) pe_int (nomark _)) (pw_or1 (pt_not (pt_val (fcall G_is_form (hr.mono (by first | decide | omega)) (by rfl) (pa_cons (pe_ix (ix_tupK K) (pv 3) pe_int (fun _ _ => rfl)) pa_nil))))))) (pss_one (ps_raise rfl (takes_of rfl rfl rfl rfl) (pmk_own PySem.F.excBase_ValueError T.e_BadRule.ex T.e_BadRule.g T.e_BadRule.k (raises_own T.e_BadRule.b T.e_BadRule.t) rfl))) pss_nil)
      (pss_one (ps_if (PW.pt (pw_and (pt_cmpR op_notN (pe_ix (ix_tupK K) (pv 3) pe_int (fun _ _ => rfl)) pe_non (nomark _)) (pw_and1 (pt_not (pt_val (fcall G_is_form (hr.mono (by first | decide | omega)) (by rfl) (pa_cons (pe_ix (ix_tupK K) (pv 3) pe_int (fun _ _ => rfl)) pa_nil))))))) (pss_one (ps_raise rfl (takes_of rfl rfl rfl rfl) (pmk_own PySem.F.excBase_ValueError T.e_BadRule.ex T.e_BadRule.g T.e_BadRule.k (raises_own T.e_BadRule.b T.e_BadRule.t) rfl))) pss_nil))))
      (pss_one (ps_ret (pv 2))))))), ?_⟩
  have hxl := hx.len
  rw [List.length_map] at hxl
  have pr : ∀ {i : Nat} {x : V} {H' : Hp}, xs[i]? = some x → Same H H' → ∃ (q : PyData × PyData) (a : Addr) (b f : V), ps[i]? = some q ∧ x = .ref a ∧ SqT K H' a [b, f] ∧ Dp K H' b q.1 ∧ Dp K H' f q.2 := fun hxi sm => by
    obtain ⟨e, he, hed⟩ := hx.get hxi
    rw [List.getElem?_map] at he
    obtain ⟨q, hq, rfl⟩ := Option.map_eq_some_iff.mp he
    obtain ⟨a, ys, rfl, ha, hy⟩ := (Dp.same sm _ hed).tup_inv
    cases hy with
    | cons h1 hy =>
      cases hy with
      | cons h2 hy =>
        cases hy
        exact ⟨q, a, _, _, hq, rfl, ha, h1, h2⟩
  refine ⟨fun σ H1 => σ = [some v, some (.ref p), none, none] ∧ Same H H1, ?_, ?_⟩
  · refine ⟨_, rfl, p, rfl, ⟨_, hp⟩, fun D hD => ?_⟩
    refine lc_growT (fun i => (List.replicate i true).map V.bl) hD hp rfl (fun i hi => small1000 (by simp; omega)) ?_ ?_
    · intro i x H3 R1 R hxi sm3 g1 g2
      obtain ⟨q, a, b, f, hq, rfl, ha, hb, hf⟩ := pr hxi sm3
      refine ⟨rfl, yes_ ⟨_, rfl, (by show 2 ≤ sizeLine; decide), fun t ht => ?_⟩⟩
      generalize z4 : upd _ t _ = H4
      obtain ⟨s4, g4⟩ := gen_new z4 ht
      refine ⟨_, t, _, _, [.type "tuple", .type "list"], true, rfl, g4, .cons (.ty _) (.cons (.ty _) .nil), Kn.Dp.ty (d := .tuple [q.1, q.2]) (.tup (SqT.same s4 ha) (.cons (Dp.same s4 _ hb) (.cons (Dp.same s4 _ hf) .nil))), kitAny_tup K, g2 _ _ s4 ?_⟩
      rw [List.replicate_succ', List.map_append]; rfl
    · intro H3 sm3 eD
      refine ⟨D, _, rfl, SqL.of eD, ?_⟩
      have e : (List.replicate xs.length true).all id = true := by simp
      rw [e]
      exact ⟨_, rfl, iteF ⟨rfl, sm3⟩⟩
  · rintro σ H1 ⟨rfl, s1⟩
    refine ⟨fun σ H2 => ∃ r m, σ = [some v, some (.ref p), some (.ref r), none] ∧ Same H H2 ∧ SqT K H2 r [.ref m, v] ∧ SqT K H2 m xs, ?_, ?_⟩
    · refine ⟨_, rfl, p, rfl, ⟨_, SqT.same s1 hp⟩, fun D hD => ?_⟩
      refine lc_growT (fun i => xs.take i) hD (SqT.same s1 hp) (by simp) (fun i hi => small1000 (by simp; omega)) ?_ ?_
      · intro i x H3 R1 R hxi sm3 g1 g2
        obtain ⟨q, a, b, f, hq, rfl, ha, hb, hf⟩ := pr hxi (Same.trans s1 sm3)
        exact ⟨rfl, yes_ ⟨_, rfl, a, _, rfl, .inr ⟨ha, g2 _ _ (Same.refl _) (take_succ_get hxi)⟩⟩⟩
      · intro H3 sm3 eD
        rw [List.take_length] at eD
        refine ⟨D, _, rfl, .inl ⟨SqL.of eD, fun m hm => ?_⟩⟩
        generalize z4 : upd _ m _ = H4
        obtain ⟨s4, g4⟩ := gen_new z4 hm
        refine ⟨_, rfl, (by show 2 ≤ sizeLine; decide), fun r hr' => ?_⟩
        generalize z5 : upd _ r _ = H5
        obtain ⟨s5, g5⟩ := gen_new z5 hr'
        exact ⟨r, m, rfl, Same.trans s1 (Same.trans sm3 (Same.trans s4 s5)), SqT.of g5, SqT.of (s5 _ _ g4)⟩
    · rintro σ H2 ⟨r, m, rfl, s2, hr2, hm2⟩
      refine ⟨_, rfl, r, _, 0, _, rfl, rfl, hr2, at_of (j := 0) rfl rfl, m, _, rfl, .inr hm2, _, _, rfl, rfl, _, rfl, ?_⟩
      refine ite2 (fun c => ?_) (fun c => ?_)
      · have c : ¬ ps.length ≤ 3 := by have := of_decide_eq_true c; omega
        exact k2 (by rw [ruleOk, decide_eq_false c]; rfl) _ s2
      · have c : ps.length ≤ 3 := by
          have c : ¬ (3 : Int) < (xs.length : Int) := fun z => c (decide_eq_true z)
          omega
        refine ⟨_, rfl, v, d, rfl, Dp.same s2 _ hd, hfd, hdep, fun H3 s3 => ⟨_, rfl, ?_⟩⟩
        have s03 := Same.trans s2 s3
        cases cd : isForm d with
        | false => exact iteT (k2 (by rw [ruleOk, cd, Bool.and_false]; rfl) _ s03)
        | true =>
          refine iteF ?_
          refine ⟨fun σ H4 => ∃ v3, σ = [some v, some (.ref p), some (.ref r), v3] ∧ Same H3 H4 ∧ ps.all placeOk = true, ?_, ?_⟩
          · refine ⟨_, rfl, r, _, 0, _, rfl, rfl, SqT.same s3 hr2, at_of (j := 0) rfl rfl, m, rfl, ⟨_, SqT.same s3 hm2⟩, ?_⟩
            refine for_tup (xs := xs) (fun i σ H4 => ∃ v3, σ = [some v, some (.ref p), some (.ref r), v3] ∧ Same H3 H4 ∧ (ps.take i).all placeOk = true) ⟨_, rfl, Same.refl _, by simp⟩ ?_ ?_ ?_
            · rintro i σ H4 _ ⟨_, _, sm, _⟩; exact SqT.same sm (SqT.same s3 hm2)
            · rintro i x σ H4 hxi ⟨v3, rfl, s4, hall⟩
              have s04 := Same.trans s03 s4
              obtain ⟨q, a, b, f, hq, rfl, ha, hb, hf⟩ := pr hxi s04
              have hmem := List.mem_of_getElem? hq
              obtain ⟨p1, p2, p3, p4⟩ := hps q hmem
              refine ⟨_, rfl, a, _, rfl, .inr ha, rfl, _, rfl, iteF ?_⟩
              refine ⟨_, rfl, a, _, 1, _, rfl, rfl, ha, at_of (j := 1) rfl rfl, f, q.2, rfl, hf, p2, p4, fun H5 s5 => ⟨_, rfl, ?_⟩⟩
              cases c2 : isForm q.2 with
              | false => exact iteT (k2 (rule_bad hmem (by rw [placeOk, c2]; rfl)) _ (Same.trans s04 s5))
              | true =>
                refine iteF ?_
                refine ⟨_, rfl, a, _, 0, _, rfl, rfl, SqT.same s5 ha, at_of (j := 0) rfl rfl, rfl, _, rfl, ?_⟩
                have hb5 := Dp.same s5 _ hb
                rw [Kn.Dp.none_iff hb5]
                cases cn : isNoneD q.1 with
                | true =>
                  refine iteF ?_
                  refine ⟨_, rfl, Same.trans s4 s5, ?_⟩
                  have e : boundOk q.1 = true := by
                    cases h : q.1 <;> rw [h] at cn <;> first | rfl | cases cn
                  rw [take_succ_get hq, List.all_append, hall]
                  simp [placeOk, c2, e]
                | false =>
                  have e : boundOk q.1 = isForm q.1 := by
                    cases h : q.1 <;> rw [h] at cn <;> first | rfl | cases cn
                  refine iteT ?_
                  refine ⟨_, rfl, a, _, 0, _, rfl, rfl, SqT.same s5 ha, at_of (j := 0) rfl rfl, b, q.1, rfl, hb5, p1, p3, fun H6 s6 => ⟨_, rfl, ?_⟩⟩
                  cases c1 : isForm q.1 with
                  | false => exact iteT (k2 (rule_bad hmem (by rw [placeOk, c2, e, c1]; rfl)) _ (Same.trans s04 (Same.trans s5 s6)))
                  | true =>
                    refine iteF ⟨_, rfl, Same.trans s4 (Same.trans s5 s6), ?_⟩
                    rw [take_succ_get hq, List.all_append, hall]
                    simp [placeOk, c2, e, c1]
            · rintro σ H4 ⟨v3, rfl, s4, hall⟩
              rw [hxl, List.take_length] at hall
              exact ⟨_, rfl, s4, hall⟩
          · rintro σ H4 ⟨v3, rfl, s4, hall⟩
            have s34 := Same.trans s3 s4
            exact ⟨_, rfl, k1 (by rw [ruleOk, cd, hall, decide_eq_true c]; rfl) _ _ (Same.trans s03 s4) (.tup (SqT.same s34 hr2) (.cons (.tup (SqT.same s34 hm2) (DpAll.same (Same.trans s03 s4) _ hx)) (.cons (Dp.same (Same.trans s03 s4) _ hd) .nil)))⟩
def spRule (K : PySem.W.Frag) (mg : Str → Option Value) (n : Nat) : Sp := fun vs H Q E => ∃ (v : V) (xs : List V) (d : PyData) (ps : List (PyData × PyData)), vs = v :: xs ∧ Dp K H v d ∧ DpAll K H xs (ps.map pairD) ∧ fitD d = true ∧ d.depth < n ∧ ps.length ≤ 100 ∧
  (∀ q ∈ ps, fitD q.1 = true ∧ fitD q.2 = true ∧ q.1.depth < n ∧ q.2.depth < n) ∧
  (ruleOk ps d = true → ∀ r H', Same H H' → Dp K H' r (ruleD ps d) → Q r H') ∧ (ruleOk ps d = false → ∀ H', Same H H' → E (.ref (clsA mg "BadRule")) none H')
theorem ok_rule {n : Nat} (F : FzSK K mg "rule" s_rule "places" "whole") (T : Txt K mg) (G_is_form : Fx P w K mg base CX0 "is_form" (n + 2) P_is_form (spFormQ K n)) : FxRK P w K mg base (L2.CX P w) "rule" (n + 3) "whole" (spRule K mg n) := by
  refine (ok_rule0 F T G_is_form).imp fun vs H Q E h => ?_
  obtain ⟨v, xs, d, ps, rfl, hd, hx, hfd, hdep, hl, hps, k1, k2⟩ := h
  refine ⟨v, xs, rfl, fits1000 (by have := hx.len; rw [List.length_map] at this; omega), fun p hp => ?_⟩
  generalize z1 : upd _ p _ = H1
  obtain ⟨s1, g1⟩ := gen_new z1 hp
  exact ⟨v, p, xs, d, ps, rfl, Dp.same s1 _ hd, SqT.of g1, DpAll.same s1 _ hx, hfd, hdep, hl, hps, fun c r H' sm => k1 c r H' (Same.trans s1 sm), fun c H' sm => k2 c H' (Same.trans s1 sm)⟩

end Kn

set_option Elab.async false
set_option maxRecDepth 100000
set_option linter.all false
namespace Kn
open PySem L2
local macro_rules | `(tactic| walk_at "wk") => `(tactic| repeat (first
  | refine ⟨_, rfl, ?_⟩
  | refine ⟨_, _, rfl, rfl, ?_⟩
  | refine ⟨⟨by decide, by decide⟩, ?_⟩
  | refine ⟨(by show (0 : Int) < _; decide), ?_⟩
  | refine ⟨Or.inl ⟨by omega, by omega⟩, ?_⟩
  | refine Or.inl ⟨_, rfl, ?_⟩
  | fail))
local macro_rules | `(tactic| walk_at "lits") => `(tactic| repeat (first
  | exact lit_nil
  | exact lit_str
  | exact lit_int
  | exact lit_non
  | refine lit_cons ?_ ?_
  | refine lit_tup ?_
  | fail))
variable {P : Program} {w : World} {K : PySem.W.Frag} {mg : Str → Option Value} {base : Heap}
abbrev s__law_rule_of : Stmt := top 21
abbrev N__law_rule_of : List Str := ["_law_row", "_law_head"]
abbrev P__law_rule_of : List Str := ["_law_row", "_law_head"]
theorem sc__law_rule_of : FnScope N__law_rule_of P__law_rule_of (defScope s__law_rule_of) := ⟨rfl, rfl, rfl, by decide +kernel, rfl, by decide +kernel, by decide +kernel⟩
def spRuleOf (K : PySem.W.Frag) (mg : Str → Option Value) (n : Nat) : Sp := fun vs H Q E => ∃ (v : V) (p : Addr) (xs : List V) (d : PyData) (ps : List (PyData × PyData)), vs = [.ref p, v] ∧ Dp K H v d ∧ SqL K H p xs ∧ DpAll K H xs (ps.map pairD) ∧ fitD d = true ∧ d.depth < n ∧ ps.length ≤ 4 ∧
  (∀ q ∈ ps, fitD q.1 = true ∧ fitD q.2 = true ∧ q.1.depth < n ∧ q.2.depth < n) ∧
  (ruleOk ps d = true → ∀ r H', Same H H' → Dp K H' r (ruleD ps d) → Q r H') ∧ (ruleOk ps d = false → ∀ H', Same H H' → E (.ref (clsA mg "BadRule")) none H')
theorem ok__law_rule_of {n : Nat} (F : Fz K mg "_law_rule_of" s__law_rule_of P__law_rule_of) (T : Txt K mg) (G_rule : FxRK P w K mg base (L2.CX P w) "rule" (n + 3) "whole" (spRule K mg n)) : Fx P w K mg base (L2.CX P w) "_law_rule_of" (n + 4) P__law_rule_of (spRuleOf K mg n) := by
  refine F.okX sc__law_rule_of (fun vs H Q E h => ?_) (fun f cdv A outer s H vs Q E hr h => ?_)
  · obtain ⟨v, p, xs, d, ps, rfl, _⟩ := h
    rfl
  · obtain ⟨v, p, xs, d, ps, rfl, hd, hp, hx, hfd, hdep, hl, hps, k1, k2⟩ := h
    refine ⟨_, (pss_cons (ps_if (pt_cmpR op_eq (pe_callB (call_len_seqK K) (by rfl) T.b_len PySem.boot_len (pa_cons (pv 0) pa_nil)) pe_int (nomark _)) (pss_one (ps_ret (fcallRK0 (takes_of rfl rfl rfl rfl) G_rule (hr.mono (by first | decide | omega)) (by rfl) (pk_cons (pv 1) pk_nil)))) pss_nil)
      (pss_cons (ps_if (pt_cmpR op_eq (pe_callB (call_len_seqK K) (by rfl) T.b_len PySem.boot_len (pa_cons (pv 0) pa_nil)) pe_int (nomark _)) (pss_one (ps_ret (fcallRK (takes_of rfl rfl rfl rfl) G_rule (hr.mono (by first | decide | omega)) (by rfl) (pa_cons (pe_ix (ix_listK K) (pv 0) pe_int (fun _ _ => rfl)) pa_nil) (pk_cons (pv 1) pk_nil)))) pss_nil)
      (pss_cons (ps_if (pt_cmpR op_eq (pe_callB (call_len_seqK K) (by rfl) T.b_len PySem.boot_len (pa_cons (pv 0) pa_nil)) pe_int (nomark _)) (pss_one (ps_ret (fcallRK (takes_of rfl rfl rfl rfl) G_rule (hr.mono (by first | decide | omega)) (by rfl) (pa_cons (pe_ix (ix_listK K) (pv 0) pe_int (fun _ _ => rfl)) (pa_cons (pe_ix (ix_listK K) (pv 0) pe_int (fun _ _ => rfl)) pa_nil)) (pk_cons (pv 1) pk_nil)))) pss_nil)
      (pss_cons (ps_if (pt_cmpR op_eq (pe_callB (call_len_seqK K) (by rfl) T.b_len PySem.boot_len (pa_cons (pv 0) pa_nil)) pe_int (nomark _)) (pss_one (ps_ret (fcallRK (takes_of rfl rfl rfl rfl) G_rule (hr.mono (by first | decide | omega)) (by rfl) (pa_cons (pe_ix (ix_listK K) (pv 0) pe_int (fun _ _ => rfl)) (pa_cons (pe_ix (ix_listK K) (pv 0) pe_int (fun _ _ => rfl)) (pa_cons (pe_ix (ix_listK K) (pv 0) pe_int (fun _ _ => rfl)) pa_nil))) (pk_cons (pv 1) pk_nil)))) pss_nil)
      (pss_one (ps_ret (fcallRK (takes_of rfl rfl rfl rfl) G_rule (hr.mono (by first | decide | omega)) (by rfl) (pa_cons (pe_ix (ix_listK K) (pv 0) pe_int (fun _ _ => rfl)) (pa_cons (pe_ix (ix_listK K) (pv 0) pe_int (fun _ _ => rfl)) (pa_cons (pe_ix (ix_listK K) (pv 0) pe_int (fun _ _ => rfl)) (pa_cons (pe_ix (ix_listK K) (pv 0) pe_int (fun _ _ => rfl)) pa_nil)))) (pk_cons (pv 1) pk_nil)))))))), ?_⟩
    have hlen := hx.len
    rw [List.length_map] at hlen
    have hl9 : ps.length ≤ 100 := by omega
    match xs, hlen with
    | [], hlen =>
      refine ⟨_, rfl, p, _, rfl, .inl hp, rfl, _, rfl, iteT ?_⟩
      exact ⟨_, rfl, v, rfl, v, _, d, ps, rfl, hd, hx, hfd, hdep, hl9, hps, k1, k2⟩
    | [x0], hlen =>
      refine ⟨_, rfl, p, _, rfl, .inl hp, rfl, _, rfl, iteF ?_⟩
      refine ⟨_, rfl, p, _, rfl, .inl hp, rfl, _, rfl, iteT ?_⟩
      exact ⟨_, rfl, p, _, 0, _, rfl, rfl, hp, at_of (j := 0) rfl rfl, _, rfl, v, rfl, v, _, d, ps, rfl, hd, hx, hfd, hdep, hl9, hps, k1, k2⟩
    | [x0, x1], hlen =>
      refine ⟨_, rfl, p, _, rfl, .inl hp, rfl, _, rfl, iteF ?_⟩
      refine ⟨_, rfl, p, _, rfl, .inl hp, rfl, _, rfl, iteF ?_⟩
      refine ⟨_, rfl, p, _, rfl, .inl hp, rfl, _, rfl, iteT ?_⟩
      exact ⟨_, rfl, p, _, 0, _, rfl, rfl, hp, at_of (j := 0) rfl rfl, _, rfl, p, _, 1, _, rfl, rfl, hp, at_of (j := 1) rfl rfl, _, rfl, v, rfl, v, _, d, ps, rfl, hd, hx, hfd, hdep, hl9, hps, k1, k2⟩
    | [x0, x1, x2], hlen =>
      refine ⟨_, rfl, p, _, rfl, .inl hp, rfl, _, rfl, iteF ?_⟩
      refine ⟨_, rfl, p, _, rfl, .inl hp, rfl, _, rfl, iteF ?_⟩
      refine ⟨_, rfl, p, _, rfl, .inl hp, rfl, _, rfl, iteF ?_⟩
      refine ⟨_, rfl, p, _, rfl, .inl hp, rfl, _, rfl, iteT ?_⟩
      exact ⟨_, rfl, p, _, 0, _, rfl, rfl, hp, at_of (j := 0) rfl rfl, _, rfl, p, _, 1, _, rfl, rfl, hp, at_of (j := 1) rfl rfl, _, rfl, p, _, 2, _, rfl, rfl, hp, at_of (j := 2) rfl rfl, _, rfl, v, rfl, v, _, d, ps, rfl, hd, hx, hfd, hdep, hl9, hps, k1, k2⟩
    | [x0, x1, x2, x3], hlen =>
      refine ⟨_, rfl, p, _, rfl, .inl hp, rfl, _, rfl, iteF ?_⟩
      refine ⟨_, rfl, p, _, rfl, .inl hp, rfl, _, rfl, iteF ?_⟩
      refine ⟨_, rfl, p, _, rfl, .inl hp, rfl, _, rfl, iteF ?_⟩
      refine ⟨_, rfl, p, _, rfl, .inl hp, rfl, _, rfl, iteF ?_⟩
      exact ⟨_, rfl, p, _, 0, _, rfl, rfl, hp, at_of (j := 0) rfl rfl, _, rfl, p, _, 1, _, rfl, rfl, hp, at_of (j := 1) rfl rfl, _, rfl, p, _, 2, _, rfl, rfl, hp, at_of (j := 2) rfl rfl, _, rfl, p, _, 3, _, rfl, rfl, hp, at_of (j := 3) rfl rfl, _, rfl, v, rfl, v, _, d, ps, rfl, hd, hx, hfd, hdep, hl9, hps, k1, k2⟩
    | _ :: _ :: _ :: _ :: _ :: _, hlen => simp at hlen; omega
abbrev s__law_refused : Stmt := top 22
abbrev N__law_refused : List Str := ["_law_row", "_law_head", "e"]
abbrev P__law_refused : List Str := ["_law_row", "_law_head"]
theorem sc__law_refused : FnScope N__law_refused P__law_refused (defScope s__law_refused) := ⟨rfl, rfl, rfl, by decide +kernel, rfl, by decide +kernel, by decide +kernel⟩
def spRefR (K : PySem.W.Frag) (n : Nat) : Sp := fun vs H Q _ => ∃ (v : V) (p : Addr) (xs : List V) (d : PyData) (ps : List (PyData × PyData)), vs = [.ref p, v] ∧ Dp K H v d ∧ SqL K H p xs ∧ DpAll K H xs (ps.map pairD) ∧ fitD d = true ∧ d.depth < n ∧ ps.length ≤ 4 ∧
  (∀ q ∈ ps, fitD q.1 = true ∧ fitD q.2 = true ∧ q.1.depth < n ∧ q.2.depth < n) ∧ ruleOk ps d = false ∧ ∀ H', Same H H' → Q (.bl true) H'
theorem ok__law_refused {n : Nat} (F : Fz K mg "_law_refused" s__law_refused P__law_refused) (T : Txt K mg) (G__law_rule_of : Fx P w K mg base (L2.CX P w) "_law_rule_of" (n + 4) P__law_rule_of (spRuleOf K mg n)) : Fx P w K mg base CX0 "_law_refused" (n + 5) P__law_refused (spRefR K n) := by
  refine F.ok sc__law_refused (fun vs H Q E h => ?_) (fun f cdv A outer s H vs Q E hr h => ?_)
  · obtain ⟨v, p, xs, d, ps, rfl, _⟩ := h
    rfl
  · obtain ⟨v, p, xs, d, ps, rfl, hd, hp, hx, hfd, hdep, hl, hps, bad, k⟩ := h
    refine ⟨_, (pss_cons (ps_try_as (i := 2) rfl rfl sc__law_refused.nd rfl rfl ⟨rfl, by decide, .inl T.g_NotesError⟩ takes0 (fun W pn xe tk _ => (pss_one (ps_expr (fcallX tk G__law_rule_of (hr.mono (by first | decide | omega)) (by rfl) (pa_cons (pv 0) (pa_cons (pv 1) pa_nil)))))) (fun a oe cls d pn hz hf => (pss_one (ps_ret (pe_and (pe_callB (call_isX K hz hf) (by rfl) T.b_isinstance (by decide +kernel) (pa_cons (pv 2) (pa_cons (pglob (v := .ref (clsA mg "BadRule")) rfl ⟨_, T.g_BadRule, rfl⟩) pa_nil))) (pe_one (pe_not (pe_callB (call_isX K hz hf) (by rfl) T.b_isinstance (by decide +kernel) (pa_cons (pv 2) (pa_cons (pglob (v := .ref (clsA mg "BadKind")) rfl ⟨_, T.g_BadKind, rfl⟩) pa_nil))))))))))
      (pss_one (ps_ret pe_bl))), ?_⟩
    refine ⟨_, rfl, _, rfl, v, p, xs, d, ps, rfl, hd, hp, hx, hfd, hdep, hl, hps, fun z => ?_, fun _ H' sm => ?_⟩
    · rw [bad] at z; cases z
    · refine ⟨true, T.exm_BadRule_NotesError, fun _ e he => ?_, fun z => nomatch z⟩
      refine ⟨_, rfl, _, _, _, _, rfl, rfl, T.q_BadRule, rfl, fun u r => r, T.kit_BadRule_BadRule, _, rfl, iteT ?_⟩
      exact ⟨_, rfl, _, _, _, _, rfl, rfl, T.q_BadRule, rfl, fun u r => r, T.kit_BadRule_BadKind, _, rfl, k _ sm⟩
abbrev s__law_place : Stmt := top 23
abbrev N__law_place : List Str := ["_law_tape_here", "_law_bound"]
abbrev P__law_place : List Str := ["_law_tape_here"]
theorem sc__law_place : FnScope N__law_place P__law_place (defScope s__law_place) := ⟨rfl, rfl, rfl, by decide +kernel, rfl, by decide +kernel, by decide +kernel⟩
def spPlace (K : PySem.W.Frag) : Sp := fun vs H Q _ => ∃ t : Addr, vs = [.ref t] ∧ Tape H t ∧ ∀ (v : V) (q : PyData × PyData) (H' : Hp), Dr t H H' → Dp K H' v (pairD q) → placeOk q = true → fitD q.1 = true → fitD q.2 = true → q.1.depth ≤ 2 → q.2.depth ≤ 2 → Q v H'
theorem ok__law_place (F : Fz K mg "_law_place" s__law_place P__law_place) (T : Txt K mg) (G__law_take : Fx P w K mg base CX0 "_law_take" 1 P__law_take spTake) (G1 : Fx P w K mg base CX0 "_law_pattern" 4 P__law_pattern (spPat K 1)) (G2 : Fx P w K mg base CX0 "_law_pattern" 5 P__law_pattern (spPat K 2)) : Fx P w K mg base CX0 "_law_place" 6 P__law_place (spPlace K) := by
  refine F.ok sc__law_place (fun vs H Q E h => ?_) (fun f cdv A outer s H vs Q E hr h => ?_)
  · obtain ⟨t, rfl, _⟩ := h
    rfl
  · obtain ⟨t, rfl, tp, k⟩ := h
    refine ⟨_, (pss_cons (ps_set (i := 1) sc__law_place.nd rfl (Or.inl rfl) pe_non)
      (C8.pss_cut (ps_if (pt_cmpR op_eq (fcall G__law_take (hr.mono (by first | decide | omega)) (by rfl) (pa_cons (pv 0) (pa_cons pe_int pa_nil))) pe_int (nomark _)) (pss_one (ps_set (i := 1) sc__law_place.nd rfl (Or.inl rfl) (fcall G1 (hr.mono (by decide)) (by rfl) (pa_cons (pv 0) (pa_cons pe_int pa_nil))))) pss_nil)
      (pss_one (ps_ret (pe_tup (pa_cons (pv 1) (pa_cons (fcall G2 (hr.mono (by decide)) (by rfl) (pa_cons (pv 0) (pa_cons pe_int pa_nil))) pa_nil))))))), ?_⟩
    refine ⟨fun σ H1 => ∃ b d, σ = [some (.ref t), some b] ∧ Dr t H H1 ∧ Dp K H1 b d ∧ boundOk d = true ∧ fitD d = true ∧ d.depth ≤ 2, ?_, ?_⟩
    · refine ⟨_, rfl, t, 2, rfl, tp, by decide, fun r H1 a0 a1 d1 => ⟨rfl, _, rfl, ?_⟩⟩
      refine ite2 (fun c => ?_) (fun c => ?_)
      · refine ⟨_, rfl, t, rfl, d1.tape, fun v d H2 d2 hd f1 f2 f3 => ?_⟩
        refine ⟨v, d, rfl, d1.trans d2, hd, ?_, f2, by omega⟩
        cases d <;> first | rfl | exact f1
      · exact ⟨_, .none, rfl, d1, .non, rfl, by simp [fitD], by simp [PyData.depth]⟩
    · rintro σ H1 ⟨b, d, rfl, d1, hb, b1, b2, b3⟩
      refine ⟨_, rfl, _, rfl, t, rfl, d1.tape, fun v e H2 d2 hv f1 f2 f3 => ?_⟩
      refine ⟨(by show 2 ≤ sizeLine; decide), fun p hp => ?_⟩
      have d3 := Dr.new (o := .tup [b, v]) d2.tape hp
      have tu : Tups H1 (upd H2 p (.tup [b, v])) := (d2.tups d1.tape).trans (tups_new hp)
      exact k _ (d, e) _ (d1.trans (d2.trans d3)) (.tup (SqT.of upd_same) (.cons (Dp.tups tu _ (fit_nl _ b2) hb) (.cons (Dp.tups (tups_new hp) _ (fit_nl _ f2) hv) .nil))) (by show (isForm e && boundOk d) = true; rw [f1, b1]; rfl) b2 f2 b3 f3

end Kn

set_option Elab.async false
set_option maxRecDepth 100000
set_option linter.all false
namespace Kn
open PySem L2
local macro_rules | `(tactic| walk_at "wk") => `(tactic| repeat (first
  | refine ⟨_, rfl, ?_⟩
  | refine ⟨_, _, rfl, rfl, ?_⟩
  | refine ⟨⟨by decide, by decide⟩, ?_⟩
  | refine ⟨(by show (0 : Int) < _; decide), ?_⟩
  | refine ⟨Or.inl ⟨by omega, by omega⟩, ?_⟩
  | refine Or.inl ⟨_, rfl, ?_⟩
  | fail))
local macro_rules | `(tactic| walk_at "lits") => `(tactic| repeat (first
  | exact lit_nil
  | exact lit_str
  | exact lit_int
  | exact lit_non
  | refine lit_cons ?_ ?_
  | refine lit_tup ?_
  | fail))
variable {P : Program} {w : World} {K : PySem.W.Frag} {mg : Str → Option Value} {base : Heap}
abbrev s_law : Stmt := top 24
abbrev N_law : List Str := ["_law_script", "_law_tape_here", "_law_row", "_law_head", "_law_made", "_law_odd", "_law_other", "_law_bad", "_law_at", "_law_three", "_law_bound_bad", "_law_form_bad", "_law_k"]
abbrev P_law : List Str := ["_law_script"]
theorem sc_law : FnScope N_law P_law (defScope s_law) := ⟨rfl, rfl, rfl, by decide +kernel, rfl, by decide +kernel, by decide +kernel⟩
def spLaw (K : PySem.W.Frag) : Sp := fun vs H Q _ => ∃ (a : Addr) (ns : List Int), vs = [.ref a] ∧ SqL K H a (ns.map V.int) ∧ ns.length ≤ 63 ∧ ∀ H', Q (.bl true) H'
def oddR : List PyData := [.str "", .str "ab", .str "a", .str "QR", .tuple [], .tuple [.str ""], .tuple [.str "ab", .str "q"], .tuple [.str "ab", .str "A", .str "B", .str "C", .str "D"], .tuple [.str "ab", .tuple []], .tuple [.str "ab", .tuple [.str "cd", .tuple [.str "E"]]]]
theorem oddR_ok : ∀ d ∈ oddR, isForm d = false ∧ fitD d = true ∧ d.depth ≤ 3 ∧ boundOk d = false := by decide +kernel
def threeP : List (PyData × PyData) := [(.none, .str "A"), (.tuple [.str "ab", .str "B"], .tuple [.str "cd"]), (.str "C", .tuple [.str "ab", .str "A"])]
def goodQ (n : Nat) (q : PyData × PyData) : Prop := fitD q.1 = true ∧ fitD q.2 = true ∧ q.1.depth < n ∧ q.2.depth < n
theorem three_ok : ∀ q ∈ threeP, placeOk q = true ∧ fitD q.1 = true ∧ fitD q.2 = true ∧ q.1.depth < 4 ∧ q.2.depth < 4 := by decide +kernel
theorem three_good : ∀ q ∈ threeP, goodQ 4 q := fun q h => (three_ok q h).2
theorem rule_good {ps : List (PyData × PyData)} {d : PyData} (h1 : ps.length ≤ 3) (h2 : isForm d = true) (h3 : ∀ q ∈ ps, placeOk q = true) : ruleOk ps d = true := by
  rw [ruleOk, decide_eq_true h1, h2, List.all_eq_true.mpr h3]; rfl
theorem nl_pair {q : PyData × PyData} (h1 : fitD q.1 = true) (h2 : fitD q.2 = true) : nl (pairD q) = true := by
  rw [pairD, nl, nlAll, nlAll, nlAll, fit_nl _ h1, fit_nl _ h2]; rfl
theorem pairs_facts {n : Nat} {ps : List (PyData × PyData)} (hl : ps.length ≤ 1000) (h : ∀ q ∈ ps, goodQ n q) : fitAll (ps.map pairD) = true ∧ PyData.depthAll (ps.map pairD) ≤ n := by
  constructor
  · refine fitAll_of fun d hd => ?_
    obtain ⟨q, hq, rfl⟩ := List.mem_map.mp hd
    obtain ⟨h1, h2, _⟩ := h q hq
    rw [pairD, fitD, fitAll, fitAll, fitAll, h1, h2]; rfl
  · refine depthAll_le fun d hd => ?_
    obtain ⟨q, hq, rfl⟩ := List.mem_map.mp hd
    obtain ⟨_, _, h3, h4⟩ := h q hq
    rw [pairD, depth_tup, PyData.depthAll, PyData.depthAll, PyData.depthAll]
    omega
theorem rule_facts {n : Nat} {ps : List (PyData × PyData)} {d : PyData} (hl : ps.length ≤ 1000) (h : ∀ q ∈ ps, goodQ n q) (hf : fitD d = true) (hd : d.depth ≤ n) : fitD (ruleD ps d) = true ∧ Lay (n + 2) (ruleD ps d) := by
  obtain ⟨h1, h2⟩ := pairs_facts hl h
  have f : fitD (ruleD ps d) = true := by
    rw [ruleD, fitD, fitAll, fitAll, fitAll, fitD, h1, hf, decide_eq_true (show (ps.map pairD).length ≤ 1000 by rw [List.length_map]; exact hl)]; rfl
  refine ⟨f, fit_lay _ f, ?_⟩
  rw [ruleD, depth_tup, PyData.depthAll, PyData.depthAll, PyData.depthAll, depth_tup]
  omega
theorem ok_law {f : Addr} {fd : FuncData} (F : Fun K "law" "law" s_law f fd) (T : Txt K mg) (G__law_tape : Fx P w K mg base CX0 "_law_tape" 2 P__law_tape (spTape K)) (G__law_take : Fx P w K mg base CX0 "_law_take" 1 P__law_take spTake)
    (G__law_place : Fx P w K mg base CX0 "_law_place" 6 P__law_place (spPlace K)) (G__law_pattern : Fx P w K mg base CX0 "_law_pattern" 5 P__law_pattern (spPat K 2)) (G__law_rule_of : Fx P w K mg base (L2.CX P w) "_law_rule_of" 8 P__law_rule_of (spRuleOf K mg 4)) (G__law_refused : Fx P w K mg base CX0 "_law_refused" 9 P__law_refused (spRefR K 4)) : FnOk P w K mg base CX0 10 f fd P_law (spLaw K) := by
  refine F.ok sc_law (fun vs H Q E h => ?_) (fun cdv A outer s H vs Q E hr h => ?_)
  · obtain ⟨a, ns, rfl, _⟩ := h
    rfl
  · obtain ⟨a, ns, rfl, hS, _, k⟩ := h
    refine ⟨_, (pss_cons (ps_set (i := 1) sc_law.nd rfl (Or.inr rfl) (fcall G__law_tape (hr.mono (by first | decide | omega)) (by rfl) (pa_cons (pv 0) (pa_cons pe_int (pa_cons pe_int pa_nil)))))
      (C8.pss_cut (ps_setLc (i := 2) (own := [("_law_k", 12)]) (g := (gName 12)) (tt := tYes) rfl sc_law.nd rfl rfl (sw_true rfl rfl rfl (by decide +kernel)) (pi_range1 (by rfl) T.b_range (pa_cons (fcall G__law_take (hr.mono (by first | decide | omega)) (by rfl) (pa_cons (pv 1) (pa_cons pe_int pa_nil))) pa_nil)) (blkOk_by (own := [("_law_k", 12)]) (N := N_law) (sc := defScope s_law) (by decide +kernel)) (fun _ _ _ _ _ => (pg_name (i := 12) sc_law.nd rfl (Or.inl rfl))) (fun _ _ _ _ _ => pts_nil) (fun _ _ _ _ _ => (fcall G__law_place (hr.mono (by first | decide | omega)) (by rfl) (pa_cons (pv 1) pa_nil))))
      (pss_cons (ps_set (i := 3) sc_law.nd rfl (Or.inl rfl) (fcall G__law_pattern (hr.mono (by first | decide | omega)) (by rfl) (pa_cons (fcall G__law_tape (hr.mono (by first | decide | omega)) (by rfl) (pa_cons (pv 0) (pa_cons pe_int (pa_cons pe_int pa_nil)))) (pa_cons pe_int pa_nil))))
      (pss_cons (ps_set (i := 4) sc_law.nd rfl (Or.inl rfl) (fcall0 G__law_rule_of (hr.mono (by first | decide | omega)) (by rfl) (pa_cons (pe_callTy (call_list_ofK K) (by rfl) T.b_list (by decide +kernel) (pa_cons (pv 2) pa_nil)) (pa_cons (pv 3) pa_nil))))
      (C8.pss_cut (ps_if (PW.pt (pw_or (pt_not (pt_val (pe_callB (call_isi1K K) (by rfl) T.b_isinstance (by decide +kernel) (pa_cons (pv 4) (pa_cons (pe_bltn (v := .ty "tuple") (by rfl) T.b_tuple (by decide +kernel) rfl) pa_nil))))) (pw_or (pt_cmpR op_ne (pe_callB (call_len_seqK K) (by rfl) T.b_len PySem.boot_len (pa_cons (pv 4) pa_nil)) pe_int (nomark _)) (pw_or1 (pt_not (pt_val (pe_callB (call_isi1K K) (by rfl) T.b_isinstance (by decide +kernel) (pa_cons (pe_ix (ix_tupK K) (pv 4) pe_int (fun _ _ => rfl)) (pa_cons (pe_bltn (v := .ty "tuple") (by rfl) T.b_tuple (by decide +kernel) rfl) pa_nil))))))))) (pss_one (ps_ret pe_bl)) pss_nil)
      (C8.pss_cut (ps_if (PW.pt (pw_or (pt_cmpR (op_neDK K hr.units) (pe_ix (ix_tupK K) (pv 4) pe_int (fun _ _ => rfl)) (pe_callTy (call_tuple_ofK K) (by rfl) T.b_tuple (by decide +kernel) (pa_cons (pv 2) pa_nil)) (nomark _)) (pw_or1 (pt_cmpR (op_neDK K hr.units) (pe_ix (ix_tupK K) (pv 4) pe_int (fun _ _ => rfl)) (pv 3) (nomark _))))) (pss_one (ps_ret pe_bl)) pss_nil)
      (pss_cons (ps_set (i := 5) sc_law.nd rfl (Or.inl rfl) (pe_lst (pa_cons pe_str (pa_cons pe_str (pa_cons pe_str (pa_cons pe_str (pa_cons (pe_tup pa_nil) (pa_cons (pe_tup (pa_cons pe_str pa_nil)) (pa_cons (pe_tup (pa_cons pe_str (pa_cons pe_str pa_nil))) (pa_cons (pe_tup (pa_cons pe_str (pa_cons pe_str (pa_cons pe_str (pa_cons pe_str (pa_cons pe_str pa_nil)))))) (pa_cons (pe_tup (pa_cons pe_str (pa_cons (pe_tup pa_nil) pa_nil))) (pa_cons (pe_tup (pa_cons pe_str (pa_cons (pe_tup (pa_cons pe_str (pa_cons (pe_tup (pa_cons pe_str pa_nil)) pa_nil))) pa_nil))) pa_nil))))))))))))
      (pss_cons (ps_set (i := 6) sc_law.nd rfl (Or.inl rfl) (fcall G__law_tape (hr.mono (by first | decide | omega)) (by rfl) (pa_cons (pv 0) (pa_cons pe_int (pa_cons pe_int pa_nil)))))
      (pss_cons (ps_set (i := 7) sc_law.nd rfl (Or.inl rfl) (pe_ix (ix_listK K) (pv 5) (fcall G__law_take (hr.mono (by first | decide | omega)) (by rfl) (pa_cons (pv 6) (pa_cons (pe_callB (call_len_seqK K) (by rfl) T.b_len PySem.boot_len (pa_cons (pv 5) pa_nil)) pa_nil))) (fun _ _ => rfl)))
      (pss_cons (ps_set (i := 8) sc_law.nd rfl (Or.inl rfl) (fcall G__law_take (hr.mono (by first | decide | omega)) (by rfl) (pa_cons (pv 6) (pa_cons pe_int pa_nil))))
      (pss_cons (ps_set (i := 9) sc_law.nd rfl (Or.inl rfl) (pe_lst (pa_cons (pe_tup (pa_cons pe_non (pa_cons pe_str pa_nil))) (pa_cons (pe_tup (pa_cons (pe_tup (pa_cons pe_str (pa_cons pe_str pa_nil))) (pa_cons (pe_tup (pa_cons pe_str pa_nil)) pa_nil))) (pa_cons (pe_tup (pa_cons pe_str (pa_cons (pe_tup (pa_cons pe_str (pa_cons pe_str pa_nil))) pa_nil))) pa_nil)))))
      (C8.pss_cut (ps_if (pt_cmpR (op_neDK K hr.units) (fcall0 G__law_rule_of (hr.mono (by first | decide | omega)) (by rfl) (pa_cons (pe_callTy (call_list_ofK K) (by rfl) T.b_list (by decide +kernel) (pa_cons (pv 9) pa_nil)) (pa_cons (pv 3) pa_nil))) (pe_tup (pa_cons (pe_callTy (call_tuple_ofK K) (by rfl) T.b_tuple (by decide +kernel) (pa_cons (pv 9) pa_nil)) (pa_cons (pv 3) pa_nil))) (nomark _)) (pss_one (ps_ret pe_bl)) pss_nil)
      (pss_cons (ps_set (i := 10) sc_law.nd rfl (Or.inl rfl) (pe_op op_cat (pe_op op_cat (pe_slice (sl_listK K) (pv 9) po_none (po_some (pv 8))) (pe_lst (pa_cons (pe_tup (pa_cons (pv 7) (pa_cons pe_str pa_nil))) pa_nil))) (pe_slice (sl_listK K) (pv 9) (po_some (pe_op op_add (pv 8) pe_int)) po_none)))
      (pss_cons (ps_set (i := 11) sc_law.nd rfl (Or.inl rfl) (pe_op op_cat (pe_op op_cat (pe_slice (sl_listK K) (pv 9) po_none (po_some (pv 8))) (pe_lst (pa_cons (pe_tup (pa_cons pe_non (pa_cons (pv 7) pa_nil))) pa_nil))) (pe_slice (sl_listK K) (pv 9) (po_some (pe_op op_add (pv 8) pe_int)) po_none)))
      (C8.pss_cut (ps_if (PW.pt (pw_or (pt_not (pt_val (fcall G__law_refused (hr.mono (by first | decide | omega)) (by rfl) (pa_cons (pv 10) (pa_cons (pv 3) pa_nil))))) (pw_or (pt_not (pt_val (fcall G__law_refused (hr.mono (by first | decide | omega)) (by rfl) (pa_cons (pv 11) (pa_cons (pv 3) pa_nil))))) (pw_or1 (pt_not (pt_val (fcall G__law_refused (hr.mono (by first | decide | omega)) (by rfl) (pa_cons (pv 9) (pa_cons (pv 7) pa_nil))))))))) (pss_one (ps_ret pe_bl)) pss_nil)
      (pss_one (ps_ret (pe_and (fcall G__law_refused (hr.mono (by first | decide | omega)) (by rfl) (pa_cons (pe_op op_cat (pv 9) (pe_lst (pa_cons (pe_tup (pa_cons pe_non (pa_cons pe_str pa_nil))) pa_nil))) (pa_cons (pv 3) pa_nil))) (pe_one (fcall G__law_refused (hr.mono (by first | decide | omega)) (by rfl) (pa_cons (pv 2) (pa_cons (pv 7) pa_nil)))))))))))))))))))))), ?_⟩
    refine ⟨_, rfl, a, 0, 90, ns, rfl, hS, by decide, by decide, by decide, fun t H1 ht sm1 tp1 => ?_⟩
    refine ⟨fun σ H2 => ∃ (D : Addr) (ys : List V) (ps : List (PyData × PyData)), σ = [some (.ref a), some (.ref t), some (.ref D), none, none, none, none, none, none, none, none, none, none] ∧ H2 D = some (.lst ys) ∧ DpAll K H2 ys (ps.map pairD) ∧ ps.length ≤ 3 ∧ (∀ q ∈ ps, placeOk q = true ∧ goodQ 4 q) ∧ Dr t H1 H2, ?_, ?_⟩
    · refine ⟨_, rfl, t, 4, rfl, tp1, by decide, fun q H3 e0 e1 d3 => ⟨_, rfl, by omega, by omega, fun D hD => ?_⟩⟩
      refine lc_drawR (K := K) (t := t) (fun i ds => ∃ ps : List (PyData × PyData), ds = ps.map pairD ∧ ∀ q ∈ ps, placeOk q = true ∧ goodQ 4 q) d3.tape hD (by omega) ⟨[], rfl, by simp⟩ ?_ ?_
      · rintro i ds H5 R1 R hi d5 ⟨ps, rfl, hps⟩ g
        refine ⟨rfl, yes_ ⟨_, rfl, t, rfl, d5.tape, fun v q H6 d6 hd f1 f2 f3 f4 f5 => ?_⟩⟩
        refine g v _ H6 d6 hd (nl_pair f2 f3) ⟨ps ++ [q], by simp, fun x hx => ?_⟩
        rcases List.mem_append.mp hx with hx | hx
        · exact hps x hx
        · rw [List.mem_singleton.mp hx]; exact ⟨f1, f2, f3, by omega, by omega⟩
      · rintro H5 ys ds d5 eD hy hnl hl ⟨ps, rfl, hps⟩
        rw [List.length_map] at hl
        exact ⟨D, ys, ps, rfl, eD, hy, by omega, hps, d3.trans d5⟩
    · rintro σ H2 ⟨D, ys, ps, rfl, eD, hy, hl, hps, d2⟩
      have sH2 := Dr.base ht sm1 d2
      refine ⟨_, rfl, a, 1, 40, ns, rfl, Same.seq sH2 hS, by decide, by decide, by decide, fun t2 H3 ht2 sm3 tp3 => ?_⟩
      refine ⟨t2, rfl, tp3, fun v d H4 d4 hv f1 f2 f3 => ?_⟩
      have s24 : Same H2 H4 := Dr.base ht2 sm3 d4
      have hy4 := DpAll.same s24 _ hy
      have eD4 := s24 _ _ eD
      have hpg : ∀ q ∈ ps, goodQ 4 q := fun q hq => (hps q hq).2
      obtain ⟨fR, layR⟩ := rule_facts (n := 4) (ps := ps) (d := d) (by omega) hpg f2 (by omega)
      refine ⟨_, rfl, D, ys, rfl, .inl (SqL.of eD4), fun l hl0 => ?_⟩
      generalize z5 : upd _ l _ = H5
      obtain ⟨s5, g5⟩ := gen_new z5 hl0
      refine ⟨_, rfl, v, l, ys, d, ps, rfl, Dp.same s5 _ hv, SqL.of g5, DpAll.same s5 _ hy4, f2, by omega, by omega, hpg, fun _ r H6 s6 hr6 => ?_, fun z => by rw [rule_good hl f1 fun q hq => (hps q hq).1] at z; cases z⟩
      have s46 := Same.trans s5 s6
      obtain ⟨ra, rxs, rfl, hra, hrx⟩ := hr6.tup_inv
      cases hrx with
      | cons hm hrx =>
      cases hrx with
      | cons hh hrx =>
      cases hrx
      obtain ⟨fP1, fP2⟩ := pairs_facts (n := 4) (ps := ps) (by omega) hpg
      have fP : fitD (.tuple (ps.map pairD)) = true := by rw [fitD, fP1, decide_eq_true (by rw [List.length_map]; omega)]; rfl
      have layP : Lay 5 (.tuple (ps.map pairD)) := ⟨fit_lay _ fP, by rw [depth_tup]; omega⟩
      have layd : Lay 5 d := ⟨fit_lay _ f2, by omega⟩
      refine ⟨fun σ H7 => σ = [some (.ref a), some (.ref t), some (.ref D), some v, some (.ref ra), none, none, none, none, none, none, none, none] ∧ H7 = H6, ?_, ?_⟩
      · refine ⟨_, rfl, _, _, _, _, _, rfl, .ty _, Kn.Dp.ty hr6, isi (kit_tup _ (fit_nl _ fR)), _, rfl, iteF ?_⟩
        refine ⟨_, rfl, ra, _, rfl, .inr hra, rfl, _, rfl, iteF ?_⟩
        exact ⟨_, rfl, ra, _, 0, _, rfl, rfl, hra, at_of (j := 0) rfl rfl, _, _, _, _, _, rfl, .ty _, Kn.Dp.ty hm, isi (kit_tup _ (fit_nl _ fP)), _, rfl, iteF ⟨rfl, rfl⟩⟩
      · rintro σ Hx ⟨rfl, hx⟩
        rw [hx]
        clear hx Hx
        refine ⟨fun σ H7 => σ = [some (.ref a), some (.ref t), some (.ref D), some v, some (.ref ra), none, none, none, none, none, none, none, none] ∧ Same H6 H7, ?_, ?_⟩
        · refine ⟨_, rfl, ra, _, 0, _, rfl, rfl, hra, at_of (j := 0) rfl rfl, _, rfl, ?_⟩
          dsimp only [tNil]
          refine tupof_ (.inl (SqL.of (s46 _ _ eD4))) fun r7 H7 s7 h7 => ?_
          have s47 := Same.trans s46 s7
          refine ⟨_, .tuple (ps.map pairD), Dp.same s7 _ hm, .tup h7 (DpAll.same s47 _ hy4), layP.shaped, layP.shaped, _, rfl, ?_⟩
          rw [eqv_refl _ (fit_nl _ fP)]
          refine iteF ⟨_, rfl, ra, _, 1, _, rfl, rfl, SqT.same s7 hra, at_of (j := 1) rfl rfl, _, rfl, _, d, Dp.same s7 _ hh, Dp.same s47 _ hv, layd.shaped, layd.shaped, _, rfl, ?_⟩
          rw [eqv_refl _ (fit_nl _ f2)]
          exact iteF ⟨rfl, s7⟩
        · rintro σ H7 ⟨rfl, s67⟩
          have s47 := Same.trans s46 s67
          rw [tSeq, tAsg]
          refine lit_lst (K := K) (ds := oddR) ?_ (by decide) (fun lO vo H8 hlO s8 gO hO => ?_)
          · unfold oddR
            walk_at "lits"
          have s48 := Same.trans s47 s8
          refine ⟨_, rfl, a, 2, 9, ns, rfl, Same.seq (Same.trans sH2 (Same.trans s24 s48)) hS, by decide, by decide, by decide, fun t3 H9 ht3 sm9 tp9 => ?_⟩
          refine ⟨_, rfl, _, rfl, _, rfl, lO, _, rfl, .inl (SqL.of (sm9 _ _ gO)), t3, _, rfl, tp9, by rw [hO.len]; decide, fun q H10 q0 q1 d10 => ?_⟩
          rw [hO.len, show oddR.length = 10 from rfl] at q1
          obtain ⟨od, hod⟩ : ∃ od, oddR[q.toNat]? = some od := ⟨_, List.getElem?_eq_getElem (by show q.toNat < 10; omega)⟩
          obtain ⟨ov, hov, hvd⟩ := hO.of_get hod
          obtain ⟨o1, o2, o3, o4⟩ := oddR_ok od (List.mem_of_getElem? hod)
          refine ⟨lO, _, q, ov, rfl, rfl, SqL.of (Dr.base ht3 sm9 d10 _ _ gO), at_of (j := q.toNat) (by omega) hov, ?_⟩
          refine ⟨_, rfl, t3, 3, rfl, d10.tape, by decide, fun r H11 r0 r1 d11 => ?_⟩
          obtain ⟨j, rfl⟩ : ∃ j : Nat, r = (j : Int) := ⟨r.toNat, by omega⟩
          have s811 := Dr.base ht3 sm9 (d10.trans d11)
          dsimp only [gName]
          rw [tSeq, tAsg]
          refine lit_lst (K := K) (ds := threeP.map pairD) ?_ (by decide) (fun lT vt H12 hlT s12 gT hT => ?_)
          · simp only [threeP, List.map, pairD]
            walk_at "lits"
          have s412 := Same.trans s48 (Same.trans s811 s12)
          have hvd := Dp.same (Same.trans s811 s12) _ hvd
          have hv := Dp.same s412 _ hv
          have hy := DpAll.same s412 _ hy4
          have eD := s412 _ _ eD4
          obtain ⟨f3R, lay3⟩ := rule_facts (n := 4) (ps := threeP) (d := d) (by decide) three_good f2 (by omega)
          have good3 := rule_good (ps := threeP) (d := d) (by decide) f1 fun q hq => (three_ok q hq).1
          refine ⟨fun σ H13 => σ = [some (.ref a), some (.ref t), some (.ref D), some v, some (.ref ra), some (.ref lO), some (.ref t3), some ov, some (.int j), some (.ref lT), none, none, none] ∧ Same H12 H13, ?_, ?_⟩
          · refine ⟨_, rfl, lT, vt, rfl, .inl (SqL.of gT), fun l13 hl13 => ?_⟩
            generalize z13 : upd _ l13 _ = H13
            obtain ⟨s13, g13⟩ := gen_new z13 hl13
            refine ⟨_, rfl, v, l13, vt, d, threeP, rfl, Dp.same s13 _ hv, SqL.of g13, DpAll.same s13 _ hT, f2, by omega, by decide, three_good, fun _ r14 H14 s14 hr14 => ?_, fun z => by rw [good3] at z; cases z⟩
            have s1214 := Same.trans s13 s14
            refine ⟨_, rfl, ?_⟩
            dsimp only [tNil]
            refine tupof_ (.inl (SqL.of (s1214 _ _ gT))) fun r15 H15 s15 h15 => ?_
            refine ⟨_, rfl, (by show 2 ≤ sizeLine; decide), fun p16 hp16 => ?_⟩
            generalize z16 : upd _ p16 _ = H16
            obtain ⟨s16, g16⟩ := gen_new z16 hp16
            have s1416 := Same.trans s15 s16
            have s1216 := Same.trans s1214 s1416
            refine ⟨_, ruleD threeP d, Dp.same s1416 _ hr14, .tup (SqT.of g16) (.cons (.tup (SqT.same s16 h15) (DpAll.same s1216 _ hT)) (.cons (Dp.same s1216 _ hv) .nil)), lay3.shaped, lay3.shaped, _, rfl, ?_⟩
            rw [eqv_refl _ (fit_nl _ f3R)]
            exact iteF ⟨rfl, s1216⟩
          · rintro σ H13 ⟨rfl, s13⟩
            have hv := Dp.same s13 _ hv
            have hy := DpAll.same s13 _ hy
            have eD := s13 _ _ eD
            have hT := DpAll.same s13 _ hT
            have gT := s13 _ _ gT
            have hvd := Dp.same s13 _ hvd
            have hvl : vt.length = 3 := hT.len
            have hj : j < 3 := by omega
            refine ⟨_, rfl, _, rfl, _, rfl, lT, _, rfl, SqL.of (gT), fun b1 hb1 => ?_⟩
            rw [cut_take (i := j) rfl (by omega)]
            generalize zb1 : upd _ b1 _ = Hb1
            obtain ⟨sb1, gb1⟩ := gen_new zb1 hb1
            refine ⟨_, rfl, (by show 2 ≤ sizeLine; decide), fun b2 hb2 => ?_⟩
            generalize zb2 : upd _ b2 _ = Hb2
            obtain ⟨sb2, gb2⟩ := gen_new zb2 hb2
            refine ⟨(by show 1 ≤ sizeLine; decide), fun b3 hb3 => ?_⟩
            generalize zb3 : upd _ b3 _ = Hb3
            obtain ⟨sb3, gb3⟩ := gen_new zb3 hb3
            refine ⟨b1, b3, _, _, rfl, rfl, sb3 _ _ (sb2 _ _ gb1), gb3, fits1000 (by simp; omega), fun b4 hb4 => ?_⟩
            generalize zb4 : upd _ b4 _ = Hb4
            obtain ⟨sb4, gb4⟩ := gen_new zb4 hb4
            have sb14 := Same.trans sb1 (Same.trans sb2 (Same.trans sb3 sb4))
            refine ⟨_, rfl, _, rfl, _, _, rfl, rfl, _, rfl, lT, _, rfl, SqL.of (sb14 _ _ gT), fun b5 hb5 => ?_⟩
            rw [cut_drop (i := j + 1) (by omega) (by omega)]
            generalize zb5 : upd _ b5 _ = Hb5
            obtain ⟨sb5, gb5⟩ := gen_new zb5 hb5
            refine ⟨b4, b5, _, _, rfl, rfl, sb5 _ _ gb4, gb5, fits1000 (by simp; omega), fun b6 hb6 => ?_⟩
            generalize zb6 : upd _ b6 _ = Hb6
            obtain ⟨sb6, gb6⟩ := gen_new zb6 hb6
            have sb16 := Same.trans sb14 (Same.trans sb5 sb6)
            have sb26 := Same.trans sb3 (Same.trans sb4 (Same.trans sb5 sb6))
            have hT6 := DpAll.same sb16 _ hT
            have gT6 := sb16 _ _ gT
            have hB : DpAll K Hb6 ((vt.take j ++ [.ref b2]) ++ vt.drop (j + 1)) (((threeP.take j ++ [(od, PyData.str "A")]) ++ threeP.drop (j + 1)).map pairD) := by
              rw [List.map_append, List.map_append, List.map_take, List.map_drop]
              exact DpAll.app (DpAll.snoc (DpAll.take j hT6) (.tup (SqT.of (sb26 _ _ gb2)) (.cons (Dp.same sb16 _ hvd) (.cons (.str _) .nil)))) (DpAll.drop (j + 1) hT6)
            refine ⟨_, rfl, _, rfl, _, rfl, lT, _, rfl, SqL.of (gT6), fun c1 hc1 => ?_⟩
            rw [cut_take (i := j) rfl (by omega)]
            generalize zc1 : upd _ c1 _ = Hc1
            obtain ⟨sc1, gc1⟩ := gen_new zc1 hc1
            refine ⟨_, rfl, (by show 2 ≤ sizeLine; decide), fun c2 hc2 => ?_⟩
            generalize zc2 : upd _ c2 _ = Hc2
            obtain ⟨sc2, gc2⟩ := gen_new zc2 hc2
            refine ⟨(by show 1 ≤ sizeLine; decide), fun c3 hc3 => ?_⟩
            generalize zc3 : upd _ c3 _ = Hc3
            obtain ⟨sc3, gc3⟩ := gen_new zc3 hc3
            refine ⟨c1, c3, _, _, rfl, rfl, sc3 _ _ (sc2 _ _ gc1), gc3, fits1000 (by simp; omega), fun c4 hc4 => ?_⟩
            generalize zc4 : upd _ c4 _ = Hc4
            obtain ⟨sc4, gc4⟩ := gen_new zc4 hc4
            have sc14 := Same.trans sc1 (Same.trans sc2 (Same.trans sc3 sc4))
            refine ⟨_, rfl, _, rfl, _, _, rfl, rfl, _, rfl, lT, _, rfl, SqL.of (sc14 _ _ gT6), fun c5 hc5 => ?_⟩
            rw [cut_drop (i := j + 1) (by omega) (by omega)]
            generalize zc5 : upd _ c5 _ = Hc5
            obtain ⟨sc5, gc5⟩ := gen_new zc5 hc5
            refine ⟨c4, c5, _, _, rfl, rfl, sc5 _ _ gc4, gc5, fits1000 (by simp; omega), fun c6 hc6 => ?_⟩
            generalize zc6 : upd _ c6 _ = Hc6
            obtain ⟨sc6, gc6⟩ := gen_new zc6 hc6
            have sc16 := Same.trans sc14 (Same.trans sc5 sc6)
            have sc26 := Same.trans sc3 (Same.trans sc4 (Same.trans sc5 sc6))
            have hC : DpAll K Hc6 ((vt.take j ++ [.ref c2]) ++ vt.drop (j + 1)) (((threeP.take j ++ [(PyData.none, od)]) ++ threeP.drop (j + 1)).map pairD) := by
              have hT7 := DpAll.same sc16 _ hT6
              rw [List.map_append, List.map_append, List.map_take, List.map_drop]
              exact DpAll.app (DpAll.snoc (DpAll.take j hT7) (.tup (SqT.of (sc26 _ _ gc2)) (.cons .non (.cons (Dp.same sc16 _ (Dp.same sb16 _ hvd)) .nil)))) (DpAll.drop (j + 1) hT7)
            have sall := Same.trans sb16 sc16
            have memQ : ∀ (x : PyData × PyData), goodQ 4 x → ∀ q ∈ (threeP.take j ++ [x]) ++ threeP.drop (j + 1), goodQ 4 q := fun x hx q hq => by
              rcases List.mem_append.mp hq with hq | hq
              · rcases List.mem_append.mp hq with hq | hq
                · exact three_good q (List.mem_of_mem_take hq)
                · rw [List.mem_singleton.mp hq]; exact hx
              · exact three_good q (List.mem_of_mem_drop hq)
            have lenQ : ∀ x : PyData × PyData, ((threeP.take j ++ [x]) ++ threeP.drop (j + 1)).length ≤ 4 := fun x => by
              simp [threeP]; omega
            have inQ : ∀ x : PyData × PyData, x ∈ (threeP.take j ++ [x]) ++ threeP.drop (j + 1) := fun x => by simp
            have gA : goodQ 4 (od, .str "A") := ⟨o2, (show fitD (.str "A") = true by decide +kernel), (show od.depth < 4 by omega), (show (PyData.str "A").depth < 4 by decide +kernel)⟩
            have gB' : goodQ 4 (.none, od) := ⟨(show fitD .none = true by decide +kernel), o2, (show PyData.none.depth < 4 by decide +kernel), (show od.depth < 4 by omega)⟩
            have bA : ruleOk ((threeP.take j ++ [(od, PyData.str "A")]) ++ threeP.drop (j + 1)) d = false := rule_bad (inQ _) (by rw [placeOk, o4, Bool.and_false])
            have bB : ruleOk ((threeP.take j ++ [(PyData.none, od)]) ++ threeP.drop (j + 1)) d = false := rule_bad (inQ _) (by rw [placeOk, o1, Bool.false_and])
            have bad_head : ∀ qs, ruleOk qs od = false := fun qs => by rw [ruleOk, o1, Bool.and_false, Bool.false_and]
            have hv6 := Dp.same sall _ hv
            have hvd6 := Dp.same sall _ hvd
            refine ⟨fun σ Hn => ∃ x1 x2, σ = [some (.ref a), some (.ref t), some (.ref D), some v, some (.ref ra), some (.ref lO), some (.ref t3), some ov, some (.int j), some (.ref lT), x1, x2, none] ∧ Same Hc6 Hn, ?_, ?_⟩
            · refine ⟨_, rfl, _, rfl, v, b6, _, d, _, rfl, hv6, SqL.of (sc16 _ _ gb6), DpAll.same sc16 _ hB, f2, by omega, lenQ _, memQ _ gA, bA, fun He se => ⟨_, rfl, iteF ?_⟩⟩
              refine ⟨_, rfl, _, rfl, v, c6, _, d, _, rfl, Dp.same se _ hv6, SqL.of (se _ _ gc6), DpAll.same se _ hC, f2, by omega, lenQ _, memQ _ gB', bB, fun Hf sf => ⟨_, rfl, iteF ?_⟩⟩
              have sef := Same.trans se sf
              exact ⟨_, rfl, _, rfl, ov, lT, _, od, threeP, rfl, Dp.same sef _ hvd6, SqL.of (sef _ _ (sc16 _ _ gT6)), DpAll.same sef _ (DpAll.same sc16 _ hT6), o2, by omega, by decide, three_good, bad_head _, fun Hg sg => ⟨_, rfl, iteF ⟨_, _, rfl, Same.trans sef sg⟩⟩⟩
            · rintro σ Hn ⟨x1, x2, rfl, sn⟩
              have sn' := Same.trans sall sn
              rw [tRet, tAndV, tCall, tCons, tOp]
              refine ⟨_, rfl, ?_⟩
              refine lit_lst (K := K) (ds := [.tuple [.none, .str "A"]]) ?_ (by decide) (fun lE ve Ho hlE so gE hE => ?_)
              · walk_at "lits"
              have sno := Same.trans sn' so
              refine ⟨lT, lE, vt, ve, rfl, rfl, sno _ _ gT, gE, fits1000 (by rw [hvl, hE.len]; decide), fun lF hF => ?_⟩
              generalize zF : upd _ lF _ = Hp'
              obtain ⟨sp', gF⟩ := gen_new zF hF
              have snp := Same.trans sno sp'
              refine ⟨_, rfl, v, lF, vt ++ ve, d, threeP ++ [(PyData.none, PyData.str "A")], rfl, Dp.same snp _ hv, SqL.of gF, ?_, f2, by omega, by decide, ?_, ?_, fun Hq sq => ⟨_, rfl, iteT ?_⟩⟩
              · rw [List.map_append]
                exact DpAll.app (DpAll.same snp _ hT) (DpAll.same sp' _ hE)
              · intro q hq
                rcases List.mem_append.mp hq with hq | hq
                · exact three_good q hq
                · rw [List.mem_singleton.mp hq]; exact ⟨by decide +kernel, by decide +kernel, by decide +kernel, by decide +kernel⟩
              · rw [ruleOk, decide_eq_false (by decide)]; rfl
              have snq := Same.trans snp sq
              exact ⟨_, rfl, _, rfl, ov, D, ys, od, ps, rfl, Dp.same snq _ hvd, SqL.of (snq _ _ eD), DpAll.same snq _ hy, o2, by omega, by omega, hpg, bad_head _, fun _ _ => k _⟩

end Kn

set_option Elab.async false
set_option maxRecDepth 100000
set_option linter.all false
namespace Kn
open PySem L2
theorem all_mk {l : PySem.W.OpenLaw} {w : World} {K : PySem.W.Frag} {h : Heap} {mg : Str → Option Value} {fa : Addr} (X : K.In h) (G : h.Ns mainGlobals mg) (hfa : mg "law" = some (.ref fa))
    {f1 f2 f3 f4 f5 f6 f7 f8 f9 f10 f11 f12 f13 : Addr} {od1 an1 od2 an2 od3 an3 od4 an4 od5 an5 od6 an6 od7 an7 od8 an8 od9 an9 od10 an10 od11 an11 od12 an12 od13 an13 : Option Addr} {sl1 sl2 sl3 sl4 sl5 sl6 sl7 sl8 sl9 sl10 sl11 sl12 sl13 : Array (Option Value)} {oc1 kV1 dc1 pm1 cd1 ct1 oc2 kV2 dc2 pm2 cd2 ct2 oc3 kV3 dc3 pm3 cd3 ct3 oc4 kV4 dc4 pm4 cd4 ct4 oc5 kV5 dc5 pm5 cd5 ct5 oc6 kV6 dc6 pm6 cd6 ct6 oc7 kV7 dc7 pm7 cd7 ct7 oc8 kV8 dc8 pm8 cd8 ct8 oc9 kV9 dc9 pm9 cd9 ct9 oc10 kV10 dc10 pm10 cd10 ct10 oc11 kV11 dc11 pm11 cd11 ct11 oc12 kV12 dc12 pm12 cd12 ct12 oc13 kV13 dc13 pm13 cd13 ct13 : Value} {u_LARGE : Value} {u_LONGEST_WORD : Value} {u_MOST_PARTS : Value} {u_MOST_PLACES : Value} {u_SMALL : Value} {C_BadRule : Addr} {C_BadKind : Addr} {C_NotesError : Addr}
    (a1 : PySem.W.nsIn K mainGlobals "is_word" = some (some (.ref f1))) (l1 : K.lookup f1 = some ⟨oc1, od1, .func (PySem.W.fnOf "is_word" "is_word" (defArgs s_is_word) (defBody s_is_word) (defScope s_is_word) .none kV1 dc1 pm1 an1 cd1 ct1), sl1⟩) (c1 : PySem.W.codeIn K cd1 "is_word" = true) (k1 : PySem.W.keepIn K (.ref f1) = true)
    (a2 : PySem.W.nsIn K mainGlobals "is_letter" = some (some (.ref f2))) (l2 : K.lookup f2 = some ⟨oc2, od2, .func (PySem.W.fnOf "is_letter" "is_letter" (defArgs s_is_letter) (defBody s_is_letter) (defScope s_is_letter) .none kV2 dc2 pm2 an2 cd2 ct2), sl2⟩) (c2 : PySem.W.codeIn K cd2 "is_letter" = true) (k2 : PySem.W.keepIn K (.ref f2) = true)
    (a3 : PySem.W.nsIn K mainGlobals "is_form" = some (some (.ref f3))) (l3 : K.lookup f3 = some ⟨oc3, od3, .func (PySem.W.fnOf "is_form" "is_form" (defArgs s_is_form) (defBody s_is_form) (defScope s_is_form) .none kV3 dc3 pm3 an3 cd3 ct3), sl3⟩) (c3 : PySem.W.codeIn K cd3 "is_form" = true) (k3 : PySem.W.keepIn K (.ref f3) = true)
    (a4 : PySem.W.nsIn K mainGlobals "rule" = some (some (.ref f4))) (l4 : K.lookup f4 = some ⟨oc4, od4, .func (PySem.W.fnOf "rule" "rule" (defArgs s_rule) (defBody s_rule) (defScope s_rule) .none kV4 dc4 pm4 an4 cd4 ct4), sl4⟩) (c4 : PySem.W.codeIn K cd4 "rule" = true) (k4 : PySem.W.keepIn K (.ref f4) = true)
    (a5 : PySem.W.nsIn K mainGlobals "_law_cell" = some (some (.ref f5))) (l5 : K.lookup f5 = some ⟨oc5, od5, .func (PySem.W.fnOf "_law_cell" "_law_cell" (defArgs s__law_cell) (defBody s__law_cell) (defScope s__law_cell) .none kV5 dc5 pm5 an5 cd5 ct5), sl5⟩) (c5 : PySem.W.codeIn K cd5 "_law_cell" = true) (k5 : PySem.W.keepIn K (.ref f5) = true)
    (a6 : PySem.W.nsIn K mainGlobals "_law_tape" = some (some (.ref f6))) (l6 : K.lookup f6 = some ⟨oc6, od6, .func (PySem.W.fnOf "_law_tape" "_law_tape" (defArgs s__law_tape) (defBody s__law_tape) (defScope s__law_tape) .none kV6 dc6 pm6 an6 cd6 ct6), sl6⟩) (c6 : PySem.W.codeIn K cd6 "_law_tape" = true) (k6 : PySem.W.keepIn K (.ref f6) = true)
    (a7 : PySem.W.nsIn K mainGlobals "_law_take" = some (some (.ref f7))) (l7 : K.lookup f7 = some ⟨oc7, od7, .func (PySem.W.fnOf "_law_take" "_law_take" (defArgs s__law_take) (defBody s__law_take) (defScope s__law_take) .none kV7 dc7 pm7 an7 cd7 ct7), sl7⟩) (c7 : PySem.W.codeIn K cd7 "_law_take" = true) (k7 : PySem.W.keepIn K (.ref f7) = true)
    (a8 : PySem.W.nsIn K mainGlobals "_law_word" = some (some (.ref f8))) (l8 : K.lookup f8 = some ⟨oc8, od8, .func (PySem.W.fnOf "_law_word" "_law_word" (defArgs s__law_word) (defBody s__law_word) (defScope s__law_word) .none kV8 dc8 pm8 an8 cd8 ct8), sl8⟩) (c8 : PySem.W.codeIn K cd8 "_law_word" = true) (k8 : PySem.W.keepIn K (.ref f8) = true)
    (a9 : PySem.W.nsIn K mainGlobals "_law_pattern" = some (some (.ref f9))) (l9 : K.lookup f9 = some ⟨oc9, od9, .func (PySem.W.fnOf "_law_pattern" "_law_pattern" (defArgs s__law_pattern) (defBody s__law_pattern) (defScope s__law_pattern) .none kV9 dc9 pm9 an9 cd9 ct9), sl9⟩) (c9 : PySem.W.codeIn K cd9 "_law_pattern" = true) (k9 : PySem.W.keepIn K (.ref f9) = true)
    (a10 : PySem.W.nsIn K mainGlobals "_law_rule_of" = some (some (.ref f10))) (l10 : K.lookup f10 = some ⟨oc10, od10, .func (PySem.W.fnOf "_law_rule_of" "_law_rule_of" (defArgs s__law_rule_of) (defBody s__law_rule_of) (defScope s__law_rule_of) .none kV10 dc10 pm10 an10 cd10 ct10), sl10⟩) (c10 : PySem.W.codeIn K cd10 "_law_rule_of" = true) (k10 : PySem.W.keepIn K (.ref f10) = true)
    (a11 : PySem.W.nsIn K mainGlobals "_law_refused" = some (some (.ref f11))) (l11 : K.lookup f11 = some ⟨oc11, od11, .func (PySem.W.fnOf "_law_refused" "_law_refused" (defArgs s__law_refused) (defBody s__law_refused) (defScope s__law_refused) .none kV11 dc11 pm11 an11 cd11 ct11), sl11⟩) (c11 : PySem.W.codeIn K cd11 "_law_refused" = true) (k11 : PySem.W.keepIn K (.ref f11) = true)
    (a12 : PySem.W.nsIn K mainGlobals "_law_place" = some (some (.ref f12))) (l12 : K.lookup f12 = some ⟨oc12, od12, .func (PySem.W.fnOf "_law_place" "_law_place" (defArgs s__law_place) (defBody s__law_place) (defScope s__law_place) .none kV12 dc12 pm12 an12 cd12 ct12), sl12⟩) (c12 : PySem.W.codeIn K cd12 "_law_place" = true) (k12 : PySem.W.keepIn K (.ref f12) = true)
    (a13 : PySem.W.nsIn K mainGlobals "law" = some (some (.ref f13))) (l13 : K.lookup f13 = some ⟨oc13, od13, .func (PySem.W.fnOf "law" "law" (defArgs s_law) (defBody s_law) (defScope s_law) .none kV13 dc13 pm13 an13 cd13 ct13), sl13⟩) (c13 : PySem.W.codeIn K cd13 "law" = true) (k13 : PySem.W.keepIn K (.ref f13) = true)
    (q_LARGE : PySem.W.nsIn K mainGlobals "LARGE" = some (some u_LARGE)) (r_LARGE : RelV (.str "ABCDEFGHIJKLMNOPQRSTUVWXYZ") u_LARGE)
    (q_LONGEST_WORD : PySem.W.nsIn K mainGlobals "LONGEST_WORD" = some (some u_LONGEST_WORD)) (r_LONGEST_WORD : RelV (.int 12) u_LONGEST_WORD)
    (q_MOST_PARTS : PySem.W.nsIn K mainGlobals "MOST_PARTS" = some (some u_MOST_PARTS)) (r_MOST_PARTS : RelV (.int 3) u_MOST_PARTS)
    (q_MOST_PLACES : PySem.W.nsIn K mainGlobals "MOST_PLACES" = some (some u_MOST_PLACES)) (r_MOST_PLACES : RelV (.int 3) u_MOST_PLACES)
    (q_SMALL : PySem.W.nsIn K mainGlobals "SMALL" = some (some u_SMALL)) (r_SMALL : RelV (.str "abcdefghijklmnopqrstuvwxyz") u_SMALL)
    (z_all : PySem.W.nsIn K mainGlobals "all" = some none)
    (z_int : PySem.W.nsIn K mainGlobals "int" = some none)
    (z_isinstance : PySem.W.nsIn K mainGlobals "isinstance" = some none)
    (z_len : PySem.W.nsIn K mainGlobals "len" = some none)
    (z_list : PySem.W.nsIn K mainGlobals "list" = some none)
    (z_range : PySem.W.nsIn K mainGlobals "range" = some none)
    (z_str : PySem.W.nsIn K mainGlobals "str" = some none)
    (z_tuple : PySem.W.nsIn K mainGlobals "tuple" = some none)
    (xa_BadRule : PySem.W.nsIn K mainGlobals "BadRule" = some (some (.ref C_BadRule))) (xe_BadRule : PySem.W.excIn K C_BadRule [.type "ValueError", .type "Exception", .type "BaseException", .type "object"] "ValueError.__new__" = true) (xk_BadRule : PySem.W.keepIn K (.ref C_BadRule) = true) (xb_BadRule : PySem.W.subIn K (.ref C_BadRule) (.type "BaseException") = some true) (xt_BadRule : PySem.W.typeIn K (.ref C_BadRule) = some (.type "type"))
    (xa_BadKind : PySem.W.nsIn K mainGlobals "BadKind" = some (some (.ref C_BadKind)))
    (xa_NotesError : PySem.W.nsIn K mainGlobals "NotesError" = some (some (.ref C_NotesError)))
    (y0 : PySem.W.exmOne K (.ref C_BadRule) (.ref C_NotesError) = some true)
    (y1 : PySem.W.kitOne K (.ref C_BadRule) (.ref C_BadRule) = some true)
    (y2 : PySem.W.kitOne K (.ref C_BadRule) (.ref C_BadKind) = some false)
    (y3_0 : PySem.W.findIn K (.ref C_BadRule) "__getattribute__" = some (some (.builtin "BaseException.__getattribute__")))
    (y3_1 : PySem.W.findIn K (.ref C_BadRule) "__getattr__" = some none)
    (y3_2 : PySem.W.subIn K (.ref C_BadRule) (.type "BaseException") = some true)
    (y3_3 : PySem.W.hasDictIn K C_BadRule = true)
    (y3_4 : PySem.W.findIn K (.ref C_BadRule) "__class__" = some (some (.builtin "object.__class__")))
    (y3_5 : PySem.W.specialIn K (.builtin "object.__class__") "__get__" = some (some (.builtin "getset_descriptor.__get__")))
    (y3_6 : PySem.W.takesIn K (.builtin "object.__class__") = some true)
    (y3_7 : PySem.W.mroIn K C_BadRule (.type "object") = some true) :
    ∃ fd : FuncData, (∀ (s : Shared) (v : Value), BindsTo s fd ⟨[v], []⟩ [("_law_script", v)]) ∧ ∀ base : Heap, K.In base → base.Ns mainGlobals mg → FnOk l.prog w K mg base CX0 10 fa fd ["_law_script"] (spLaw K) := by
  have e := hfa.symm.trans (PySem.W.mg_of X G a13)
  cases e
  have FL := fun_mk (st := s_law) l13 c13 k13
  have F_is_word : Fz K mg "is_word" s_is_word P_is_word := ⟨f1, _, fun_mk (st := s_is_word) l1 c1 k1, PySem.W.mg_of X G a1, (fun_mk (st := s_is_word) l1 c1 k1).binds (ps := P_is_word) fun _ _ _ _ _ _ us hl => match us, hl with | [_], _ => rfl⟩
  have F_is_letter : Fz K mg "is_letter" s_is_letter P_is_letter := ⟨f2, _, fun_mk (st := s_is_letter) l2 c2 k2, PySem.W.mg_of X G a2, (fun_mk (st := s_is_letter) l2 c2 k2).binds (ps := P_is_letter) fun _ _ _ _ _ _ us hl => match us, hl with | [_], _ => rfl⟩
  have F_is_form : Fz K mg "is_form" s_is_form P_is_form := ⟨f3, _, fun_mk (st := s_is_form) l3 c3 k3, PySem.W.mg_of X G a3, (fun_mk (st := s_is_form) l3 c3 k3).binds (ps := P_is_form) fun _ _ _ _ _ _ us hl => match us, hl with | [_], _ => rfl⟩
  have F_rule : FzSK K mg "rule" s_rule "places" "whole" := ⟨f4, _, fun_mk (st := s_rule) l4 c4 k4, PySem.W.mg_of X G a4, fun rest u => match rest with | [] => rfl | _ :: _ => rfl⟩
  have F__law_cell : Fz K mg "_law_cell" s__law_cell P__law_cell := ⟨f5, _, fun_mk (st := s__law_cell) l5 c5 k5, PySem.W.mg_of X G a5, (fun_mk (st := s__law_cell) l5 c5 k5).binds (ps := P__law_cell) fun _ _ _ _ _ _ us hl => match us, hl with | [_, _], _ => rfl⟩
  have F__law_tape : Fz K mg "_law_tape" s__law_tape P__law_tape := ⟨f6, _, fun_mk (st := s__law_tape) l6 c6 k6, PySem.W.mg_of X G a6, (fun_mk (st := s__law_tape) l6 c6 k6).binds (ps := P__law_tape) fun _ _ _ _ _ _ us hl => match us, hl with | [_, _, _], _ => rfl⟩
  have F__law_take : Fz K mg "_law_take" s__law_take P__law_take := ⟨f7, _, fun_mk (st := s__law_take) l7 c7 k7, PySem.W.mg_of X G a7, (fun_mk (st := s__law_take) l7 c7 k7).binds (ps := P__law_take) fun _ _ _ _ _ _ us hl => match us, hl with | [_, _], _ => rfl⟩
  have F__law_word : Fz K mg "_law_word" s__law_word P__law_word := ⟨f8, _, fun_mk (st := s__law_word) l8 c8 k8, PySem.W.mg_of X G a8, (fun_mk (st := s__law_word) l8 c8 k8).binds (ps := P__law_word) fun _ _ _ _ _ _ us hl => match us, hl with | [_], _ => rfl⟩
  have F__law_pattern : Fz K mg "_law_pattern" s__law_pattern P__law_pattern := ⟨f9, _, fun_mk (st := s__law_pattern) l9 c9 k9, PySem.W.mg_of X G a9, (fun_mk (st := s__law_pattern) l9 c9 k9).binds (ps := P__law_pattern) fun _ _ _ _ _ _ us hl => match us, hl with | [_, _], _ => rfl⟩
  have F__law_rule_of : Fz K mg "_law_rule_of" s__law_rule_of P__law_rule_of := ⟨f10, _, fun_mk (st := s__law_rule_of) l10 c10 k10, PySem.W.mg_of X G a10, (fun_mk (st := s__law_rule_of) l10 c10 k10).binds (ps := P__law_rule_of) fun _ _ _ _ _ _ us hl => match us, hl with | [_, _], _ => rfl⟩
  have F__law_refused : Fz K mg "_law_refused" s__law_refused P__law_refused := ⟨f11, _, fun_mk (st := s__law_refused) l11 c11 k11, PySem.W.mg_of X G a11, (fun_mk (st := s__law_refused) l11 c11 k11).binds (ps := P__law_refused) fun _ _ _ _ _ _ us hl => match us, hl with | [_, _], _ => rfl⟩
  have F__law_place : Fz K mg "_law_place" s__law_place P__law_place := ⟨f12, _, fun_mk (st := s__law_place) l12 c12 k12, PySem.W.mg_of X G a12, (fun_mk (st := s__law_place) l12 c12 k12).binds (ps := P__law_place) fun _ _ _ _ _ _ us hl => match us, hl with | [_], _ => rfl⟩
  have cn_LARGE : ∃ u, mg "LARGE" = some u ∧ RelV (.str "ABCDEFGHIJKLMNOPQRSTUVWXYZ") u := ⟨u_LARGE, PySem.W.mg_of X G q_LARGE, r_LARGE⟩
  have cn_LONGEST_WORD : ∃ u, mg "LONGEST_WORD" = some u ∧ RelV (.int 12) u := ⟨u_LONGEST_WORD, PySem.W.mg_of X G q_LONGEST_WORD, r_LONGEST_WORD⟩
  have cn_MOST_PARTS : ∃ u, mg "MOST_PARTS" = some u ∧ RelV (.int 3) u := ⟨u_MOST_PARTS, PySem.W.mg_of X G q_MOST_PARTS, r_MOST_PARTS⟩
  have cn_MOST_PLACES : ∃ u, mg "MOST_PLACES" = some u ∧ RelV (.int 3) u := ⟨u_MOST_PLACES, PySem.W.mg_of X G q_MOST_PLACES, r_MOST_PLACES⟩
  have cn_SMALL : ∃ u, mg "SMALL" = some u ∧ RelV (.str "abcdefghijklmnopqrstuvwxyz") u := ⟨u_SMALL, PySem.W.mg_of X G q_SMALL, r_SMALL⟩
  have bn_all : mg "all" = none := PySem.W.mg_none_of X G z_all
  have bn_int : mg "int" = none := PySem.W.mg_none_of X G z_int
  have bn_isinstance : mg "isinstance" = none := PySem.W.mg_none_of X G z_isinstance
  have bn_len : mg "len" = none := PySem.W.mg_none_of X G z_len
  have bn_list : mg "list" = none := PySem.W.mg_none_of X G z_list
  have bn_range : mg "range" = none := PySem.W.mg_none_of X G z_range
  have bn_str : mg "str" = none := PySem.W.mg_none_of X G z_str
  have bn_tuple : mg "tuple" = none := PySem.W.mg_none_of X G z_tuple
  have en_BadRule : ExcF K mg "BadRule" := by
    have g := PySem.W.mg_of X G xa_BadRule
    have e := clsA_of g
    exact ⟨by rw [e]; exact g, by rw [e]; exact xe_BadRule, by rw [e]; exact xk_BadRule, by rw [e]; exact xb_BadRule, by rw [e]; exact xt_BadRule⟩
  have ce_BadKind : clsA mg "BadKind" = C_BadKind := clsA_of (PySem.W.mg_of X G xa_BadKind)
  have gn_BadKind : mg "BadKind" = some (.ref (clsA mg "BadKind")) := by rw [ce_BadKind]; exact PySem.W.mg_of X G xa_BadKind
  have ce_NotesError : clsA mg "NotesError" = C_NotesError := clsA_of (PySem.W.mg_of X G xa_NotesError)
  have gn_NotesError : mg "NotesError" = some (.ref (clsA mg "NotesError")) := by rw [ce_NotesError]; exact PySem.W.mg_of X G xa_NotesError
  have ce_BadRule : clsA mg "BadRule" = C_BadRule := clsA_of (PySem.W.mg_of X G xa_BadRule)
  have gn_BadRule : mg "BadRule" = some (.ref (clsA mg "BadRule")) := by rw [ce_BadRule]; exact PySem.W.mg_of X G xa_BadRule
  have rn0 : PySem.W.exmOne K (.ref (clsA mg "BadRule")) (.ref (clsA mg "NotesError")) = some true := by rw [ce_BadRule, ce_NotesError]; exact y0
  have rn1 : PySem.W.kitOne K (.ref (clsA mg "BadRule")) (.ref (clsA mg "BadRule")) = some true := by rw [ce_BadRule]; exact y1
  have rn2 : PySem.W.kitOne K (.ref (clsA mg "BadRule")) (.ref (clsA mg "BadKind")) = some false := by rw [ce_BadRule, ce_BadKind]; exact y2
  have rn3 : ExcC K (clsA mg "BadRule") := by rw [ce_BadRule]; exact ⟨y3_0, y3_1, y3_2, y3_3, y3_4, y3_5, y3_6, y3_7⟩
  have T := (⟨bn_all, bn_int, bn_isinstance, bn_len, bn_list, bn_range, bn_str, bn_tuple, cn_LARGE, cn_LONGEST_WORD, cn_MOST_PARTS, cn_MOST_PLACES, cn_SMALL, en_BadRule, gn_BadKind, gn_NotesError, gn_BadRule, rn0, rn1, rn2, rn3⟩ : Txt K mg)
  refine ⟨PySem.W.fnOf "law" "law" (defArgs s_law) (defBody s_law) (defScope s_law) .none kV13 dc13 pm13 an13 cd13 ct13, fun s v => .of_eq rfl, fun base _ _ => ?_⟩
  have G1 := ok__law_take (P := l.prog) (w := w) (base := base) F__law_take T
  have G2 := ok__law_cell (P := l.prog) (w := w) (base := base) F__law_cell T
  have G3 := ok__law_tape F__law_tape T G2
  have G4 := ok__law_word F__law_word T G1
  have G5 := ok__law_pattern F__law_pattern T G1 G4 2
  have G6 := ok__law_pattern F__law_pattern T G1 G4 1
  have G7 := ok__law_place F__law_place T G1 G6 G5
  have I1 := ok_is_word (P := l.prog) (w := w) (base := base) F_is_word T
  have I2 := ok_is_letter (P := l.prog) (w := w) (base := base) F_is_letter T
  have I3 := ok_is_form F_is_form T I1 I2 4
  have I4 := ok_rule F_rule T I3
  have I5 := ok__law_rule_of F__law_rule_of T I4
  have I6 := ok__law_refused F__law_refused T I5
  exact ok_law FL T G3 G1 G7 G5 I5 I6
theorem walk {l : PySem.W.OpenLaw} {q : Program} {loose : List Str} {XP : (Str → Option Value) → Heap → Prop} {YP : World → Heap → Prop} {d : DefRec} {K : Params → PySem.W.Frag} (hn : l.most = some 63) (hdf : d.params.defaults = [])
    (hY : ∀ (w : World) (h : Heap), YP w h → (K w.params).In h)
    (F : ∀ (w : World) (mg : Str → Option Value) (fa : Addr) (h : Heap), (K w.params).In h → h.Ns mainGlobals mg → mg d.name = some (.ref fa) →
      ∃ fd : FuncData, (∀ (s : Shared) (u : Value), BindsTo s fd ⟨[u], []⟩ [("_law_script", u)]) ∧ ∀ base : Heap, (K w.params).In base → base.Ns mainGlobals mg → FnOk l.prog w (K w.params) mg base CX0 10 fa fd ["_law_script"] (spLaw (K w.params))) :
    PySem.W.WalkO q loose XP YP l.row.toRowW d [] (fun f vs => PySem.call f vs) :=
  L2.walk_of (n := 63) (k := 10) (x := "_law_script") (CX := fun _ => CX0) (sp := fun w => spLaw (K w.params)) hn (by decide) hdf ⟨rfl, by decide, by decide⟩ hY F (fun _ _ a ns hl _ hS => ⟨a, ns, rfl, hS, hl, fun _ => rfl⟩) fun _ _ _ _ _ z => z
end Kn
open PySem PySem.W PyProof.Rows
set_option maxRecDepth 100000 in
set_option maxHeartbeats 0 in
theorem PySem.Challenge.cw_kindnotes_k07_rules_are_made_holds : PySem.Challenge.rw_kindnotes_k07_rules_are_made.Holds := by
  w_on; o_law; k_head; (case hw => w_witness2)
  k_fill
  refine Kn.walk (l := PySem.Challenge.rw_kindnotes_k07_rules_are_made) rfl rfl (fun w h Y => PySem.W.kIn_of Y) ?F
  case F =>
    intro w mg fa h KX G hmg
    refine' Kn.all_mk KX G hmg ?a1 ?l1 ?c1 ?k1 ?a2 ?l2 ?c2 ?k2 ?a3 ?l3 ?c3 ?k3 ?a4 ?l4 ?c4 ?k4 ?a5 ?l5 ?c5 ?k5 ?a6 ?l6 ?c6 ?k6 ?a7 ?l7 ?c7 ?k7 ?a8 ?l8 ?c8 ?k8 ?a9 ?l9 ?c9 ?k9 ?a10 ?l10 ?c10 ?k10 ?a11 ?l11 ?c11 ?k11 ?a12 ?l12 ?c12 ?k12 ?a13 ?l13 ?c13 ?k13 ?q_LARGE ?r_LARGE ?q_LONGEST_WORD ?r_LONGEST_WORD ?q_MOST_PARTS ?r_MOST_PARTS ?q_MOST_PLACES ?r_MOST_PLACES ?q_SMALL ?r_SMALL ?z_all ?z_int ?z_isinstance ?z_len ?z_list ?z_range ?z_str ?z_tuple ?xa_BadRule ?xe_BadRule ?xk_BadRule ?xb_BadRule ?xt_BadRule ?xa_BadKind ?xa_NotesError ?y0 ?y1 ?y2 ?y3_0 ?y3_1 ?y3_2 ?y3_3 ?y3_4 ?y3_5 ?y3_6 ?y3_7
    (case a1 => k_is)
    (case l1 => k_is)
    (case c1 => k_is)
    (case k1 => k_is)
    (case a2 => k_is)
    (case l2 => k_is)
    (case c2 => k_is)
    (case k2 => k_is)
    (case a3 => k_is)
    (case l3 => k_is)
    (case c3 => k_is)
    (case k3 => k_is)
    (case a4 => k_is)
    (case l4 => k_is)
    (case c4 => k_is)
    (case k4 => k_is)
    (case a5 => k_is)
    (case l5 => k_is)
    (case c5 => k_is)
    (case k5 => k_is)
    (case a6 => k_is)
    (case l6 => k_is)
    (case c6 => k_is)
    (case k6 => k_is)
    (case a7 => k_is)
    (case l7 => k_is)
    (case c7 => k_is)
    (case k7 => k_is)
    (case a8 => k_is)
    (case l8 => k_is)
    (case c8 => k_is)
    (case k8 => k_is)
    (case a9 => k_is)
    (case l9 => k_is)
    (case c9 => k_is)
    (case k9 => k_is)
    (case a10 => k_is)
    (case l10 => k_is)
    (case c10 => k_is)
    (case k10 => k_is)
    (case a11 => k_is)
    (case l11 => k_is)
    (case c11 => k_is)
    (case k11 => k_is)
    (case a12 => k_is)
    (case l12 => k_is)
    (case c12 => k_is)
    (case k12 => k_is)
    (case a13 => k_is)
    (case l13 => k_is)
    (case c13 => k_is)
    (case k13 => k_is)
    (case q_LARGE => k_is)
    (case r_LARGE => exact ⟨_, rfl⟩)
    (case q_LONGEST_WORD => k_is)
    (case r_LONGEST_WORD => exact ⟨_, rfl⟩)
    (case q_MOST_PARTS => k_is)
    (case r_MOST_PARTS => exact ⟨_, rfl⟩)
    (case q_MOST_PLACES => k_is)
    (case r_MOST_PLACES => exact ⟨_, rfl⟩)
    (case q_SMALL => k_is)
    (case r_SMALL => exact ⟨_, rfl⟩)
    (case z_all => k_is)
    (case z_int => k_is)
    (case z_isinstance => k_is)
    (case z_len => k_is)
    (case z_list => k_is)
    (case z_range => k_is)
    (case z_str => k_is)
    (case z_tuple => k_is)
    (case xa_BadRule => k_is)
    (case xe_BadRule => k_exc)
    (case xk_BadRule => k_is)
    (case xb_BadRule => k_is)
    (case xt_BadRule => k_is)
    (case xa_BadKind => k_is)
    (case xa_NotesError => k_is)
    (case y0 => first | k_is | rfl | decide +kernel)
    (case y1 => first | k_is | rfl | decide +kernel)
    (case y2 => first | k_is | rfl | decide +kernel)
    (case y3_0 => k_is)
    (case y3_1 => k_is)
    (case y3_2 => k_is)
    (case y3_3 => k_is)
    (case y3_4 => k_is)
    (case y3_5 => k_is)
    (case y3_6 => k_is)
    (case y3_7 => k_is)
#print axioms PySem.Challenge.cw_kindnotes_k07_rules_are_made_holds

