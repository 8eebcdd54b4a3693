import PyProof.Rows.All
import Wide.All
import OpenK.AllK
import Wide.FinOn
import HandS.ForMost
import HandS.ForExc
import HandS.TupAny
import HandS.IsInst
import HandS.Deep
import HandS.Flow
import HandS.Style
import HandS.Small
import HandS.SortInts
import HandS.Conv
import HandS.Codes
import KE.KRevSl
import HandS.FStr
import HandS.Defaults
import HandS.ExcIs
import HandS.MakeKwOnly
import HandS.Star
import HandS.Property
import HandS.CallSlots
import HandS.OwnIter
import KE.KOpsOwn
import HandS.IterVal
import KE.KxField
import KE.KExcSuper
import HandS.ExcInit
import HandS.ExcSuper
import HandS.ExcField
import HandS.TryOnly
import HandS.TryMany
import HandS.More
import KE.KEqDict
import HandS.Finally
import PySem.Challenge.RW_kindnotes_k05_least_kind_over_both
set_option Elab.async false
set_option maxRecDepth 100000
namespace Kn
open PySem L2
/-- a def of the text that stands behind the top under its name, and how its arguments bind -/
structure Fz (K : PySem.W.Frag) (mg : Str → Option Value) (x : Str) (st : Stmt) (ps : List Str) : Prop where
  ex : ∃ (f : Addr) (fd : FuncData), Fun K x x st f fd ∧ mg x = some (.ref f) ∧ Binds K fd ps []
/-- a def by its promise -/
structure Fx (P : Program) (w : World) (K : PySem.W.Frag) (mg : Str → Option Value) (base : Heap) (CX : CXT) (x : Str) (k : Nat) (ps : List Str) (sp : Sp) : Prop where
  ex : ∃ (f : Addr) (fd : FuncData), FnOk P w K mg base CX k f fd ps sp ∧ mg x = some (.ref f) ∧ PySem.W.keepIn K (.ref f) = true ∧ Binds K fd ps []
theorem Fx.mono {P : Program} {w : World} {K : PySem.W.Frag} {mg : Str → Option Value} {base : Heap} {CX : CXT} {x : Str} {j k : Nat} {ps : List Str} {sp : Sp} (F : Fx P w K mg base CX x j ps sp) (h : j ≤ k) : Fx P w K mg base CX x k ps sp :=
  let ⟨f, fd, a, b⟩ := F.ex
  ⟨f, fd, a.mono h, b⟩
theorem Fz.ok {P : Program} {w : World} {K : PySem.W.Frag} {mg : Str → Option Value} {base : Heap} {x : Str} {st : Stmt} {ps N : List Str} {k : Nat} {sp : Sp} (F : Fz K mg x st ps) (S : FnScope N ps (defScope st)) (len : ∀ vs H Q E, sp vs H Q E → vs.length = ps.length)
    (hbody : ∀ (f : Addr) (cdv : Value) (A : Around) (outer : List Env) (s : Shared) (H : Hp) (vs : List V) (Q : VK) (E : XK), Room k (A.deeper (PyProof.Rows.envOfC x (defScope st) s.heap.objs.size f cdv)) → sp vs H Q E →
      ∃ t, PSs (cxOf CX0 P w K mg base N x (defScope st) f cdv A outer s H E).nox (defBody st) t ∧ t { nx := fun _ H' => Q .non H', rt := Q } (start N vs) H) : Fx P w K mg base CX0 x (k + 1) ps sp := by
  obtain ⟨f, fd, F1, m, b⟩ := F.ex
  exact ⟨f, fd, F1.ok S len (hbody f), m, F1.kp, b⟩
/-- a promise that nobody asks -/
theorem Fz.none {P : Program} {w : World} {K : PySem.W.Frag} {mg : Str → Option Value} {base : Heap} {CX : CXT} {x : Str} {st : Stmt} {ps : List Str} {k : Nat} {sp : Sp} (F : Fz K mg x st ps) (h : ∀ vs H Q E, ¬ sp vs H Q E) : Fx P w K mg base CX x k ps sp := by
  obtain ⟨f, fd, F1, m, b⟩ := F.ex
  exact ⟨f, fd, ⟨fun vs H Q E z => (h vs H Q E z).elim, fun A outer s H args us vs Q E _ _ _ _ z => (h vs H Q E z).elim⟩, m, F1.kp, b⟩
section
variable {X : Cx} {k : Nat} {ps : List Str} {sp : Sp} {E : XK} {x : Str} {p pos : Pos} {e : Expr} {es : List Expr} {t : TA} {CX : CXT}
/-- f(e, ..) of such a def, that raises nothing -/
theorem fcall (F : Fx X.prog X.w X.K X.mg X.base CX0 x k ps sp) (hr : Room k X.A) (hg : Gl X x) (ha : PA X (e :: es) t)
    (hdb : (x == ("__debug__" : Str)) = false := by decide) (he : starEach (e :: es) X.env = (false, eval e X.env) :: starEach es X.env := by rfl) (hpl : (backTo pos (starEach es X.env)).any (·.1) = false := by rfl) :
    PE X (.Call (.Name x p) (e :: es) [] pos) (tCall sp [] E0 t) := by
  obtain ⟨f, fd, F1, m, kp, b⟩ := F.ex
  exact pe_call F1 hr hg m kp b .nil pass0 ha hdb he hpl
/-- a module's constant -/
theorem pglob {v : V} (hg : Gl X x) (h : ∃ u, X.mg x = some u ∧ RelV v u) (hd : (x == ("__debug__" : Str)) = false := by decide) : PE X (.Name x pos) (tC v) := by
  obtain ⟨u, hm, r⟩ := h
  exact pe_glob hg hm r hd
end
/-! ### the tape -/
/-- at t a list of ints -/
def Tape (H : Hp) (t : Addr) : Prop := ∃ ns : List Int, H t = some (.lst (ns.map V.int))
/-- behind a draw from the tape at t: the tape is a tape, all else that stood stands -/
structure Dr (t : Addr) (H H' : Hp) : Prop where
  tape : Tape H' t
  keep : ∀ b o, H b = some o → b ≠ t → H' b = some o
theorem Dr.trans {t : Addr} {H H1 H2 : Hp} (a : Dr t H H1) (b : Dr t H1 H2) : Dr t H H2 := ⟨b.tape, fun c o h n => b.keep c o (a.keep c o h n) n⟩
theorem Dr.refl {t : Addr} {H : Hp} (a : Tape H t) : Dr t H H := ⟨a, fun _ _ h _ => h⟩
theorem Tape.ne {H : Hp} {t b : Addr} (h : Tape H t) (hb : H b = none) : t ≠ b := by
  obtain ⟨ns, h⟩ := h
  exact ne_of_none h hb
/-- a new object beside the tape -/
theorem Dr.new {t : Addr} {H : Hp} {p : Addr} {o : HO} (a : Tape H t) (hp : H p = none) : Dr t H (upd H p o) := by
  have n := a.ne hp
  refine ⟨?_, fun b u h nb => ?_⟩
  · obtain ⟨ns, h⟩ := a
    exact ⟨ns, by rw [upd_ne n]; exact h⟩
  · rw [upd_ne (ne_of_none h hp)]
    exact h
theorem Dr.put {t : Addr} {H : Hp} (ns : List Int) : Dr t H (upd H t (.lst (ns.map V.int))) := ⟨⟨ns, upd_same⟩, fun b o h n => by rw [upd_ne n]; exact h⟩
/-- a change at an address that did not stand at the entry -/
theorem Dr.upd {t : Addr} {H H1 : Hp} {l : Addr} {o : HO} (d : Dr t H H1) (n : t ≠ l) (hl : H l = none) : Dr t H (upd H1 l o) := by
  refine ⟨?_, fun b u h nb => ?_⟩
  · obtain ⟨ns, h⟩ := d.tape
    exact ⟨ns, by rw [upd_ne n]; exact h⟩
  · rw [upd_ne (ne_of_none h hl)]
    exact d.keep b u h nb
def spTake : Sp := fun vs H Q _ => ∃ (t : Addr) (m : Int), vs = [.ref t, .int m] ∧ Tape H t ∧ 0 < m ∧ ∀ (r : Int) (H' : Hp), 0 ≤ r → r < m → Dr t H H' → Q (.int r) H'
/-! ### the rules with the written part by name -/
section
variable {X : Cx}
theorem ix_listK (K : PySem.W.Frag) (h : X.K = K := by rfl) : IxR X (rIxL K) := by subst h; exact ix_list
theorem ix_tupK (K : PySem.W.Frag) (h : X.K = K := by rfl) : IxR X (rIxT K) := by subst h; exact ix_tup
theorem ix_seqK (K : PySem.W.Frag) (h : X.K = K := by rfl) : IxR X (rIx K) := by subst h; exact ix_seq
theorem sl_listK (K : PySem.W.Frag) (h : X.K = K := by rfl) : SlR X (rSlL K) := by subst h; exact sl_list
theorem sl_tupAK (K : PySem.W.Frag) (h : X.K = K := by rfl) : SlR X (rSlA K) := by subst h; exact sl_tupA
theorem op_in_seqK (K : PySem.W.Frag) (h : X.K = K := by rfl) : OpR X (compareOp .In) (rIn K false) := by subst h; exact op_in_seq
theorem op_notIn_seqK (K : PySem.W.Frag) (h : X.K = K := by rfl) : OpR X (compareOp .NotIn) (rIn K true) := by subst h; exact op_notIn_seq
theorem op_catAK (K : PySem.W.Frag) (h : X.K = K := by rfl) : OpR X (binaryOp .Add) (rCatA K) := by subst h; exact op_catA
theorem cr_sortedK (K : PySem.W.Frag) (h : X.K = K := by rfl) : CallR X (.builtin "sorted") (rSorted K) := by subst h; exact cr_sorted
theorem call_isi1K (K : PySem.W.Frag) (h : X.K = K := by rfl) : CallR X (.builtin "isinstance") (rIsi K) := by subst h; exact call_isi
theorem call_isiTK (K : PySem.W.Frag) (h : X.K = K := by rfl) : CallR X (.builtin "isinstance") (rIsiT K) := by subst h; exact call_isiT
theorem op_eqDK (K : PySem.W.Frag) (hu : X.A.units + 64 < cLine) (h : X.K = K := by rfl) : OpR X (compareOp .Eq) (rEqD K) := by subst h; exact op_eqD hu
theorem op_neDK (K : PySem.W.Frag) (hu : X.A.units + 64 < cLine) (h : X.K = K := by rfl) : OpR X (compareOp .NotEq) (rNeD K) := by subst h; exact op_neD hu
theorem op_inDK (K : PySem.W.Frag) (hu : X.A.units + 65 < cLine) (h : X.K = K := by rfl) : OpR X (compareOp .In) (rInD K) := by subst h; exact op_inD hu
theorem op_notInDK (K : PySem.W.Frag) (hu : X.A.units + 65 < cLine) (h : X.K = K := by rfl) : OpR X (compareOp .NotIn) (rNotInD K) := by subst h; exact op_notInD hu
theorem mt_indexDK (K : PySem.W.Frag) (hu : X.A.units + 65 < cLine) (h : X.K = K := by rfl) : MtR X "list.index" (rIndexD K) := by subst h; exact mt_indexD hu
theorem cr_sumK (K : PySem.W.Frag) (hu : X.calm = true) (h : X.K = K := by rfl) : CallR X (.builtin "sum") (rSum K) := by subst h; exact cr_sum hu
theorem cr_allK (K : PySem.W.Frag) (hu : X.calm = true) (h : X.K = K := by rfl) : CallR X (.builtin "all") (rAll K) := by subst h; exact cr_all hu
theorem cr_anyK (K : PySem.W.Frag) (hu : X.calm = true) (h : X.K = K := by rfl) : CallR X (.builtin "any") (rAny K) := by subst h; exact cr_any hu
theorem cr_minK (K : PySem.W.Frag) (hu : X.calm = true) (h : X.K = K := by rfl) : CallR X (.builtin "min") (rMin K) := by subst h; exact cr_min hu
theorem cr_maxK (K : PySem.W.Frag) (hu : X.calm = true) (h : X.K = K := by rfl) : CallR X (.builtin "max") (rMax K) := by subst h; exact cr_max hu
def rLenSq (K : PySem.W.Frag) : List V → Hp → VK → Prop := fun xs H Q => ∃ p ys, xs = [.ref p] ∧ (SqL K H p ys ∨ SqT K H p ys) ∧ Q (.int ys.length) H
theorem call_len_seqK (K : PySem.W.Frag) (h : X.K = K := by rfl) : CallR X (.builtin "len") (rLenSq K) := by subst h; exact call_len_seq
def rTupleOf (K : PySem.W.Frag) : List V → Hp → VK → Prop := fun xs H Q => ∃ p ys, xs = [.ref p] ∧ ((SqL K H p ys ∧ ∀ l, H l = none → Q (.ref l) (upd H l (.tup ys))) ∨ (SqT K H p ys ∧ Q (.ref p) H))
theorem call_tuple_ofK (K : PySem.W.Frag) (h : X.K = K := by rfl) : CallR X (.type "tuple") (rTupleOf K) := by subst h; exact call_tuple_of
def rListOf (K : PySem.W.Frag) : List V → Hp → VK → Prop := fun xs H Q => ∃ p ys, xs = [.ref p] ∧ (SqL K H p ys ∨ SqT K H p ys) ∧ ∀ l, H l = none → Q (.ref l) (upd H l (.lst ys))
theorem call_list_ofK (K : PySem.W.Frag) (h : X.K = K := by rfl) : CallR X (.type "list") (rListOf K) := by subst h; exact call_list_of
def rJoin (K : PySem.W.Frag) : V → List V → Hp → VK → Prop := fun x xs H Q => ∃ a p, ∃ ys : List Str, x = .str a ∧ xs = [.ref p] ∧ (SqL K H p (ys.map V.str) ∨ SqT K H p (ys.map V.str)) ∧ (ys.map (·.length)).sum + ys.length * a.length ≤ 16777216 ∧ Q (.str (Txt.join a ys)) H
theorem mt_joinK (K : PySem.W.Frag) (h : X.K = K := by rfl) : MtR X "str.join" (rJoin K) := by subst h; exact mt_join
variable {T : String} {name : Str} {id : String} {r : V → List V → Hp → VK → Prop} {o e : Expr} {es : List Expr} {to : TE} {t : TA} {apos cpos : Pos} {tg l : Expr} {tl : TE}
theorem pe_bmK (K : PySem.W.Frag) (pa : PlainAttrs T) (slot : Slot T name id) (hty : typeOf (.builtin id) = pure (.type "method_descriptor")) (hm : MtR X id r) (ho : PE X o to) (ha : PA X (e :: es) t) (h : X.K = K := by rfl)
    (hbase : attributeBase o name X.env (eval o X.env) = eval o X.env := by rfl)
    (hfew : ((backTo cpos (starEach (e :: es) X.env)).all (fun x => !x.1) && (backToKw cpos (keywordEach [] X.env)).all (fun x => x.1.isSome)
      && decide ((e :: es).length + ([] : List Keyword).length + (if ([] : List Keyword).isEmpty then 0 else 1) < 30)) = true := by rfl)
    (hline : (apos.endLine == cpos.line) = true := by rfl) (hs : starEach (e :: es) X.env = (false, eval e X.env) :: starEach es X.env := by rfl) (hplain : (backTo cpos (starEach es X.env)).any (·.1) = false := by rfl) :
    PE X (.Call (.Attribute o name apos) (e :: es) [] cpos) (tBM K T r to t) := by subst h; exact pe_bm pa slot hty hm ho ha hbase hfew hline hs hplain
theorem pe_bm0K (K : PySem.W.Frag) (pa : PlainAttrs T) (slot : Slot T name id) (hty : typeOf (.builtin id) = pure (.type "method_descriptor")) (hm : MtR X id r) (ho : PE X o to) (h : X.K = K := by rfl)
    (hbase : attributeBase o name X.env (eval o X.env) = eval o X.env := by rfl) (hline : (apos.endLine == cpos.line) = true := by rfl) : PE X (.Call (.Attribute o name apos) [] [] cpos) (tBM0 K T r to) := by subst h; exact pe_bm0 pa slot hty hm ho hbase hline
theorem pi_listK (K : PySem.W.Frag) (hl : PE X l tl) (h : X.K = K := by rfl) : PI X tg l (iList K tl) := by subst h; exact pi_list hl
theorem pi_tupK (K : PySem.W.Frag) (hl : PE X l tl) (h : X.K = K := by rfl) : PI X tg l (iTup K tl) := by subst h; exact pi_tup hl
end
end Kn

set_option Elab.async false
set_option maxRecDepth 100000
set_option linter.all false
namespace L2
open PySem
/-! ### data under a change of the heap -/
theorem Rd.same {H H' : Hp} {a : Addr} {u : HO} (e : Same H H') (h : Rd H a u) : Rd H' a u := by
  rcases h with h | ⟨o, h⟩
  · exact .inl (e _ _ h)
  · exact .inr ⟨o, e _ _ h⟩
theorem SqT.same {K : PySem.W.Frag} {H H' : Hp} {a : Addr} {xs : List V} (e : Same H H') (h : SqT K H a xs) : SqT K H' a xs := by
  rcases h with h | h
  · exact .inl (Rd.same e h)
  · exact .inr h
mutual
theorem Dp.same {K : PySem.W.Frag} {H H' : Hp} (e : Same H H') : ∀ (d : PyData) {v : V}, Dp K H v d → Dp K H' v d
  | .none, _, .non => .non
  | .bool b, _, .bl _ => .bl b
  | .int i, _, .int _ => .int i
  | .str x, _, .str _ => .str x
  | .list ds, _, .lst h a => .lst (Same.seq e h) (DpAll.same e ds a)
  | .tuple ds, _, .tup h a => .tup (SqT.same e h) (DpAll.same e ds a)
theorem DpAll.same {K : PySem.W.Frag} {H H' : Hp} (e : Same H H') : ∀ (ds : List PyData) {vs : List V}, DpAll K H vs ds → DpAll K H' vs ds
  | [], _, .nil => .nil
  | d :: ds, _, .cons h a => .cons (Dp.same e d h) (DpAll.same e ds a)
end
mutual
/-- no list in it -/
def nl : PyData → Bool
  | .list _ => false
  | .dict _ => false
  | .tuple ds => nlAll ds
  | _ => true
def nlAll : List PyData → Bool
  | [] => true
  | d :: ds => nl d && nlAll ds
end
/-- all tuples stay -/
def Tups (H H' : Hp) : Prop := ∀ b xs, Rd H b (.tup xs) → Rd H' b (.tup xs)
theorem Same.tups {H H' : Hp} (e : Same H H') : Tups H H' := fun _ _ h => Rd.same e h
theorem Tups.trans {H H1 H2 : Hp} (a : Tups H H1) (b : Tups H1 H2) : Tups H H2 := fun c xs h => b c xs (a c xs h)
theorem Tups.refl (H : Hp) : Tups H H := fun _ _ h => h
/-- all but one list stay -/
theorem tups_of {H H' : Hp} {t : Addr} {ys : List V} (ht : H t = some (.lst ys)) (k : ∀ b o, H b = some o → b ≠ t → H' b = some o) : Tups H H' := fun b xs h => by
  rcases h with h | ⟨o, h⟩
  · exact .inl (k _ _ h (ne_of h ht (by intro z; cases z)))
  · exact .inr ⟨o, k _ _ h (ne_of h ht (by intro z; cases z))⟩
theorem tups_upd {H : Hp} {t : Addr} {ys : List V} {o : HO} (ht : H t = some (.lst ys)) : Tups H (upd H t o) := tups_of ht fun b u h n => by rw [upd_ne n]; exact h
theorem same_new {H : Hp} {t : Addr} {o : HO} (ht : H t = none) : Same H (upd H t o) := fun b u h => by rw [upd_ne (ne_of_none h ht)]; exact h
theorem tups_new {H : Hp} {t : Addr} {o : HO} (ht : H t = none) : Tups H (upd H t o) := Same.tups fun b u h => by rw [upd_ne (ne_of_none h ht)]; exact h
mutual
theorem Dp.tups {K : PySem.W.Frag} {H H' : Hp} (e : Tups H H') : ∀ (d : PyData) {v : V}, nl d = true → Dp K H v d → Dp K H' v d
  | .none, _, _, .non => .non
  | .bool b, _, _, .bl _ => .bl b
  | .int i, _, _, .int _ => .int i
  | .str x, _, _, .str _ => .str x
  | .list _, _, n, _ => by simp [nl] at n
  | .dict _, _, n, _ => by simp [nl] at n
  | .tuple ds, _, n, .tup h a => by
    rw [nl] at n
    refine .tup ?_ (DpAll.tups e ds n a)
    rcases h with h | h
    · exact .inl (e _ _ h)
    · exact .inr h
theorem DpAll.tups {K : PySem.W.Frag} {H H' : Hp} (e : Tups H H') : ∀ (ds : List PyData) {vs : List V}, nlAll ds = true → DpAll K H vs ds → DpAll K H' vs ds
  | [], _, _, .nil => .nil
  | d :: ds, _, n, .cons h a => by
    rw [nlAll, Bool.and_eq_true] at n
    exact .cons (Dp.tups e d n.1 h) (DpAll.tups e ds n.2 a)
end
theorem nlAll_mem : ∀ {ds : List PyData}, (∀ d ∈ ds, nl d = true) → nlAll ds = true
  | [], _ => by rw [nlAll]
  | d :: ds, h => by rw [nlAll, h d (by simp), nlAll_mem fun e he => h e (by simp [he])]; rfl
theorem DpAll.len {K : PySem.W.Frag} {H : Hp} : ∀ {vs : List V} {ds : List PyData}, DpAll K H vs ds → vs.length = ds.length
  | _, _, .nil => rfl
  | _, _, .cons _ a => by simp [DpAll.len a]
theorem DpAll.get {K : PySem.W.Frag} {H : Hp} : ∀ {vs : List V} {ds : List PyData} {i : Nat} {v : V}, DpAll K H vs ds → vs[i]? = some v → ∃ d, ds[i]? = some d ∧ Dp K H v d
  | _, _, _, _, .nil, e => by simp at e
  | _, _, 0, _, .cons h _, e => by simp at e; subst e; exact ⟨_, rfl, h⟩
  | _, _, i + 1, v, .cons _ a, e => by
    obtain ⟨d, h1, h2⟩ := DpAll.get (i := i) (v := v) a (by simpa using e)
    exact ⟨d, by simpa using h1, h2⟩
theorem DpAll.of_get {K : PySem.W.Frag} {H : Hp} {vs : List V} {ds : List PyData} {i : Nat} {d : PyData} (a : DpAll K H vs ds) (e : ds[i]? = some d) : ∃ v, vs[i]? = some v ∧ Dp K H v d := by
  have hi : i < vs.length := by rw [a.len]; exact (List.getElem?_eq_some_iff.mp e).1
  obtain ⟨d', h1, h2⟩ := a.get (List.getElem?_eq_getElem hi)
  rw [e] at h1; cases h1
  exact ⟨_, List.getElem?_eq_getElem hi, h2⟩
theorem DpAll.snoc {K : PySem.W.Frag} {H : Hp} : ∀ {vs : List V} {ds : List PyData} {v : V} {d : PyData}, DpAll K H vs ds → Dp K H v d → DpAll K H (vs ++ [v]) (ds ++ [d])
  | _, _, _, _, .nil, h => .cons h .nil
  | _, _, _, _, .cons g a, h => .cons g (DpAll.snoc a h)
theorem DpAll.app {K : PySem.W.Frag} {H : Hp} : ∀ {vs ws : List V} {ds es : List PyData}, DpAll K H vs ds → DpAll K H ws es → DpAll K H (vs ++ ws) (ds ++ es)
  | _, _, _, _, .nil, h => h
  | _, _, _, _, .cons g a, h => .cons g (DpAll.app a h)
theorem DpAll.ints {K : PySem.W.Frag} {H : Hp} : ∀ (ns : List Int), DpAll K H (ns.map V.int) (ns.map PyData.int)
  | [] => .nil
  | n :: ns => .cons (.int n) (DpAll.ints ns)
theorem DpAll.ints_inv {K : PySem.W.Frag} {H : Hp} : ∀ {ns : List Int} {vs : List V}, DpAll K H vs (ns.map PyData.int) → vs = ns.map V.int
  | [], _, .nil => rfl
  | n :: ns, _, .cons (.int _) a => by rw [DpAll.ints_inv a]; rfl
theorem DpAll.strs {K : PySem.W.Frag} {H : Hp} : ∀ (ns : List Str), DpAll K H (ns.map V.str) (ns.map PyData.str)
  | [] => .nil
  | n :: ns => .cons (.str n) (DpAll.strs ns)
theorem DpAll.strs_inv {K : PySem.W.Frag} {H : Hp} : ∀ {ns : List Str} {vs : List V}, DpAll K H vs (ns.map PyData.str) → vs = ns.map V.str
  | [], _, .nil => rfl
  | n :: ns, _, .cons (.str _) a => by rw [DpAll.strs_inv a]; rfl
theorem Dp.tup_inv {K : PySem.W.Frag} {H : Hp} {v : V} {ds : List PyData} (h : Dp K H v (.tuple ds)) : ∃ a xs, v = .ref a ∧ SqT K H a xs ∧ DpAll K H xs ds := by
  cases h with
  | tup h a => exact ⟨_, _, rfl, h, a⟩
theorem Dp.lst_inv {K : PySem.W.Frag} {H : Hp} {v : V} {ds : List PyData} (h : Dp K H v (.list ds)) : ∃ a xs, v = .ref a ∧ SqL K H a xs ∧ DpAll K H xs ds := by
  cases h with
  | lst h a => exact ⟨_, _, rfl, h, a⟩
theorem inV_ints (n : Int) : ∀ (gs : List Int), inV (.int n) (gs.map V.int) = gs.contains n
  | [] => rfl
  | g :: gs => by
    have ih := inV_ints n gs
    unfold inV at *
    rw [List.map_cons, List.any_cons, ih, List.contains_cons]
    show ((g == n) || _) = ((n == g) || _)
    rw [Bool.beq_comm]
theorem flat_ints (gs : List Int) : (gs.map V.int).all flatV = true := by simp [flatV]
theorem DpAll.take {K : PySem.W.Frag} {H : Hp} : ∀ (n : Nat) {vs : List V} {ds : List PyData}, DpAll K H vs ds → DpAll K H (vs.take n) (ds.take n)
  | 0, _, _, _ => by simp; exact .nil
  | _ + 1, _, _, .nil => .nil
  | n + 1, _, _, .cons h a => .cons h (DpAll.take n a)
theorem DpAll.drop {K : PySem.W.Frag} {H : Hp} : ∀ (n : Nat) {vs : List V} {ds : List PyData}, DpAll K H vs ds → DpAll K H (vs.drop n) (ds.drop n)
  | 0, _, _, a => a
  | _ + 1, _, _, .nil => .nil
  | n + 1, _, _, .cons _ a => DpAll.drop n a
end L2
namespace Kn
open PySem L2
theorem Dr.tups {t : Addr} {H H' : Hp} (h : Tape H t) (d : Dr t H H') : Tups H H' := by
  obtain ⟨ns, h⟩ := h
  exact tups_of h d.keep
/-- the type of data -/
def tyD : PyData → String
  | .none => "NoneType"
  | .bool _ => "bool"
  | .int _ => "int"
  | .str _ => "str"
  | .list _ => "list"
  | .tuple _ => "tuple"
  | .dict _ => "dict"
theorem Dp.ty {K : PySem.W.Frag} {H : Hp} : ∀ {v : V} {d : PyData}, Dp K H v d → TyX K H v (.type (tyD d))
  | _, _, .non => .base .non
  | _, _, .bl b => .base (.bl b)
  | _, _, .int i => .base (.int i)
  | _, _, .str x => .base (.str x)
  | _, _, .lst h _ => by
    rcases h with (h | ⟨o, h⟩) | ⟨o, its, n, h, c, _⟩
    · exact .base (.lst h)
    · exact .base (.frz h)
    · exact .kList h c
  | _, _, .tup h _ => by
    rcases h with (h | ⟨o, h⟩) | ⟨o, its, n, h, c, _⟩
    · exact .base (.tup h)
    · exact .fTuple h
    · exact .kTuple h c
theorem seqIdx_nat {r : Int} {n : Nat} (h0 : 0 ≤ r) (h : r.toNat < n) : seqIndex? r n = some r.toNat := by
  have h1 : ¬ r < 0 := by omega
  have h2 : r < n := by omega
  simp [seqIndex?, h1, h0, h2]
theorem map_eraseIdx' {α β : Type} (f : α → β) : ∀ (l : List α) (i : Nat), (l.map f).eraseIdx i = (l.eraseIdx i).map f
  | [], _ => rfl
  | _ :: _, 0 => rfl
  | a :: l, i + 1 => by
    show f a :: (l.map f).eraseIdx i = f a :: (l.eraseIdx i).map f
    rw [map_eraseIdx' f l i]
theorem sIx_nat {n d i : Nat} {z : Int} (e : z = (i : Int)) (h : i ≤ n) : HT.sIx n d (some z) = i := by
  subst e
  rw [show HT.sIx n d (some (i : Int)) = (if (i : Int) < 0 then ((i : Int) + (n : Int)).toNat else min (i : Int).toNat n) from rfl, if_neg (by omega)]
  omega
theorem cut_take {xs : List V} {i : Nat} {z : Int} (e : z = (i : Int)) (h : i ≤ xs.length) : cutV xs none (some z) = xs.take i := by
  unfold cutV
  rw [sIx_nat e h, show HT.sIx xs.length 0 none = 0 from rfl]
  simp
theorem cut_drop {xs : List V} {i : Nat} {z : Int} (e : z = (i : Int)) (h : i ≤ xs.length) : cutV xs (some z) none = xs.drop i := by
  unfold cutV
  rw [sIx_nat e h, show HT.sIx xs.length xs.length none = xs.length from rfl]
  rw [List.take_of_length_le (by simp)]
theorem vstr_eq {a b : Str} (h : decide (V.str a = V.str b) = true) : a = b := by
  have := of_decide_eq_true h
  injection this
theorem vstr_ne {a b : Str} (h : ¬ decide (V.str a = V.str b) = true) : ¬ a = b := fun e => h (by rw [e]; exact decide_eq_true rfl)
/-- the heap without some addresses (those that will be changed) -/
def Hid (A : List Addr) (H : Hp) : Hp := fun b => if b ∈ A then none else H b
theorem Hid.get {A : List Addr} {H : Hp} {b : Addr} {o : HO} (h : H b = some o) (n : b ∉ A) : Hid A H b = some o := by unfold Hid; rw [if_neg n]; exact h
theorem Hid.of {A : List Addr} {H : Hp} {b : Addr} {o : HO} (h : Hid A H b = some o) : H b = some o ∧ b ∉ A := by
  unfold Hid at h
  by_cases c : b ∈ A
  · rw [if_pos c] at h; cases h
  · rw [if_neg c] at h; exact ⟨h, c⟩
theorem Hid.sub {A : List Addr} {H : Hp} : Same (Hid A H) H := fun b o h => (Hid.of h).1
theorem Hid.keep {A : List Addr} {H H' : Hp} (k : ∀ b o, H b = some o → b ∉ A → H' b = some o) : Same (Hid A H) (Hid A H') := fun b o h => Hid.get (k b o (Hid.of h).1 (Hid.of h).2) (Hid.of h).2
theorem Hid.same {A : List Addr} {H H' : Hp} (e : Same H H') : Same (Hid A H) (Hid A H') := Hid.keep fun b o h _ => e b o h
theorem Hid.upd {A : List Addr} {H : Hp} {a : Addr} {o : HO} (ha : a ∈ A) : Same (Hid A H) (Hid A (upd H a o)) := Hid.keep fun b u h n => by
  have nb : b ≠ a := fun z => n (by rw [z]; exact ha)
  rw [upd_ne nb]; exact h
/-- behind a new object, the heap by a name -/
theorem gen_new {H Ha : Hp} {p : Addr} {o : HO} (e : L2.upd H p o = Ha) (hp : H p = none) : Same H Ha ∧ Ha p = some o := by subst e; exact ⟨same_new hp, upd_same⟩
theorem itT {b : Bool} {A B : Prop} (hb : b = true) (h : A) : if b = true then A else B := by rw [if_pos hb]; exact h
theorem itF {b : Bool} {A B : Prop} (hb : b = false) (h : B) : if b = true then A else B := by rw [hb]; exact iteF h
theorem yes_ {σ : St} {H : Hp} {A B : Hp → Prop} (h : A H) : tYes σ H fun b H3 => if b = true then A H3 else B H3 := by
  show if true = true then A H else B H
  exact iteT h
/-! ### comprehensions that only read: the list is xs.filterMap f -/
section
variable {K : PySem.W.Frag} {a : Addr} {xs : List V} {g : TG} {tt : TT} {te : TE} {vs : List Nat} {σ : St} {H1 : Hp} {D : Addr} {Qd : Hp → Prop}
theorem filterMap_take {α β : Type} (f : α → Option β) {xs : List α} {i : Nat} {x : α} (h : xs[i]? = some x) : (xs.take (i + 1)).filterMap f = (xs.take i).filterMap f ++ (f x).toList := by
  have hi := (List.getElem?_eq_some_iff.mp h).1
  have hx : xs[i] = x := (List.getElem?_eq_some_iff.mp h).2
  rw [List.take_succ_eq_append_getElem hi, List.filterMap_append, hx]
  cases e : f x with
  | none => simp [e]
  | some y => simp [e]
theorem lc_pureT (f : V → Option V) (hD : H1 D = none) (ha : SqT K H1 a xs) (hz : xs.length < sizeLine)
    (hs : ∀ (i : Nat) x H (R1 : Hp → Prop) (R : V → Hp → Prop), xs[i]? = some x → Same H1 H → (f x = none → R1 H) → (∀ y, f x = some y → R y H) → g x (wipe σ vs) H fun σ2 H2 => wipe σ2 vs = wipe σ vs ∧ tt σ2 H2 fun b H3 => if b = true then te σ2 H3 R else R1 H3)
    (hd : Qd (upd H1 D (.lst (xs.filterMap f)))) :
    ∃ W : Nat → Nat → Hp → Prop, (∃ m, W 0 m (upd H1 D (.lst []))) ∧ ∀ i m H, W i m H →
      ((Itt K a).stop i H ∧ Qd H) ∨ ((Itt K a).go i H ∧ ∃ Nx : Hp → Prop, (∀ H', Nx H' → ∃ m', m' < m ∧ W (i + 1) m' H') ∧ ∀ x H', (Itt K a).yld i H x H' → g x (wipe σ vs) H' fun σ2 H2 => wipe σ2 vs = wipe σ vs ∧ tt σ2 H2 fun b H3 =>
        if b = true then te σ2 H3 fun y H4 => ∃ acc, H4 D = some (.lst acc) ∧ acc.length < sizeLine ∧ Nx (upd H4 D (.lst (acc ++ [y]))) else Nx H3) := by
  have sm : ∀ o, Same H1 (upd H1 D o) := fun o b u e => by rw [upd_ne (ne_of_none e hD)]; exact e
  refine lc_tup (xs := xs) (fun i H => H = upd H1 D (.lst ((xs.take i).filterMap f))) ?_ ?_ ?_ ?_
  · simp
  · rintro i H _ rfl; exact SqT.same (sm _) ha
  · rintro i x H hx rfl
    refine hs i x _ _ _ hx (sm _) (fun e => ?_) fun y e => ?_
    · rw [filterMap_take f hx, e]; simp
    · refine ⟨_, upd_same, ?_, ?_⟩
      · refine Nat.lt_of_le_of_lt (List.length_filterMap_le _ _) ?_
        rw [List.length_take]
        omega
      · rw [filterMap_take f hx, e, upd_upd]; rfl
  · rintro H rfl
    rw [List.take_length]; exact hd
theorem lc_pureL (f : V → Option V) (hD : H1 D = none) (ha : SqL K H1 a xs) (hz : xs.length < sizeLine)
    (hs : ∀ (i : Nat) x H (R1 : Hp → Prop) (R : V → Hp → Prop), xs[i]? = some x → Same H1 H → (f x = none → R1 H) → (∀ y, f x = some y → R y H) → g x (wipe σ vs) H fun σ2 H2 => wipe σ2 vs = wipe σ vs ∧ tt σ2 H2 fun b H3 => if b = true then te σ2 H3 R else R1 H3)
    (hd : Qd (upd H1 D (.lst (xs.filterMap f)))) :
    ∃ W : Nat → Nat → Hp → Prop, (∃ m, W 0 m (upd H1 D (.lst []))) ∧ ∀ i m H, W i m H →
      ((Itl K a).stop i H ∧ Qd H) ∨ ((Itl K a).go i H ∧ ∃ Nx : Hp → Prop, (∀ H', Nx H' → ∃ m', m' < m ∧ W (i + 1) m' H') ∧ ∀ x H', (Itl K a).yld i H x H' → g x (wipe σ vs) H' fun σ2 H2 => wipe σ2 vs = wipe σ vs ∧ tt σ2 H2 fun b H3 =>
        if b = true then te σ2 H3 fun y H4 => ∃ acc, H4 D = some (.lst acc) ∧ acc.length < sizeLine ∧ Nx (upd H4 D (.lst (acc ++ [y]))) else Nx H3) := by
  have sm : ∀ o, Same H1 (upd H1 D o) := fun o b u e => by rw [upd_ne (ne_of_none e hD)]; exact e
  refine lc_list (xs := xs) (fun i H => H = upd H1 D (.lst ((xs.take i).filterMap f))) ?_ ?_ ?_ ?_
  · simp
  · rintro i H _ rfl; exact Same.seq (sm _) ha
  · rintro i x H hx rfl
    refine hs i x _ _ _ hx (sm _) (fun e => ?_) fun y e => ?_
    · rw [filterMap_take f hx, e]; simp
    · refine ⟨_, upd_same, ?_, ?_⟩
      · refine Nat.lt_of_le_of_lt (List.length_filterMap_le _ _) ?_
        rw [List.length_take]
        omega
      · rw [filterMap_take f hx, e, upd_upd]; rfl
  · rintro H rfl
    rw [List.take_length]; exact hd
/-- .. the list after i turns is acc i -/
theorem lc_accT (acc : Nat → List V) (hD : H1 D = none) (ha : SqT K H1 a xs) (h0 : acc 0 = []) (hz : ∀ i, i < xs.length → (acc i).length < sizeLine)
    (hs : ∀ (i : Nat) x H (R1 : Hp → Prop) (R : V → Hp → Prop), xs[i]? = some x → Same H1 H → (acc (i + 1) = acc i → R1 H) → (∀ y, acc (i + 1) = acc i ++ [y] → R y H) → g x (wipe σ vs) H fun σ2 H2 => wipe σ2 vs = wipe σ vs ∧ tt σ2 H2 fun b H3 => if b = true then te σ2 H3 R else R1 H3)
    (hd : Qd (upd H1 D (.lst (acc xs.length)))) :
    ∃ W : Nat → Nat → Hp → Prop, (∃ m, W 0 m (upd H1 D (.lst []))) ∧ ∀ i m H, W i m H →
      ((Itt K a).stop i H ∧ Qd H) ∨ ((Itt K a).go i H ∧ ∃ Nx : Hp → Prop, (∀ H', Nx H' → ∃ m', m' < m ∧ W (i + 1) m' H') ∧ ∀ x H', (Itt K a).yld i H x H' → g x (wipe σ vs) H' fun σ2 H2 => wipe σ2 vs = wipe σ vs ∧ tt σ2 H2 fun b H3 =>
        if b = true then te σ2 H3 fun y H4 => ∃ acc, H4 D = some (.lst acc) ∧ acc.length < sizeLine ∧ Nx (upd H4 D (.lst (acc ++ [y]))) else Nx H3) := by
  have sm : ∀ o, Same H1 (upd H1 D o) := fun o b u e => by rw [upd_ne (ne_of_none e hD)]; exact e
  refine lc_tup (xs := xs) (fun i H => H = upd H1 D (.lst (acc i))) ?_ ?_ ?_ ?_
  · rw [h0]
  · rintro i H _ rfl; exact SqT.same (sm _) ha
  · rintro i x H hx rfl
    refine hs i x _ _ _ hx (sm _) (fun e => by rw [e]) fun y e => ?_
    exact ⟨_, upd_same, hz i (List.getElem?_eq_some_iff.mp hx).1, by rw [e, upd_upd]⟩
  · rintro H rfl
    exact hd
theorem lc_accL (acc : Nat → List V) (hD : H1 D = none) (ha : SqL K H1 a xs) (h0 : acc 0 = []) (hz : ∀ i, i < xs.length → (acc i).length < sizeLine)
    (hs : ∀ (i : Nat) x H (R1 : Hp → Prop) (R : V → Hp → Prop), xs[i]? = some x → Same H1 H → (acc (i + 1) = acc i → R1 H) → (∀ y, acc (i + 1) = acc i ++ [y] → R y H) → g x (wipe σ vs) H fun σ2 H2 => wipe σ2 vs = wipe σ vs ∧ tt σ2 H2 fun b H3 => if b = true then te σ2 H3 R else R1 H3)
    (hd : Qd (upd H1 D (.lst (acc xs.length)))) :
    ∃ W : Nat → Nat → Hp → Prop, (∃ m, W 0 m (upd H1 D (.lst []))) ∧ ∀ i m H, W i m H →
      ((Itl K a).stop i H ∧ Qd H) ∨ ((Itl K a).go i H ∧ ∃ Nx : Hp → Prop, (∀ H', Nx H' → ∃ m', m' < m ∧ W (i + 1) m' H') ∧ ∀ x H', (Itl K a).yld i H x H' → g x (wipe σ vs) H' fun σ2 H2 => wipe σ2 vs = wipe σ vs ∧ tt σ2 H2 fun b H3 =>
        if b = true then te σ2 H3 fun y H4 => ∃ acc, H4 D = some (.lst acc) ∧ acc.length < sizeLine ∧ Nx (upd H4 D (.lst (acc ++ [y]))) else Nx H3) := by
  have sm : ∀ o, Same H1 (upd H1 D o) := fun o b u e => by rw [upd_ne (ne_of_none e hD)]; exact e
  refine lc_list (xs := xs) (fun i H => H = upd H1 D (.lst (acc i))) ?_ ?_ ?_ ?_
  · rw [h0]
  · rintro i H _ rfl; exact Same.seq (sm _) ha
  · rintro i x H hx rfl
    refine hs i x _ _ _ hx (sm _) (fun e => by rw [e]) fun y e => ?_
    exact ⟨_, upd_same, hz i (List.getElem?_eq_some_iff.mp hx).1, by rw [e, upd_upd]⟩
  · rintro H rfl
    exact hd
/-- over a range -/
theorem lc_accR {lo : Int} {n : Nat} (acc : Nat → List V) (hD : H1 D = none) (h0 : acc 0 = []) (hz : ∀ i, i < n → (acc i).length < sizeLine)
    (hs : ∀ (i : Nat) H (R1 : Hp → Prop) (R : V → Hp → Prop), i < n → Same H1 H → (acc (i + 1) = acc i → R1 H) → (∀ y, acc (i + 1) = acc i ++ [y] → R y H) → g (.int (lo + i)) (wipe σ vs) H fun σ2 H2 => wipe σ2 vs = wipe σ vs ∧ tt σ2 H2 fun b H3 => if b = true then te σ2 H3 R else R1 H3)
    (hd : Qd (upd H1 D (.lst (acc n)))) :
    ∃ W : Nat → Nat → Hp → Prop, (∃ m, W 0 m (upd H1 D (.lst []))) ∧ ∀ i m H, W i m H →
      ((Itr lo n).stop i H ∧ Qd H) ∨ ((Itr lo n).go i H ∧ ∃ Nx : Hp → Prop, (∀ H', Nx H' → ∃ m', m' < m ∧ W (i + 1) m' H') ∧ ∀ x H', (Itr lo n).yld i H x H' → g x (wipe σ vs) H' fun σ2 H2 => wipe σ2 vs = wipe σ vs ∧ tt σ2 H2 fun b H3 =>
        if b = true then te σ2 H3 fun y H4 => ∃ acc, H4 D = some (.lst acc) ∧ acc.length < sizeLine ∧ Nx (upd H4 D (.lst (acc ++ [y]))) else Nx H3) := by
  have sm : ∀ o, Same H1 (upd H1 D o) := fun o b u e => by rw [upd_ne (ne_of_none e hD)]; exact e
  refine lc_range (fun i H => H = upd H1 D (.lst (acc i))) ?_ ?_ ?_
  · rw [h0]
  · rintro i H hi rfl
    refine hs i _ _ _ hi (sm _) (fun e => by rw [e]) fun y e => ?_
    exact ⟨_, upd_same, hz i hi, by rw [e, upd_upd]⟩
  · rintro H rfl
    exact hd
end
/-! ### data of a bounded depth -/
structure Lay (n : Nat) (d : PyData) : Prop where
  can : d.canLay0 = true
  dep : d.depth ≤ n
theorem Lay.mono {m n : Nat} {d : PyData} (h : Lay m d) (k : m ≤ n) : Lay n d := ⟨h.can, Nat.le_trans h.dep k⟩
theorem Lay.non (n : Nat) : Lay n .none := ⟨by simp [PyData.canLay0], by simp [PyData.depth]⟩
theorem Lay.bl (n : Nat) (b : Bool) : Lay n (.bool b) := ⟨by simp [PyData.canLay0], by simp [PyData.depth]⟩
theorem Lay.int (n : Nat) (i : Int) : Lay n (.int i) := ⟨by simp [PyData.canLay0], by simp [PyData.depth]⟩
theorem Lay.str (n : Nat) {x : Str} (h : PyData.strOk x = true) : Lay n (.str x) := ⟨by simpa [PyData.canLay0] using h, by simp [PyData.depth]⟩
theorem lay_all {n : Nat} : ∀ {ds : List PyData}, (∀ d ∈ ds, Lay n d) → PyData.canLayAll0 ds = true ∧ PyData.depthAll ds ≤ n
  | [], _ => ⟨by simp [PyData.canLayAll0], by simp [PyData.depthAll]⟩
  | d :: ds, h => by
    obtain ⟨h1, h2⟩ := lay_all (ds := ds) fun e he => h e (by simp [he])
    have h3 := h d (by simp)
    refine ⟨by rw [PyData.canLayAll0, h3.can, h1]; rfl, ?_⟩
    rw [PyData.depthAll]
    have := h3.dep
    omega
theorem Lay.tup {n : Nat} {ds : List PyData} (h : ∀ d ∈ ds, Lay n d) : Lay (n + 1) (.tuple ds) := by
  obtain ⟨h1, h2⟩ := lay_all h
  refine ⟨by rw [PyData.canLay0]; exact h1, ?_⟩
  rw [PyData.depth]; omega
theorem Lay.lst {n : Nat} {ds : List PyData} (h : ∀ d ∈ ds, Lay n d) : Lay (n + 1) (.list ds) := by
  obtain ⟨h1, h2⟩ := lay_all h
  refine ⟨by rw [PyData.canLay0]; exact h1, ?_⟩
  rw [PyData.depth]; omega
theorem Lay.shaped {n : Nat} {d : PyData} (h : Lay n d) (k : n ≤ 64 := by decide) : SeqAt.shaped d = true := by
  have := h.dep
  unfold SeqAt.shaped
  rw [h.can, decide_eq_true (show d.depth ≤ 64 by omega)]; rfl
theorem Lay.ints (n : Nat) (l : List Int) : ∀ d ∈ l.map PyData.int, Lay n d := fun d hd => by
  obtain ⟨i, _, rfl⟩ := List.mem_map.mp hd
  exact .int n i
/-! ### equality of data -/
mutual
theorem eqv_refl : ∀ (d : PyData), nl d = true → PyData.eqv d d = true
  | .none, _ => by simp [PyData.eqv]
  | .bool _, _ => by simp [PyData.eqv]
  | .int _, _ => by simp [PyData.eqv]
  | .str _, _ => by simp [PyData.eqv]
  | .list _, n => by simp [nl] at n
  | .dict _, n => by simp [nl] at n
  | .tuple ds, n => by
    rw [nl] at n
    rw [PyData.eqv]
    exact eqvAll_refl ds n
theorem eqvAll_refl : ∀ (ds : List PyData), nlAll ds = true → PyData.eqvAll ds ds = true
  | [], _ => by simp [PyData.eqvAll]
  | d :: ds, n => by
    rw [nlAll, Bool.and_eq_true] at n
    rw [PyData.eqvAll, eqv_refl d n.1, eqvAll_refl ds n.2]; rfl
end
end Kn

set_option Elab.async false
set_option maxRecDepth 100000
set_option linter.all false
namespace Kn
open PySem L2
section
open PySem.Spec PyProof.Rows
variable {prog : Program} {w : World} {A : Around} {E : Value → Shared → Prop} {s : Shared}
theorem sliceApplied_rev {sl : Addr} {vk : Value} {n : Nat} {Q : Int × Int × Nat → Shared → Prop} (hs : s.heap.IsSliceOf sl .none .none vk) (pk : IsPart vk (some (-1)))
    (h : Q ((n : Int) - 1, -1, n) s) : wpAny (model prog w) A (Builtin.Slice.sliceApplied (.ref sl) (pure (n : Int))) Q E s := by
  obtain ⟨os, hos, hcs, hds⟩ := id hs
  unfold Builtin.Slice.sliceApplied Builtin.Slice.sliceFields
  refine wpAny_bind (wpAny_bind (wpAny_field hos hds (x := .none) rfl (wpAny_bind (wpAny_field hos hds (x := .none) rfl (wpAny_bind (wpAny_field hos hds (x := vk) rfl (wpAny_pure ?_)))))))
  refine wpAny_bind (HT.slicePart_ pk ?_)
  show wpAny _ _ (if ((-1 : Int) == 0) = true then _ else _) _ _ s
  rw [if_neg (by decide)]
  refine wpAny_bind (HT.slicePart_ .none (wpAny_bind (HT.slicePart_ .none (wpAny_bind (wpAny_pure ?_)))))
  show wpAny _ _ (pure ((n : Int) - 1, (-1 : Int), Builtin.Slice.slicePlaces ((n : Int) - 1) (-1) (-1))) _ _ s
  have e : Builtin.Slice.slicePlaces ((n : Int) - 1) (-1) (-1) = n := by
    unfold Builtin.Slice.slicePlaces
    have h1 : ¬ ((-1 : Int) > 0) := by omega
    rw [if_neg h1]
    split
    · rw [show -(-1 : Int) = 1 from rfl, Int.ediv_one]; omega
    · omega
  rw [e]
  exact wpAny_pure h
theorem pick_rev (xs : Array Value) : ((List.range xs.size).filterMap fun (m : Nat) => xs[(((xs.size : Int) - 1) + (m : Int) * (-1)).toNat]?).toArray = xs.toList.reverse.toArray := by
  have e : (fun (m : Nat) => xs[(((xs.size : Int) - 1) + (m : Int) * (-1)).toNat]?) = (fun m => xs[m]?) ∘ (fun m => xs.size - 1 - m) := by
    funext m
    have : (((xs.size : Int) - 1) + (m : Int) * (-1)).toNat = xs.size - 1 - m := by omega
    rw [this]; rfl
  rw [e, ← List.filterMap_map, PySem.W.krv_range, List.filterMap_reverse, PySem.W.krv_all]
theorem getItem_tuple_rev {t sl : Addr} {items : Array Value} {vk : Value} {Q : Value → Shared → Prop} (ht : IsTup s.heap t items) (hs : s.heap.IsSliceOf sl .none .none vk) (pk : IsPart vk (some (-1)))
    (h : Q (.ref s.heap.objs.size) { s with heap := s.heap.push { cls := .type "tuple", data := .seq items.toList.reverse.toArray } })
    (hsz : items.size ≤ sizeLine) : wpAny (model prog w) A (getItem (.ref t) (.ref sl)) Q E s := by
  have htake : sizeOk (.seq items.toList.reverse.toArray) := by
    show items.toList.reverse.toArray.size ≤ sizeLine
    rw [List.size_toArray, List.length_reverse, Array.length_toList]
    exact hsz
  obtain ⟨os, hos, hcs, hds⟩ := id hs
  have hTs : s.TypeIs (.ref sl) "slice" := ⟨os, hos, hcs⟩
  unfold getItem
  try with_reducible refine wpAny_holding ?_
  first | refine wpAny_bind (wpAny_pure ?_) | skip
  refine wpAny_bind (wpAny_sequenceKey ht.typeIs (by decide) ?_)
  refine wpAny_bind (wpAny_callSpecial?_slot (name := Str.ofString "__getitem__") ht.typeIs PyProof.Rows.slot_tuple_getitem
    (wpAny_call_entry PyProof.Rows.slot_tuple_getitem ht.typeIs entry_tuple_getitem ?_ (args_tuple_getitem _ _)))
  show wpAny _ _ (Builtin.Tuple.tupleItemsOf (.ref t) >>= _) _ _ s
  refine wpAny_bind (tupleItemsOf_ ht ?_)
  refine wpAny_bind (wpAny_typeOf hTs ?_)
  rw [if_pos (by decide)]
  refine wpAny_bind (sliceApplied_rev hs pk ?_)
  have hno : ¬ ((((items.size : Int) - 1) == 0 && (-1 : Int) == 1 && items.size == items.size) = true) := by simp
  show wpAny _ _ (if ((((items.size : Int) - 1) == 0 && (-1 : Int) == 1 && items.size == items.size) = true) then _ else _) _ _ s
  rw [if_neg hno, pick_rev]
  first
    | exact wpAny_bind (m := Builtin.Tuple.tupleExact _) (wpAny_newObj_type (wpAny_pure ⟨_, rfl, wpAny_pure h⟩) htake)
    | exact wpAny_bind (m := Builtin.Tuple.tupleExact _) (wpAny_newObj_type (wpAny_bind (wpAny_pure (wpAny_pure ⟨_, rfl, wpAny_pure h⟩))) htake)
    | exact wpAny_bind (wpAny_bind (m := Builtin.Tuple.tupleExact _) (wpAny_newObj_type (wpAny_pure (wpAny_pure ⟨_, rfl, wpAny_pure h⟩)) htake))
    | exact wpAny_bind (wpAny_bind (m := Builtin.Tuple.tupleExact _) (wpAny_newObj_type (wpAny_pure ⟨_, rfl, wpAny_pure h⟩) htake))
end
theorem vals_reverse : ∀ {xs : List V} {us : List Value}, Vals xs us → Vals xs.reverse us.reverse
  | _, _, .nil => .nil
  | _, _, .cons r t => by
    rw [List.reverse_cons, List.reverse_cons]
    exact Vals.append (vals_reverse t) (.cons r .nil)
section
open PySem.Spec
variable {X : Cx} {e k : Expr} {te : TE} {tk : TO} {pos p2 : Pos}
def tRevT (K : PySem.W.Frag) (te : TE) (tk : TO) : TE := fun σ H Q => te σ H fun x H1 => tk σ H1 fun o H2 => o = some (-1) ∧ ∃ a xs, x = .ref a ∧ SqT K H2 a xs ∧ ∀ p, H2 p = none → Q (.ref p) (upd H2 p (.tup xs.reverse))
/-- t[::-1] of a tuple -/
theorem pe_revT (K : PySem.W.Frag) (he : PE X e te) (hk : PO X (some k) tk) (hK : X.K = K := by rfl) : PE X (.Subscript e (.Slice none none (some k) p2) pos) (tRevT K te tk) := by
  subst hK
  refine ⟨fun pins s σ H Q I h => ?_⟩
  refine PyProof.Rows.Subscript_ (thn (he.run pins s σ H _ I h) fun v s1 ⟨x, H1, I1, r1, q1⟩ => ?_)
  refine wpAny_Slice ?_
  rw [evalPart_none]
  refine wpAny_pure (wpAny_pure (thn (hk.run pins s1 σ H1 _ I1 q1) fun vk s3 ⟨o, H3, I3, pk, q3⟩ => ?_))
  obtain ⟨rfl, a, xs, rfl, hx, q⟩ := q3
  cases r1
  have I4 : Inv X pins σ H3 { s3 with heap := s3.heap.push { cls := .type "slice", data := .fields #[.none, .none, vk] } } := I3.kept (t' := s3.toks) fun b ob q => Heap.get?_push_of_some _ q
  obtain ⟨its, r, ht, hz⟩ := I4.tuple hx
  show wpAny (model X.prog X.w) X.A (PyProof.Rows.subscriptTail e (.Slice none none (some k) p2) (.ref a) (.ref s3.heap.objs.size)) (EP X pins σ Q) X.xe { s3 with heap := s3.heap.push { cls := .type "slice", data := .fields #[.none, .none, vk] } }
  have hlen : its.toArray.size = xs.length := by rw [List.size_toArray]; exact r.length.symm
  refine PyProof.Rows.tail_any (ops := [.ref a, .ref s3.heap.objs.size]) ht.typeIs PyProof.Rows.slot_tuple_getitem.lookup (getItem_tuple_rev ht (Heap.IsSliceOf.new ..) pk ?_ (by rw [hlen]; exact hz)) (by with_unfolding_all rfl)
  refine ⟨.ref _, _, I4.laid (t' := s3.toks) (o := .tup xs.reverse) (fun b ob q => Heap.get?_push_of_some _ q) (Nat.le_refl _) ?_, rfl, q _ (I4.hok.fresh (Nat.le_refl _))⟩
  exact ⟨by rw [List.length_reverse]; exact hz, _, vals_reverse r, PyProof.Rows.IsTup.new _ _⟩
def tRevL (K : PySem.W.Frag) (te : TE) (tk : TO) : TE := fun σ H Q => te σ H fun x H1 => tk σ H1 fun o H2 => o = some (-1) ∧ ∃ a xs, x = .ref a ∧ SqL K H2 a xs ∧ ∀ p, H2 p = none → Q (.ref p) (upd H2 p (.lst xs.reverse))
/-- l[::-1] of a list -/
theorem pe_revL (K : PySem.W.Frag) (he : PE X e te) (hk : PO X (some k) tk) (hK : X.K = K := by rfl) : PE X (.Subscript e (.Slice none none (some k) p2) pos) (tRevL K te tk) := by
  subst hK
  refine ⟨fun pins s σ H Q I h => ?_⟩
  refine PyProof.Rows.Subscript_ (thn (he.run pins s σ H _ I h) fun v s1 ⟨x, H1, I1, r1, q1⟩ => ?_)
  refine wpAny_Slice ?_
  rw [evalPart_none]
  refine wpAny_pure (wpAny_pure (thn (hk.run pins s1 σ H1 _ I1 q1) fun vk s3 ⟨o, H3, I3, pk, q3⟩ => ?_))
  obtain ⟨rfl, a, xs, rfl, hx, q⟩ := q3
  cases r1
  have I4 : Inv X pins σ H3 { s3 with heap := s3.heap.push { cls := .type "slice", data := .fields #[.none, .none, vk] } } := I3.kept (t' := s3.toks) fun b ob q => Heap.get?_push_of_some _ q
  obtain ⟨its, r, ht, hz⟩ := I4.list hx
  show wpAny (model X.prog X.w) X.A (PyProof.Rows.subscriptTail e (.Slice none none (some k) p2) (.ref a) (.ref s3.heap.objs.size)) (EP X pins σ Q) X.xe { s3 with heap := s3.heap.push { cls := .type "slice", data := .fields #[.none, .none, vk] } }
  have hlen := r.length
  refine PyProof.Rows.tail_any (ops := [.ref a, .ref s3.heap.objs.size]) ht.isList.typeIs slot_list_getitem.lookup (wpAny_getItem_list_slice ht.isList (Heap.IsSliceOf.new ..) .none .none pk (by simp) ?_ (by rw [List.size_toArray] <;> omega)) (by with_unfolding_all rfl)
  rw [PySem.W.krv_pick]
  refine ⟨.ref _, _, I4.laid (t' := s3.toks) (o := .lst xs.reverse) (fun b ob q => Heap.get?_push_of_some _ q) (Nat.le_refl _) ?_, rfl, q _ (I4.hok.fresh (Nat.le_refl _))⟩
  exact ⟨by rw [List.length_reverse]; exact hz, _, 0, vals_reverse r, Heap.get?_push_size _ rfl⟩
end
end Kn

set_option Elab.async false
set_option maxRecDepth 100000
set_option linter.all false
namespace Kn
open PySem L2
/-! ### a list or a tuple is walked -/
def SqS (K : PySem.W.Frag) (H : Hp) (a : Addr) (xs : List V) : Prop := SqL K H a xs ∨ SqT K H a xs
theorem SqS.same {K : PySem.W.Frag} {H H' : Hp} {a : Addr} {xs : List V} (e : Same H H') (h : SqS K H a xs) : SqS K H' a xs := by
  rcases h with h | h
  · exact .inl (Same.seq e h)
  · exact .inr (SqT.same e h)
def iSeq (K : PySem.W.Frag) (tl : TE) : TI := fun σ H R => tl σ H fun x H1 => ∃ a, x = .ref a ∧ (((∃ xs, SqL K H1 a xs) ∧ R (Itl K a) H1) ∨ ((∃ xs, SqT K H1 a xs) ∧ R (Itt K a) H1))
section
variable {X : Cx} {tg l : Expr} {tl : TE}
theorem pi_seqK (K : PySem.W.Frag) (hl : PE X l tl) (hK : X.K = K := by rfl) : PI X tg l (iSeq K tl) := by
  subst hK
  refine ⟨fun pins s σ H R I hw => ?_⟩
  refine thn (hl.run pins s σ H _ I hw) fun v s1 ⟨x, H1, J, r1, q1⟩ => ?_
  obtain ⟨a, rfl, ⟨⟨xs, hx⟩, q⟩ | ⟨⟨xs, hx⟩, q⟩⟩ := q1
  · cases r1
    have fp : ∀ b ∈ [s1.heap.objs.size], FpOk X pins H1 b := fun b hb => by
      rw [List.mem_singleton.mp hb]
      exact J.fpOk (Nat.le_refl _) (J.hok.fresh (Nat.le_refl _))
    obtain ⟨its, _, p, _⟩ := J.list hx
    exact wpAny_pyIter_list p.isList ⟨_, _, _, _, H1, rfl, J.kept (t' := s1.toks) fun _ _ e => Heap.get?_push_of_some _ e, turn_list a _, ⟨_, Heap.get?_push_size _ rfl, rfl, rfl⟩, fp, q⟩
  · cases r1
    have fp : ∀ b ∈ [s1.heap.objs.size], FpOk X pins H1 b := fun b hb => by
      rw [List.mem_singleton.mp hb]
      exact J.fpOk (Nat.le_refl _) (J.hok.fresh (Nat.le_refl _))
    obtain ⟨its, _, p, _⟩ := J.tuple hx
    exact wpAny_pyIter_tuple (show s1.heap.IsTuple a its.toArray from p) ⟨_, _, _, _, H1, rfl, J.kept (t' := s1.toks) fun _ _ e => Heap.get?_push_of_some _ e, turn_tuple a _, ⟨_, Heap.get?_push_size _ rfl, rfl, rfl⟩, fp, q⟩
end
/-- what a for asks of an iterator -/
abbrev ForR (g : TG) (tb : TS) (D : Ends) (σ : St) (J : It) (H1 : Hp) : Prop := ∃ W : Nat → Nat → St → Hp → Prop, (∃ m, W 0 m σ H1) ∧ ∀ i m σ H, W i m σ H →
  (J.stop i H ∧ D.nx σ H) ∨ (J.go i H ∧ ∃ N : St → Hp → Prop, (∀ σ' H', N σ' H' → ∃ m', m' < m ∧ W (i + 1) m' σ' H') ∧ ∀ x H', J.yld i H x H' → g x σ H' fun σ2 H2 => tb { D with nx := N, ct := N, bk := D.nx } σ2 H2)
theorem for_seq {K : PySem.W.Frag} {a : Addr} {xs : List V} {g : TG} {tb : TS} {D : Ends} {σ : St} {H : Hp} (hq : SqS K H a xs) (Pv : Nat → St → Hp → Prop) (h0 : Pv 0 σ H) (hl : ∀ i σ H2, Pv i σ H2 → Same H H2)
    (hs : ∀ (i : Nat) x σ H, xs[i]? = some x → Pv i σ H → g x σ H fun σ2 H2 => tb { D with nx := Pv (i + 1), ct := Pv (i + 1), bk := D.nx } σ2 H2) (hd : ∀ σ H, Pv xs.length σ H → D.nx σ H) :
    ((∃ xs, SqL K H a xs) ∧ ForR g tb D σ (Itl K a) H) ∨ ((∃ xs, SqT K H a xs) ∧ ForR g tb D σ (Itt K a) H) := by
  rcases hq with hq | hq
  · exact .inl ⟨⟨_, hq⟩, for_list (xs := xs) Pv h0 (fun i σ H2 _ p => Same.seq (hl i σ H2 p) hq) hs hd⟩
  · exact .inr ⟨⟨_, hq⟩, for_tup (xs := xs) Pv h0 (fun i σ H2 _ p => SqT.same (hl i σ H2 p) hq) hs hd⟩
abbrev LcR (g : TG) (tt : TT) (te : TE) (vs : List Nat) (σ : St) (D : Addr) (Qd : Hp → Prop) (J : It) (H1 : Hp) : Prop := ∃ W : Nat → Nat → Hp → Prop, (∃ m, W 0 m (upd H1 D (.lst []))) ∧ ∀ i m H, W i m H →
  (J.stop i H ∧ Qd H) ∨ (J.go i H ∧ ∃ Nx : Hp → Prop, (∀ H', Nx H' → ∃ m', m' < m ∧ W (i + 1) m' H') ∧ ∀ x H', J.yld i H x H' → g x (wipe σ vs) H' fun σ2 H2 => wipe σ2 vs = wipe σ vs ∧ tt σ2 H2 fun b H3 =>
    if b = true then te σ2 H3 fun y H4 => ∃ acc, H4 D = some (.lst acc) ∧ acc.length < sizeLine ∧ Nx (upd H4 D (.lst (acc ++ [y]))) else Nx H3)
/-- a comprehension over a list or a tuple that only reads -/
theorem lc_accS {K : PySem.W.Frag} {a : Addr} {xs : List V} {g : TG} {tt : TT} {te : TE} {vs : List Nat} {σ : St} {H1 : Hp} {Q : Addr → Hp → Prop} (hq : SqS K H1 a xs) (acc : Nat → List V) (h0 : acc 0 = []) (hz : ∀ i, i < xs.length → (acc i).length < sizeLine)
    (hs : ∀ (i : Nat) x H (R1 : Hp → Prop) (R : V → Hp → Prop), xs[i]? = some x → Same H1 H → (acc (i + 1) = acc i → R1 H) → (∀ y, acc (i + 1) = acc i ++ [y] → R y H) → g x (wipe σ vs) H fun σ2 H2 => wipe σ2 vs = wipe σ vs ∧ tt σ2 H2 fun b H3 => if b = true then te σ2 H3 R else R1 H3)
    (hd : ∀ D, H1 D = none → Q D (upd H1 D (.lst (acc xs.length)))) :
    ((∃ xs, SqL K H1 a xs) ∧ ∀ D, H1 D = none → LcR g tt te vs σ D (fun H => Q D H) (Itl K a) H1) ∨ ((∃ xs, SqT K H1 a xs) ∧ ∀ D, H1 D = none → LcR g tt te vs σ D (fun H => Q D H) (Itt K a) H1) := by
  rcases hq with hq | hq
  · exact .inl ⟨⟨_, hq⟩, fun D hD => lc_accL acc hD hq h0 hz hs (hd D hD)⟩
  · exact .inr ⟨⟨_, hq⟩, fun D hD => lc_accT acc hD hq h0 hz hs (hd D hD)⟩
/-! ### comprehensions whose turns make new objects -/
theorem lc_growT {K : PySem.W.Frag} {a : Addr} {xs : List V} {g : TG} {tt : TT} {te : TE} {vs : List Nat} {σ : St} {H1 : Hp} {D : Addr} {Qd : Hp → Prop} (acc : Nat → List V) (hD : H1 D = none) (ha : SqT K H1 a xs) (h0 : acc 0 = []) (hz : ∀ i, i < xs.length → (acc i).length < sizeLine)
    (hs : ∀ (i : Nat) x H (R1 : Hp → Prop) (R : V → Hp → Prop), xs[i]? = some x → Same H1 H → (∀ H', Same H H' → acc (i + 1) = acc i → R1 H') → (∀ y H', Same H H' → acc (i + 1) = acc i ++ [y] → R y H') → g x (wipe σ vs) H fun σ2 H2 => wipe σ2 vs = wipe σ vs ∧ tt σ2 H2 fun b H3 => if b = true then te σ2 H3 R else R1 H3)
    (hd : ∀ H, Same H1 H → H D = some (.lst (acc xs.length)) → Qd H) : LcR g tt te vs σ D Qd (Itt K a) H1 := by
  refine lc_tup (xs := xs) (fun i H => Same H1 H ∧ H D = some (.lst (acc i))) ⟨fun b u e => by rw [upd_ne (ne_of_none e hD)]; exact e, by rw [h0]; exact upd_same⟩ (fun i H _ ⟨sm, _⟩ => SqT.same sm ha) ?_ fun H ⟨sm, e⟩ => hd H sm e
  rintro i x H hx ⟨sm, e⟩
  refine hs i x _ _ _ hx sm (fun H' sm' z => ⟨Same.trans sm sm', by rw [z]; exact sm' _ _ e⟩) fun y H' sm' z => ?_
  exact ⟨_, sm' _ _ e, hz i (List.getElem?_eq_some_iff.mp hx).1, fun b u q => by rw [upd_ne (ne_of_none q hD)]; exact sm' _ _ (sm _ _ q), by rw [z]; exact upd_same⟩
theorem lc_growL {K : PySem.W.Frag} {a : Addr} {xs : List V} {g : TG} {tt : TT} {te : TE} {vs : List Nat} {σ : St} {H1 : Hp} {D : Addr} {Qd : Hp → Prop} (acc : Nat → List V) (hD : H1 D = none) (ha : SqL K H1 a xs) (h0 : acc 0 = []) (hz : ∀ i, i < xs.length → (acc i).length < sizeLine)
    (hs : ∀ (i : Nat) x H (R1 : Hp → Prop) (R : V → Hp → Prop), xs[i]? = some x → Same H1 H → (∀ H', Same H H' → acc (i + 1) = acc i → R1 H') → (∀ y H', Same H H' → acc (i + 1) = acc i ++ [y] → R y H') → g x (wipe σ vs) H fun σ2 H2 => wipe σ2 vs = wipe σ vs ∧ tt σ2 H2 fun b H3 => if b = true then te σ2 H3 R else R1 H3)
    (hd : ∀ H, Same H1 H → H D = some (.lst (acc xs.length)) → Qd H) : LcR g tt te vs σ D Qd (Itl K a) H1 := by
  refine lc_list (xs := xs) (fun i H => Same H1 H ∧ H D = some (.lst (acc i))) ⟨fun b u e => by rw [upd_ne (ne_of_none e hD)]; exact e, by rw [h0]; exact upd_same⟩ (fun i H _ ⟨sm, _⟩ => Same.seq sm ha) ?_ fun H ⟨sm, e⟩ => hd H sm e
  rintro i x H hx ⟨sm, e⟩
  refine hs i x _ _ _ hx sm (fun H' sm' z => ⟨Same.trans sm sm', by rw [z]; exact sm' _ _ e⟩) fun y H' sm' z => ?_
  exact ⟨_, sm' _ _ e, hz i (List.getElem?_eq_some_iff.mp hx).1, fun b u q => by rw [upd_ne (ne_of_none q hD)]; exact sm' _ _ (sm _ _ q), by rw [z]; exact upd_same⟩
theorem lc_growR {lo : Int} {n : Nat} {g : TG} {tt : TT} {te : TE} {vs : List Nat} {σ : St} {H1 : Hp} {D : Addr} {Qd : Hp → Prop} (acc : Nat → List V) (hD : H1 D = none) (h0 : acc 0 = []) (hz : ∀ i, i < n → (acc i).length < sizeLine)
    (hs : ∀ (i : Nat) H (R1 : Hp → Prop) (R : V → Hp → Prop), i < n → Same H1 H → (∀ H', Same H H' → acc (i + 1) = acc i → R1 H') → (∀ y H', Same H H' → acc (i + 1) = acc i ++ [y] → R y H') → g (.int (lo + i)) (wipe σ vs) H fun σ2 H2 => wipe σ2 vs = wipe σ vs ∧ tt σ2 H2 fun b H3 => if b = true then te σ2 H3 R else R1 H3)
    (hd : ∀ H, Same H1 H → H D = some (.lst (acc n)) → Qd H) : LcR g tt te vs σ D Qd (Itr lo n) H1 := by
  refine lc_range (fun i H => Same H1 H ∧ H D = some (.lst (acc i))) ⟨fun b u e => by rw [upd_ne (ne_of_none e hD)]; exact e, by rw [h0]; exact upd_same⟩ ?_ fun H ⟨sm, e⟩ => hd H sm e
  rintro i H hi ⟨sm, e⟩
  refine hs i _ _ _ hi sm (fun H' sm' z => ⟨Same.trans sm sm', by rw [z]; exact sm' _ _ e⟩) fun y H' sm' z => ?_
  exact ⟨_, sm' _ _ e, hz i hi, fun b u q => by rw [upd_ne (ne_of_none q hD)]; exact sm' _ _ (sm _ _ q), by rw [z]; exact upd_same⟩
/-! ### over the signs of a text -/
theorem lc_accStr {x : Str} {g : TG} {tt : TT} {te : TE} {vs : List Nat} {σ : St} {H1 : Hp} {D : Addr} {Qd : Hp → Prop} (acc : Nat → List V) (hD : H1 D = none) (h0 : acc 0 = []) (hz : ∀ i, i < x.length → (acc i).length < sizeLine)
    (hs : ∀ (i : Nat) (c : Nat) H (R1 : Hp → Prop) (R : V → Hp → Prop), x.cps.toList[i]? = some c → Same H1 H → (acc (i + 1) = acc i → R1 H) → (∀ y, acc (i + 1) = acc i ++ [y] → R y H) → g (.str ⟨#[c]⟩) (wipe σ vs) H fun σ2 H2 => wipe σ2 vs = wipe σ vs ∧ tt σ2 H2 fun b H3 => if b = true then te σ2 H3 R else R1 H3)
    (hd : Qd (upd H1 D (.lst (acc x.length)))) : LcR g tt te vs σ D Qd (Its x) H1 := by
  have sm : ∀ o, Same H1 (upd H1 D o) := fun o b u e => by rw [upd_ne (ne_of_none e hD)]; exact e
  refine ⟨fun i m H => m = x.length - i ∧ i ≤ x.length ∧ H = upd H1 D (.lst (acc i)), ⟨x.length, by simp, Nat.zero_le _, by rw [h0]⟩, ?_⟩
  rintro i m H ⟨rfl, hi, rfl⟩
  by_cases hlt : i < x.length
  · refine .inr ⟨hlt, fun H' => H' = upd H1 D (.lst (acc (i + 1))), fun H' e => ⟨x.length - (i + 1), by omega, rfl, by omega, e⟩, ?_⟩
    rintro v H' ⟨rfl, c, hc, rfl⟩
    refine hs i c _ _ _ (by rw [Array.getElem?_toList]; exact hc) (sm _) (fun e => by rw [e]) fun y e => ?_
    exact ⟨_, upd_same, hz i hlt, by rw [e, upd_upd]⟩
  · have e : i = x.length := by omega
    subst e
    exact .inl ⟨Nat.le_refl _, hd⟩
/-! ### f-strings -/
def tJoined (ts : List TE) : TE := fun σ H Q => tJs ts Str.empty σ H fun out H1 => Q (.str out) H1
theorem pe_joinedN {X : Cx} {v1 v2 : Expr} {rest : List Expr} {ts : List TE} {pos : Pos} (h : PJ X (v1 :: v2 :: rest) ts) : PE X (.JoinedStr (v1 :: v2 :: rest) pos) (tJoined ts) := pe_joined h
/-! ### a call by keywords alone -/
section
variable {X : Cx} {CX : CXT} {k : Nat} {f : Addr} {fd : FuncData} {ps ks : List Str} {sp : Sp} {E : XK} {x : Str} {p pos : Pos} {kws : List Keyword} {tk : TA} {g : List Value → List Value → List Value} {gV : List V → List V → List V}
theorem pe_callN0 (F : FnOk X.prog X.w X.K X.mg X.base CX k f fd ps sp) (hr : Room k X.A) (hg : Gl X x) (hm : X.mg x = some (.ref f)) (hk : PySem.W.keepIn X.K (.ref f) = true) (hb : KBn X.K fd ps 0 ks g gV) (hx : Passes CX X E) (hkw : PK X kws tk)
    (hall : (backToKw pos (keywordEach kws X.env)).all (·.1.isSome) = true := by rfl) (hks : (backToKw pos (keywordEach kws X.env)).filterMap (·.1) = ks := by rfl) (hdb : (x == ("__debug__" : Str)) = false := by decide)
    (hpl : ((backTo pos (starEach [] X.env)).any (·.1) || (backToKw pos (keywordEach kws X.env)).any (·.1.isNone)) = false := by rfl) : PE X (.Call (.Name x p) [] kws pos) (tCallN 0 ks.length sp gV E tNil tk) := by
  refine ⟨fun pins s σ H Q I h => wpAny_Call_Name_kw (ld_glob I hg hm ?_ hdb)⟩
  refine PySem.W.callWith_KW0 (h₀ := X.base) I.ok.mod.kin hk hall (thn (hkw.run pos pins s σ H _ I h) fun ws s2 ⟨zs, H2, J, rz, _, l2, q⟩ => ⟨J.kIn, ?_⟩) hpl
  rw [hks]
  exact run_fnN (us := []) (vs := []) F hr hb hx J .nil rz rfl l2 q
end
/-- a + b of tuples, told once -/
theorem cat_ {K : PySem.W.Frag} {H : Hp} {a b : Addr} {xs ys : List V} {Q : VK} (ha : SqT K H a xs) (hb : SqT K H b ys) (hz : xs.length + ys.length ≤ sizeLine) (k : ∀ r H', Same H H' → SqT K H' r (xs ++ ys) → Q (.ref r) H') : rCatA K (.ref a) (.ref b) H Q := by
  refine ⟨a, b, xs, ys, rfl, rfl, ha, hb, hz, fun z => ?_, fun _ z => ?_, fun _ _ p hp => ?_⟩
  · subst z
    exact k b H (Same.refl _) hb
  · subst z
    exact k a H (Same.refl _) (by rw [List.append_nil]; exact ha)
  · exact k p _ (same_new hp) (SqT.of upd_same)
theorem tupof_ {K : PySem.W.Frag} {H : Hp} {a : Addr} {xs : List V} {Q : VK} (ha : SqS K H a xs) (k : ∀ r H', Same H H' → SqT K H' r xs → Q (.ref r) H') : rTupleOf K [.ref a] H Q := by
  rcases ha with ha | ha
  · exact ⟨a, xs, rfl, .inl ⟨ha, fun l hl => k l _ (same_new hl) (SqT.of upd_same)⟩⟩
  · exact ⟨a, xs, rfl, .inr ⟨ha, k a H (Same.refl _) ha⟩⟩
end Kn

set_option Elab.async false
set_option maxRecDepth 100000
set_option linter.all false
namespace Kn
open PySem L2
/-- where the class of that name stands -/
def clsA (mg : Str → Option Value) (x : Str) : Addr := match mg x with
  | some (.ref a) => a
  | _ => 0
theorem clsA_of {mg : Str → Option Value} {x : Str} {a : Addr} (h : mg x = some (.ref a)) : clsA mg x = a := by unfold clsA; rw [h]
/-- an exception class of the text over ValueError, without an __init__ -/
structure ExcF (K : PySem.W.Frag) (mg : Str → Option Value) (x : Str) : Prop where
  g : mg x = some (.ref (clsA mg x))
  ex : PySem.W.excIn K (clsA mg x) [.type "ValueError", .type "Exception", .type "BaseException", .type "object"] "ValueError.__new__" = true
  k : PySem.W.keepIn K (.ref (clsA mg x)) = true
  b : PySem.W.subIn K (.ref (clsA mg x)) (.type "BaseException") = some true
  t : PySem.W.typeIn K (.ref (clsA mg x)) = some (.type "type")
theorem Fz.okX {P : Program} {w : World} {K : PySem.W.Frag} {mg : Str → Option Value} {base : Heap} {x : Str} {st : Stmt} {ps N : List Str} {k : Nat} {sp : Sp} (F : Fz K mg x st ps) (S : FnScope N ps (defScope st)) (len : ∀ vs H Q E, sp vs H Q E → vs.length = ps.length)
    (hbody : ∀ (f : Addr) (cdv : Value) (A : Around) (outer : List Env) (s : Shared) (H : Hp) (vs : List V) (Q : VK) (E : XK), Room k (A.deeper (PyProof.Rows.envOfC x (defScope st) s.heap.objs.size f cdv)) → sp vs H Q E →
      ∃ t, PSs (cxOf (L2.CX P w) P w K mg base N x (defScope st) f cdv A outer s H E) (defBody st) t ∧ t { nx := fun _ H' => Q .non H', rt := Q } (start N vs) H) : Fx P w K mg base (L2.CX P w) x (k + 1) ps sp := by
  obtain ⟨f, fd, F1, m, b⟩ := F.ex
  exact ⟨f, fd, F1.okX S len (hbody f), m, F1.kp, b⟩
/-- a def whose arguments bind as B says -/
structure FzB (K : PySem.W.Frag) (mg : Str → Option Value) (x : Str) (st : Stmt) (B : FuncData → Prop) : Prop where
  ex : ∃ (f : Addr) (fd : FuncData), Fun K x x st f fd ∧ mg x = some (.ref f) ∧ B fd
structure FxB (P : Program) (w : World) (K : PySem.W.Frag) (mg : Str → Option Value) (base : Heap) (CX : CXT) (x : Str) (k : Nat) (ps : List Str) (sp : Sp) (B : FuncData → Prop) : Prop where
  ex : ∃ (f : Addr) (fd : FuncData), FnOk P w K mg base CX k f fd ps sp ∧ mg x = some (.ref f) ∧ PySem.W.keepIn K (.ref f) = true ∧ B fd
theorem FzB.okX {P : Program} {w : World} {K : PySem.W.Frag} {mg : Str → Option Value} {base : Heap} {x : Str} {st : Stmt} {ps N : List Str} {k : Nat} {sp : Sp} {B : FuncData → Prop} (F : FzB K mg x st B) (S : FnScope N ps (defScope st)) (len : ∀ vs H Q E, sp vs H Q E → vs.length = ps.length)
    (hbody : ∀ (f : Addr) (cdv : Value) (A : Around) (outer : List Env) (s : Shared) (H : Hp) (vs : List V) (Q : VK) (E : XK), Room k (A.deeper (PyProof.Rows.envOfC x (defScope st) s.heap.objs.size f cdv)) → sp vs H Q E →
      ∃ t, PSs (cxOf (L2.CX P w) P w K mg base N x (defScope st) f cdv A outer s H E) (defBody st) t ∧ t { nx := fun _ H' => Q .non H', rt := Q } (start N vs) H) : FxB P w K mg base (L2.CX P w) x (k + 1) ps sp B := by
  obtain ⟨f, fd, F1, m, b⟩ := F.ex
  exact ⟨f, fd, F1.okX S len (hbody f), m, F1.kp, b⟩
section
variable {X : Cx} {k : Nat} {ps ks : List Str} {sp : Sp} {x : Str} {p pos : Pos} {kws : List Keyword} {tk : TA} {B : FuncData → Prop} {gV : List V → List V → List V} {CX : CXT} {E : XK}
/-- f(k = v, ..) -/
theorem kcall (F : FxB X.prog X.w X.K X.mg X.base CX x k ps sp B) (hB : ∀ fd, B fd → ∃ g, KBn X.K fd ps 0 ks g gV) (hr : Room k X.A) (hg : Gl X x) (hx : Passes CX X E) (hkw : PK X kws tk)
    (hall : (backToKw pos (keywordEach kws X.env)).all (·.1.isSome) = true := by rfl) (hks : (backToKw pos (keywordEach kws X.env)).filterMap (·.1) = ks := by rfl) (hdb : (x == ("__debug__" : Str)) = false := by decide)
    (hpl : ((backTo pos (starEach [] X.env)).any (·.1) || (backToKw pos (keywordEach kws X.env)).any (·.1.isNone)) = false := by rfl) : PE X (.Call (.Name x p) [] kws pos) (tCallN 0 ks.length sp gV E tNil tk) := by
  obtain ⟨f, fd, F1, m, kp, b⟩ := F.ex
  obtain ⟨g, hb⟩ := hB fd b
  exact pe_callN0 F1 hr hg m kp hb hx hkw hall hks hdb hpl
end
section
variable {X : Cx} {k : Nat} {ps : List Str} {sp : Sp} {E : XK} {x : Str} {p pos : Pos} {e : Expr} {es : List Expr} {t : TA}
/-- a call of a def that may raise, where it does not -/
theorem fcall0 (F : Fx X.prog X.w X.K X.mg X.base (L2.CX X.prog X.w) x k ps sp) (hr : Room k X.A) (hg : Gl X x) (ha : PA X (e :: es) t)
    (hdb : (x == ("__debug__" : Str)) = false := by decide) (he : starEach (e :: es) X.env = (false, eval e X.env) :: starEach es X.env := by rfl) (hpl : (backTo pos (starEach es X.env)).any (·.1) = false := by rfl) :
    PE X (.Call (.Name x p) (e :: es) [] pos) (tCall sp [] E0 t) := by
  obtain ⟨f, fd, F1, m, kp, b⟩ := F.ex
  exact pe_call F1 hr hg m kp b .nil passL ha hdb he hpl
/-- .. where what it raises leaves this def too -/
theorem fcallX {W : WX} (tk : Takes X W) (F : Fx X.prog X.w X.K X.mg X.base (L2.CX X.prog X.w) x k ps sp) (hr : Room k X.A) (hg : Gl X x) (ha : PA X (e :: es) t)
    (hdb : (x == ("__debug__" : Str)) = false := by decide) (he : starEach (e :: es) X.env = (false, eval e X.env) :: starEach es X.env := by rfl) (hpl : (backTo pos (starEach es X.env)).any (·.1) = false := by rfl) :
    PE X (.Call (.Name x p) (e :: es) [] pos) (tCallS sp (WE W) t) := by
  obtain ⟨f, fd, F1, m, kp, b⟩ := F.ex
  exact pe_callS F1 hr hg m kp b (fun σ => passAt tk σ) ha hdb he hpl
end
section
variable {X : Cx} {k n : Nat} {f : Addr} {fd : FuncData} {ps ks : List Str} {sp : Sp} {E : St → XK} {x : Str} {p pos : Pos} {kws : List Keyword} {tk : TA} {B : FuncData → Prop} {g : List Value → List Value → List Value} {gV : List V → List V → List V} {CX : CXT}
theorem run_kS {pins : List (Addr × Obj)} {σ : St} {H : Hp} {s : Shared} {Q : VK} {us ws : List Value} {vs zs : List V} (F : FnOk X.prog X.w X.K X.mg X.base CX k f fd ps sp) (hr : Room k X.A) (hb : KBn X.K fd ps n ks g gV) (hx : PassesAt CX X σ (E σ))
    (J : Inv X pins σ H s) (r : Vals vs us) (rz : Vals zs ws) (l1 : vs.length = n) (l2 : zs.length = ks.length) (h : sp (gV vs zs) H Q (E σ)) : wpAny (model X.prog X.w) X.A (call (.ref f) us (ks.zip ws)) (EP X pins σ Q) X.xe s := by
  have r2 := hb.rel r rz
  have bt := hb.to s us ws J.kIn (r.length.symm.trans l1) (rz.length.symm.trans l2)
  refine wpAny_call (codeAny_mono (F.run X.A X.stack s H ⟨us, ks.zip ws⟩ (g us ws) (gV vs zs) Q (E σ) hr J.env0 bt r2 h) fun fl s' hq => ?_)
  match fl, hq with
  | .error e, hq => exact hx pins H s e s' J hq
  | .ok (.ret u), hq => exact J.after hq
  | .ok .next, hq => exact hq.elim
  | .ok .brk, hq => exact hq.elim
  | .ok .cont, hq => exact hq.elim
def tCallNS (m : Nat) (sp : Sp) (gV : List V → List V → List V) (E : St → XK) (tk : TA) : TE := fun σ H Q => tk σ H fun zs H2 => zs.length = m ∧ sp (gV [] zs) H2 Q (E σ)
/-- f(k = v, ..) of a def that may raise, within a try -/
theorem kcallS {W : WX} (tkk : Takes X W) (F : FxB X.prog X.w X.K X.mg X.base (L2.CX X.prog X.w) x k ps sp B) (hB : ∀ fd, B fd → ∃ g, KBn X.K fd ps 0 ks g gV) (hr : Room k X.A) (hg : Gl X x) (hkw : PK X kws tk)
    (hall : (backToKw pos (keywordEach kws X.env)).all (·.1.isSome) = true := by rfl) (hks : (backToKw pos (keywordEach kws X.env)).filterMap (·.1) = ks := by rfl) (hdb : (x == ("__debug__" : Str)) = false := by decide)
    (hpl : ((backTo pos (starEach [] X.env)).any (·.1) || (backToKw pos (keywordEach kws X.env)).any (·.1.isNone)) = false := by rfl) : PE X (.Call (.Name x p) [] kws pos) (tCallNS ks.length sp gV (WE W) tk) := by
  obtain ⟨f, fd, F1, m, kp, b⟩ := F.ex
  obtain ⟨g, hb⟩ := hB fd b
  refine ⟨fun pins s σ H Q I h => wpAny_Call_Name_kw (ld_glob I hg m ?_ hdb)⟩
  refine PySem.W.callWith_KW0 (h₀ := X.base) I.ok.mod.kin kp hall (thn (hkw.run pos pins s σ H _ I h) fun ws s2 ⟨zs, H2, J, rz, l2, q⟩ => ⟨J.kIn, ?_⟩) hpl
  rw [hks]
  exact run_kS (us := []) (vs := []) (E := WE W) F1 hr hb (passAt tkk σ) J .nil rz rfl l2 q
end
/-- isinstance(e, c) in an except suite, e of a class without fields -/
def rIsX (K : PySem.W.Frag) (cls : Value) (d : Option Addr) (a : Addr) : List V → Hp → VK → Prop := fun xs H Q => ∃ (D : Addr) (c : V) (cv : Value) (b : Bool), cls = .ref D ∧ d = none ∧ ExcC K D ∧ xs = [.ref a, c] ∧ (∀ u, RelV c u → u = cv) ∧ PySem.W.kitOne K (.ref D) cv = some b ∧ Q (.bl b) H
theorem call_isX {X : Cx} {a : Addr} {cls : Value} {d : Option Addr} {oe : Obj} {pn : List (Addr × Obj)} (K : PySem.W.Frag) (hz : Zc cls d oe) (hf : ∃ vs, oe.data = .fields vs) (hK : X.K = K := by rfl) : CallR (X.suite a ((a, oe) :: pn)) (.builtin "isinstance") (rIsX K cls d a) := by
  subst hK
  intro pins s σ H xs us Q I r h
  obtain ⟨D, c, cv, b, rfl, rfl, C, e, hcv, k, q⟩ := h
  exact call_isE C hz hf pins s σ H xs us Q I r ⟨c, cv, b, e, hcv, k, q⟩
end Kn

set_option Elab.async false
set_option maxRecDepth 100000
set_option linter.all false
namespace Kn
open PySem L2
/-- a def by a promise over its positional values -/
structure FxR (P : Program) (w : World) (K : PySem.W.Frag) (mg : Str → Option Value) (base : Heap) (CX : CXT) (x : Str) (k : Nat) (sp : Sp) : Prop where
  ex : ∃ f : Addr, FnR P w K mg base CX k f sp ∧ mg x = some (.ref f) ∧ PySem.W.keepIn K (.ref f) = true
/-- a def with a star parameter -/
structure FzS (K : PySem.W.Frag) (mg : Str → Option Value) (x : Str) (st : Stmt) (ps : List Str) (pv : Str) : Prop where
  ex : ∃ (f : Addr) (fd : FuncData), Fun K x x st f fd ∧ mg x = some (.ref f) ∧ ∀ us rest : List Value, us.length = ps.length → bindArgs fd ⟨us ++ rest, []⟩ = (newTuple rest >>= fun t => pure (ps.zip us ++ [(pv, t)]))
def starSp (n : Nat) (sp : Sp) : Sp := fun vs H Q E => ∃ ws rest, vs = ws ++ rest ∧ ws.length = n ∧ rest.length ≤ sizeLine ∧ ∀ p, H p = none → sp (ws ++ [V.ref p]) (upd H p (.tup rest)) Q E
theorem FzS.okX {P : Program} {w : World} {K : PySem.W.Frag} {mg : Str → Option Value} {base : Heap} {x pv : Str} {st : Stmt} {ps N : List Str} {k : Nat} {sp : Sp} (F : FzS K mg x st ps pv) (S : FnScope N (ps ++ [pv]) (defScope st))
    (hbody : ∀ (f : Addr) (cdv : Value) (A : Around) (outer : List Env) (s : Shared) (H : Hp) (vs : List V) (Q : VK) (E : XK), Room k (A.deeper (PyProof.Rows.envOfC x (defScope st) s.heap.objs.size f cdv)) → sp vs H Q E →
      ∃ t, PSs (cxOf (L2.CX P w) P w K mg base N x (defScope st) f cdv A outer s H E) (defBody st) t ∧ t { nx := fun _ H' => Q .non H', rt := Q } (start N vs) H) : FxR P w K mg base (L2.CX P w) x (k + 1) (starSp ps.length sp) := by
  obtain ⟨f, fd, F1, m, b⟩ := F.ex
  obtain ⟨oc, od, kV, doc, pm, an, cdv, ct, osl, rfl, lk, hcd⟩ := F1.ex
  exact ⟨f, StX.fn_star lk hcd S StX.cxUp b (hbody f cdv), m, F1.kp⟩
section
variable {X : Cx} {CX : CXT} {k : Nat} {sp : Sp} {x : Str} {p pos : Pos} {e : Expr} {es : List Expr} {t : TA}
theorem run_fnRS {pins : List (Addr × Obj)} {σ : St} {H : Hp} {s : Shared} {f : Addr} {E : XK} {Q : VK} {us : List Value} {vs : List V} (F : FnR X.prog X.w X.K X.mg X.base CX k f sp) (hr : Room k X.A) (hx : PassesAt CX X σ E) (I : Inv X pins σ H s) (r : Vals vs us) (h : sp vs H Q E) :
    wpAny (model X.prog X.w) X.A (call (.ref f) us) (EP X pins σ Q) X.xe s := by
  refine wpAny_call (codeAny_mono (F X.A X.stack s H us vs Q E hr I.env0 r h) fun r s' hq => ?_)
  cases r with
  | error e => exact hx pins H s e s' I hq
  | ok fl =>
    cases fl with
    | ret u => exact I.after hq
    | next => exact False.elim hq
    | brk => exact False.elim hq
    | cont => exact False.elim hq
/-- f(e, ..) of a def with a star, what it raises leaves this def or is caught -/
theorem fcallR {W : WX} (tk : Takes X W) (F : FxR X.prog X.w X.K X.mg X.base (L2.CX X.prog X.w) x k sp) (hr : Room k X.A) (hg : Gl X x) (ha : PA X (e :: es) t)
    (hdb : (x == ("__debug__" : Str)) = false := by decide) (he : starEach (e :: es) X.env = (false, eval e X.env) :: starEach es X.env := by rfl) (hpl : (backTo pos (starEach es X.env)).any (·.1) = false := by rfl) :
    PE X (.Call (.Name x p) (e :: es) [] pos) (tCallS sp (WE W) t) := by
  obtain ⟨f, F1, hm, hk⟩ := F.ex
  refine ⟨fun pins s σ H Q I h => ?_⟩
  refine wpAny_Call_Name_kw (ld_glob I hg hm ?_ hdb)
  refine PySem.W.callWith_K (h₀ := X.base) I.ok.mod.kin hk (thn (ha.run pos pins s σ H _ I h) fun us s1 ⟨vs, H1, I1, r, q⟩ => ⟨I1.kIn, ?_⟩) he hpl
  exact run_fnRS F1 hr (passAt tk σ) I1 r q
end
end Kn

set_option Elab.async false
set_option maxRecDepth 100000
set_option linter.all false
namespace Kn
open PySem L2
/-- a def of a class's text, with or without defaults -/
def FunC (K : PySem.W.Frag) (m qual : Str) (st : Stmt) (f : Addr) (fd : FuncData) : Prop := ∃ dv kw, FunD K m qual (defArgs st) (defBody st) (defScope st) dv kw f fd
theorem FunC.okX {P : Program} {w : World} {K : PySem.W.Frag} {mg : Str → Option Value} {base : Heap} {m qual : Str} {st : Stmt} {f : Addr} {fd : FuncData} {ps N : List Str} {k : Nat} {sp : Sp} (F : FunC K m qual st f fd) (S : FnScope N ps (defScope st)) (len : ∀ vs H Q E, sp vs H Q E → vs.length = ps.length)
    (hbody : ∀ (cdv : Value) (A : Around) (outer : List Env) (s : Shared) (H : Hp) (vs : List V) (Q : VK) (E : XK), Room k (A.deeper (PyProof.Rows.envOfC qual (defScope st) s.heap.objs.size f cdv)) → sp vs H Q E →
      ∃ t, PSs (cxOf (L2.CX P w) P w K mg base N qual (defScope st) f cdv A outer s H E) (defBody st) t ∧ t { nx := fun _ H' => Q .non H', rt := Q } (start N vs) H) : FnOk P w K mg base (L2.CX P w) (k + 1) f fd ps sp := by
  obtain ⟨dv, kw, F⟩ := F
  exact F.ok S len hbody
/-! ### own classes: methods, properties, making; what is raised may pass -/
/-- a method of the class at C -/
structure Mz (K : PySem.W.Frag) (C : Addr) (m qual : Str) (st : Stmt) (ps : List Str) (dvs : List V) : Prop where
  ex : ∃ (f : Addr) (fd : FuncData) (ds : List Value), FunC K m qual st f fd ∧ Meth K C m f ∧ Binds K fd ps ds ∧ Vals dvs ds
structure Mx (P : Program) (w : World) (K : PySem.W.Frag) (mg : Str → Option Value) (base : Heap) (C : Addr) (m : Str) (k : Nat) (ps : List Str) (dvs : List V) (sp : Sp) : Prop where
  ex : ∃ (f : Addr) (fd : FuncData) (ds : List Value), FnOk P w K mg base (L2.CX P w) k f fd ps sp ∧ Meth K C m f ∧ Binds K fd ps ds ∧ Vals dvs ds
theorem Mz.okX {P : Program} {w : World} {K : PySem.W.Frag} {mg : Str → Option Value} {base : Heap} {C : Addr} {m qual : Str} {st : Stmt} {ps N : List Str} {dvs : List V} {k : Nat} {sp : Sp} (F : Mz K C m qual st ps dvs) (S : FnScope N ps (defScope st)) (len : ∀ vs H Q E, sp vs H Q E → vs.length = ps.length)
    (hbody : ∀ (f : Addr) (cdv : Value) (A : Around) (outer : List Env) (s : Shared) (H : Hp) (vs : List V) (Q : VK) (E : XK), Room k (A.deeper (PyProof.Rows.envOfC qual (defScope st) s.heap.objs.size f cdv)) → sp vs H Q E →
      ∃ t, PSs (cxOf (L2.CX P w) P w K mg base N qual (defScope st) f cdv A outer s H E) (defBody st) t ∧ t { nx := fun _ H' => Q .non H', rt := Q } (start N vs) H) : Mx P w K mg base C m (k + 1) ps dvs sp := by
  obtain ⟨f, fd, ds, F1, m, b, v⟩ := F.ex
  exact ⟨f, fd, ds, F1.okX S len (hbody f), m, b, v⟩
def tMethX (C : Addr) (m : Str) (sp : Sp) (dvs : List V) (E : St → XK) (ta : TE) (t : TA) : TE := fun σ H Q => ta σ H fun x H1 => ∃ a dx fs, x = .ref a ∧ H1 a = some (.ins C dx fs) ∧ fs.lookup m = none ∧
  t σ H1 fun vs H2 => sp (x :: (vs ++ dvs)) H2 Q (E σ)
def tMakeX (C : Addr) (sp : Sp) (dvs : List V) (E : St → XK) (t : TA) : TE := fun σ H Q => t σ H fun vs H1 => ∀ x dx, H1 x = none → H1 dx = none → dx ≠ x →
  sp (.ref x :: (vs ++ dvs)) (upd (upd H1 dx (.own x)) x (.ins C dx [])) (fun v H2 => v = .non ∧ Q (.ref x) H2) (E σ)
section
variable {X : Cx} {k : Nat} {C : Addr} {ps : List Str} {sp : Sp} {dvs : List V} {x m : Str} {p pos apos : Pos} {e o : Expr} {es : List Expr} {ta : TE} {t : TA} {W : WX}
/-- o.m(..) -/
theorem mcallX {pl : Sem Bool} (tk : Takes X W) (c : Cls X.K C) (M : Mx X.prog X.w X.K X.mg X.base C m k ps dvs sp) (hr : Room k X.A) (he : PE X o ta) (ha : PA X (e :: es) t)
    (hst : starEach (e :: es) X.env = (false, eval e X.env) :: starEach es X.env := by rfl) (hpl : (backTo pos (starEach es X.env)).any (·.1) = false := by rfl)
    (ht : eval (.Call (.Attribute o m apos) (e :: es) [] pos) X.env = (do
      let ov ← eval o X.env
      standAt apos.atName
      let (f, first) ← holding [ov] (getMethod ov m pl)
      callWith pos f first (backTo pos (starEach (e :: es) X.env)) (backToKw pos (keywordEach [] X.env))) := by rfl) :
    PE X (.Call (.Attribute o m apos) (e :: es) [] pos) (tMethX C m sp dvs (WE W) ta t) := by
  obtain ⟨f, fd, ds, F, hm, hb, hd⟩ := M.ex
  refine ⟨fun pins s σ H Q I h => ?_⟩
  refine PySem.W.methodCall_KW (pl := pl) (thn (he.run pins s σ H _ I h) fun u s1 ⟨x, H1, I1, rx, a, dx, fs, ex, ea, l, q⟩ => ?_) ht
  subst ex
  obtain rfl : u = Value.ref a := rx
  refine getmeth_ok I1 ea c hm l ?_
  refine PySem.W.callWith_K (first := [.ref a]) (h₀ := X.base) I.ok.mod.kin hm.kp (thn (ha.run pos pins s1 σ H1 _ I1 q) fun us s2 ⟨vs, H2, I2, r, q2⟩ => ⟨I2.kIn, ?_⟩) hst hpl
  exact run_fnSD (E := WE W) (us := .ref a :: us) (vs := .ref a :: vs) F hr hb hd (passAt tk σ) I2 (.cons rfl r) q2
/-- o.m() -/
theorem mcall0X {pl : Sem Bool} (tk : Takes X W) (c : Cls X.K C) (M : Mx X.prog X.w X.K X.mg X.base C m k ps dvs sp) (hr : Room k X.A) (he : PE X o ta)
    (ht : eval (.Call (.Attribute o m apos) [] [] pos) X.env = (do
      let ov ← eval o X.env
      standAt apos.atName
      let (f, first) ← holding [ov] (getMethod ov m pl)
      callWith pos f first (backTo pos (starEach [] X.env)) (backToKw pos (keywordEach [] X.env))) := by rfl) :
    PE X (.Call (.Attribute o m apos) [] [] pos) (tMethX C m sp dvs (WE W) ta tNil) := by
  obtain ⟨f, fd, ds, F, hm, hb, hd⟩ := M.ex
  refine ⟨fun pins s σ H Q I h => ?_⟩
  refine PySem.W.methodCall_KW (pl := pl) (thn (he.run pins s σ H _ I h) fun u s1 ⟨x, H1, I1, rx, a, dx, fs, ex, ea, l, q⟩ => ?_) ht
  subst ex
  obtain rfl : u = Value.ref a := rx
  refine getmeth_ok I1 ea c hm l ?_
  exact PySem.W.callWith_K0 (first := [.ref a]) I1.kIn hm.kp (run_fnSD (E := WE W) (us := [.ref a]) (vs := [.ref a]) F hr hb hd (passAt tk σ) I1 (.cons rfl .nil) q)
end
/-! ### making an instance -/
structure Kz (K : PySem.W.Frag) (C : Addr) (qual : Str) (st : Stmt) (ps : List Str) (dvs : List V) : Prop where
  ex : ∃ (f : Addr) (fd : FuncData) (ds : List Value), FunC K "__init__" qual st f fd ∧ Mk K C f ∧ Binds K fd ps ds ∧ Vals dvs ds
structure Kx (P : Program) (w : World) (K : PySem.W.Frag) (mg : Str → Option Value) (base : Heap) (C : Addr) (k : Nat) (ps : List Str) (dvs : List V) (sp : Sp) : Prop where
  ex : ∃ (f : Addr) (fd : FuncData) (ds : List Value), FnOk P w K mg base (L2.CX P w) k f fd ps sp ∧ Mk K C f ∧ Binds K fd ps ds ∧ Vals dvs ds
theorem Kz.okX {P : Program} {w : World} {K : PySem.W.Frag} {mg : Str → Option Value} {base : Heap} {C : Addr} {qual : Str} {st : Stmt} {ps N : List Str} {dvs : List V} {k : Nat} {sp : Sp} (F : Kz K C qual st ps dvs) (S : FnScope N ps (defScope st)) (len : ∀ vs H Q E, sp vs H Q E → vs.length = ps.length)
    (hbody : ∀ (f : Addr) (cdv : Value) (A : Around) (outer : List Env) (s : Shared) (H : Hp) (vs : List V) (Q : VK) (E : XK), Room k (A.deeper (PyProof.Rows.envOfC qual (defScope st) s.heap.objs.size f cdv)) → sp vs H Q E →
      ∃ t, PSs (cxOf (L2.CX P w) P w K mg base N qual (defScope st) f cdv A outer s H E) (defBody st) t ∧ t { nx := fun _ H' => Q .non H', rt := Q } (start N vs) H) : Kx P w K mg base C (k + 1) ps dvs sp := by
  obtain ⟨f, fd, ds, F1, m, b, v⟩ := F.ex
  exact ⟨f, fd, ds, F1.okX S len (hbody f), m, b, v⟩
section
variable {X : Cx} {CX : CXT} {k : Nat} {f C : Addr} {fd : FuncData} {ps : List Str} {sp : Sp} {dvs : List V} {ds : List Value} {E : St → XK} {x : Str} {p pos : Pos} {e : Expr} {es : List Expr} {t : TA} {W : WX}
theorem run_makeAt {pins : List (Addr × Obj)} {σ : St} {H : Hp} {s : Shared} {Q : VK} {us : List Value} {vs : List V} (M : Mk X.K C f) (F : FnOk X.prog X.w X.K X.mg X.base CX k f fd ps sp) (hr : Room (k + 1) X.A) (hb : Binds X.K fd ps ds) (hd : Vals dvs ds)
    (hx : PassesAt CX X σ (E σ)) (I : Inv X pins σ H s) (r : Vals vs us)
    (h : ∀ x dx, H x = none → H dx = none → dx ≠ x → sp (.ref x :: (vs ++ dvs)) (upd (upd H dx (.own x)) x (.ins C dx [])) (fun v H2 => v = .non ∧ Q (.ref x) H2) (E σ)) :
    wpAny (model X.prog X.w) X.A (call (.ref C) us) (EP X pins σ Q) X.xe s := by
  have hq := h (s.heap.objs.size + 1) s.heap.objs.size (I.hok.fresh (Nat.le_succ _)) (I.hok.fresh (Nat.le_refl _)) (Nat.ne_of_lt (Nat.lt_succ_self _))
  have I2 := Inv.made (C := C) I
  have r2 : Vals (V.ref (s.heap.objs.size + 1) :: (vs ++ dvs)) (Value.ref (s.heap.objs.size + 1) :: (us ++ ds)) := .cons rfl (r.append hd)
  have hl : (Value.ref (s.heap.objs.size + 1) :: us ++ ds).length = ps.length := (r2.length.symm.trans (F.len _ _ _ _ hq) :)
  refine wpAny_call (make_map (f := f) I.kIn M.makes M.init (beq_iff_eq.mp M.fn) (codeAny_mono (F.run _ X.stack _ _ ⟨Value.ref (s.heap.objs.size + 1) :: us, []⟩ (Value.ref (s.heap.objs.size + 1) :: (us ++ ds)) _ _ (E σ) (hr.make C us [])
    (I2.env0.make C us []) (hb _ (Value.ref (s.heap.objs.size + 1) :: us) I2.kIn hl) r2 hq) fun fl s' hq' => ?_))
  match fl, hq' with
  | .error e, hq' => exact hx pins _ _ e s' I2 hq'
  | .ok (.ret u), hq' =>
    obtain ⟨v, H', I3, rv, ev, q3⟩ := I2.after hq'
    subst ev
    exact ⟨rv, ⟨V.ref (s.heap.objs.size + 1), H', I3, rfl, q3⟩⟩
  | .ok .next, hq' => exact hq'.elim
  | .ok .brk, hq' => exact hq'.elim
  | .ok .cont, hq' => exact hq'.elim
/-- C(..) -/
theorem makeX (tk : Takes X W) (M : Kx X.prog X.w X.K X.mg X.base C k ps dvs sp) (hr : Room (k + 1) X.A) (hg : Gl X x) (hm : X.mg x = some (.ref C)) (ha : PA X (e :: es) t)
    (hdb : (x == ("__debug__" : Str)) = false := by decide) (he : starEach (e :: es) X.env = (false, eval e X.env) :: starEach es X.env := by rfl) (hpl : (backTo pos (starEach es X.env)).any (·.1) = false := by rfl) :
    PE X (.Call (.Name x p) (e :: es) [] pos) (tMakeX C sp dvs (WE W) t) := by
  obtain ⟨f, fd, ds, F, M, hb, hd⟩ := M.ex
  refine ⟨fun pins s σ H Q I h => ?_⟩
  refine wpAny_Call_Name_kw (ld_glob I hg hm ?_ hdb)
  refine PySem.W.callWith_K (h₀ := X.base) I.ok.mod.kin M.kp (thn (ha.run pos pins s σ H _ I h) fun us s1 ⟨vs, H1, I1, r, q⟩ => ⟨I1.kIn, ?_⟩) he hpl
  exact run_makeAt (E := WE W) M F hr hb hd (passAt tk σ) I1 r q
/-- C() -/
theorem make0X (tk : Takes X W) (M : Kx X.prog X.w X.K X.mg X.base C k ps dvs sp) (hr : Room (k + 1) X.A) (hg : Gl X x) (hm : X.mg x = some (.ref C))
    (hdb : (x == ("__debug__" : Str)) = false := by decide) : PE X (.Call (.Name x p) [] [] pos) (tMakeX C sp dvs (WE W) tNil) := by
  obtain ⟨f, fd, ds, F, M, hb, hd⟩ := M.ex
  refine ⟨fun pins s σ H Q I h => ?_⟩
  refine wpAny_Call_Name_kw (ld_glob I hg hm ?_ hdb)
  exact PySem.W.callWith_K0 I.kIn M.kp (run_makeAt (E := WE W) (us := []) M F hr hb hd (passAt tk σ) I .nil h)
end
/-! ### fields -/
/-- f is a field of the class at C -/
structure Fd (K : PySem.W.Frag) (C : Addr) (f : Str) : Prop where
  c : Cls K C
  n : NoAttr K C f
def tFldC (C : Addr) (f : Str) (ta : TE) : TE := fun σ H Q => ta σ H fun x H1 => ∃ a dx fs v, x = .ref a ∧ H1 a = some (.ins C dx fs) ∧ fs.lookup f = some v ∧ Q v H1
def sFldC (C : Addr) (f : Str) (ta tv : TE) : TS := fun D σ H => tv σ H fun y H1 => ta σ H1 fun x H2 => ∃ a dx fs, x = .ref a ∧ H2 a = some (.ins C dx fs) ∧ fs.length < 1000 ∧ D.nx σ (upd H2 a (.ins C dx (putF f y fs)))
section
variable {X : Cx} {C : Addr} {o e value : Expr} {f : Str} {pos pos' : Pos} {ta tv : TE}
/-- e.f -/
theorem fldX (h : Fd X.K C f) (he : PE X e ta) (hb : attributeBase e f X.env (eval e X.env) = eval e X.env := by rfl) : PE X (.Attribute e f pos) (tFldC C f ta) := by
  refine ⟨fun pins s σ H Q I q => ?_⟩
  refine attr_of hb (thn (he.run pins s σ H _ I q) fun u s1 ⟨x, H1, I1, rx, a, dx, fs, v, ex, ea, l, q⟩ => ?_)
  subst ex
  obtain rfl : u = Value.ref a := rx
  exact getattr_ok I1 ea h.c h.n l fun u' s2 I2 ru => ⟨v, H1, I2, ru, q⟩
/-- o.f = value -/
theorem setX (h : Fd X.K C f) (ha : PE X o ta) (hv : PE X value tv) (hs : swapsWith value (some (.Attribute o f pos')) pos.line X.env = pure false := by rfl) : PS X (.Assign [.Attribute o f pos'] value pos) (sFldC C f ta tv) := by
  refine ⟨fun pins s σ H D I q => ?_⟩
  refine plainObj_wpAny_Assign_Attribute (thn (hv.run pins s σ H _ I q) fun u s1 ⟨y, H1, I1, ry, q⟩ => thn (ha.run pins s1 σ H1 _ I1 q) fun ov s2 ⟨x, H2, I2, rx, a, dx, fs, ex, ea, l, q2⟩ => ?_) hs
  subst ex
  obtain rfl : ov = Value.ref a := rx
  exact setattr_ok I2 ea h.c h.n l ry fun s3 I3 => ⟨σ, _, I3, q2⟩
end
/-! ### properties -/
structure Pz (K : PySem.W.Frag) (C : Addr) (m qual : Str) (st : Stmt) (ps : List Str) : Prop where
  ex : ∃ (f : Addr) (fd : FuncData) (p : Addr), FunC K m qual st f fd ∧ PropOf K C m p f ∧ Binds K fd ps []
structure Pp (P : Program) (w : World) (K : PySem.W.Frag) (mg : Str → Option Value) (base : Heap) (C : Addr) (m : Str) (k : Nat) (ps : List Str) (sp : Sp) : Prop where
  ex : ∃ (f : Addr) (fd : FuncData) (p : Addr), FnOk P w K mg base (L2.CX P w) k f fd ps sp ∧ PropOf K C m p f ∧ Binds K fd ps []
theorem Pz.okX {P : Program} {w : World} {K : PySem.W.Frag} {mg : Str → Option Value} {base : Heap} {C : Addr} {m qual : Str} {st : Stmt} {ps N : List Str} {k : Nat} {sp : Sp} (F : Pz K C m qual st ps) (S : FnScope N ps (defScope st)) (len : ∀ vs H Q E, sp vs H Q E → vs.length = ps.length)
    (hbody : ∀ (f : Addr) (cdv : Value) (A : Around) (outer : List Env) (s : Shared) (H : Hp) (vs : List V) (Q : VK) (E : XK), Room k (A.deeper (PyProof.Rows.envOfC qual (defScope st) s.heap.objs.size f cdv)) → sp vs H Q E →
      ∃ t, PSs (cxOf (L2.CX P w) P w K mg base N qual (defScope st) f cdv A outer s H E) (defBody st) t ∧ t { nx := fun _ H' => Q .non H', rt := Q } (start N vs) H) : Pp P w K mg base C m (k + 1) ps sp := by
  obtain ⟨f, fd, p, F1, m, b⟩ := F.ex
  exact ⟨f, fd, p, F1.okX S len (hbody f), m, b⟩
theorem propX {X : Cx} {k : Nat} {C : Addr} {ps : List Str} {sp : Sp} {m : Str} {e : Expr} {pos : Pos} {ta : TE} (c : Cls X.K C) (M : Pp X.prog X.w X.K X.mg X.base C m k ps sp) (hr : Room (k + 1) X.A) (he : PE X e ta)
    (hab : attributeBase e m X.env (eval e X.env) = eval e X.env := by rfl) : PE X (.Attribute e m pos) (tProp C sp [] E0 ta) := by
  obtain ⟨f, fd, p, F, hp, hb⟩ := M.ex
  exact pe_prop he c hp F hr hb .nil passL hab
end Kn

set_option Elab.async false
set_option maxRecDepth 100000
set_option linter.all false
namespace Kn
open PySem L2 PySem.Spec
/-! ### operators of own classes: o[i], o[i] = v, i in o -/
/-- an operator of the class at C -/
structure Ox (P : Program) (w : World) (K : PySem.W.Frag) (mg : Str → Option Value) (base : Heap) (C : Addr) (m : Str) (k : Nat) (ps : List Str) (sp : Sp) : Prop where
  ex : ∃ (f : Addr) (fd : FuncData), FnOk P w K mg base (L2.CX P w) k f fd ps sp ∧ Meth K C m f ∧ Binds K fd ps [] ∧ PySem.W.fnIn K f = true ∧ PySem.W.noSeq K C = true
theorem FunC.fnIn {K : PySem.W.Frag} {m qual : Str} {st : Stmt} {f : Addr} {fd : FuncData} (F : FunC K m qual st f fd) : PySem.W.fnIn K f = true := by
  obtain ⟨dv, kw, F⟩ := F
  obtain ⟨⟨_, _, _, _, _, _, _, _, _, _, e, l, _⟩, _⟩ := F
  unfold PySem.W.fnIn
  rw [l]
theorem Mz.okO {P : Program} {w : World} {K : PySem.W.Frag} {mg : Str → Option Value} {base : Heap} {C : Addr} {m qual : Str} {st : Stmt} {ps N : List Str} {k : Nat} {sp : Sp} (F : Mz K C m qual st ps []) (ns : PySem.W.noSeq K C = true) (S : FnScope N ps (defScope st)) (len : ∀ vs H Q E, sp vs H Q E → vs.length = ps.length)
    (hbody : ∀ (f : Addr) (cdv : Value) (A : Around) (outer : List Env) (s : Shared) (H : Hp) (vs : List V) (Q : VK) (E : XK), Room k (A.deeper (PyProof.Rows.envOfC qual (defScope st) s.heap.objs.size f cdv)) → sp vs H Q E →
      ∃ t, PSs (cxOf (L2.CX P w) P w K mg base N qual (defScope st) f cdv A outer s H E) (defBody st) t ∧ t { nx := fun _ H' => Q .non H', rt := Q } (start N vs) H) : Ox P w K mg base C m (k + 1) ps sp := by
  obtain ⟨f, fd, ds, F1, m, b, v⟩ := F.ex
  cases v
  exact ⟨f, fd, F1.okX S len (hbody f), m, b, F1.fnIn, ns⟩
section
variable {X : Cx} {k : Nat} {C : Addr} {ps : List Str} {sp : Sp} {m : Str} {pos pos' : Pos} {o i value : Expr} {to ti tv : TE} {W : WX}
theorem run_in1 {CX : CXT} {k : Nat} {f : Addr} {fd : FuncData} {ps : List Str} {sp : Sp} {dvs : List V} {ds : List Value} {E : St → XK} {pins : List (Addr × Obj)} {σ : St} {H : Hp} {s : Shared} {Q : VK} {us : List Value} {vs : List V} (F : FnOk X.prog X.w X.K X.mg X.base CX k f fd ps sp) (hr : Room (k + 1) X.A) (hb : Binds X.K fd ps ds) (hd : Vals dvs ds) (hx : PassesAt CX X σ (E σ))
    (I : Inv X pins σ H s) (r : Vals vs us) (h : sp (vs ++ dvs) H Q (E σ)) : wpAny (model X.prog X.w) X.A.in1 (call (.ref f) us) (EP X pins σ Q) X.xe s := by
  have r2 : Vals (vs ++ dvs) (us ++ ds) := r.append hd
  have hl : (us ++ ds).length = ps.length := by rw [← r2.length]; exact F.len _ _ _ _ h
  refine wpAny_call (codeAny_mono (F.run X.A.in1 X.stack s H ⟨us, []⟩ (us ++ ds) (vs ++ dvs) Q (E σ) hr.in1 I.env0.in1 (hb s us I.kIn hl) r2 h) fun r s' hq => ?_)
  cases r with
  | error e => exact hx pins H s e s' I hq
  | ok fl =>
    cases fl with
    | ret u => exact I.after hq
    | next => exact False.elim hq
    | brk => exact False.elim hq
    | cont => exact False.elim hq
def tOGet (C : Addr) (sp : Sp) (E : St → XK) (to ti : TE) : TE := fun σ H Q => to σ H fun x H1 => ti σ H1 fun y H2 => ∃ a dx fs, x = .ref a ∧ H2 a = some (.ins C dx fs) ∧ sp [x, y] H2 Q (E σ)
/-- o[i] -/
theorem ogetX (tk : Takes X W) (M : Ox X.prog X.w X.K X.mg X.base C "__getitem__" k ps sp) (hr : Room (k + 1) X.A) (ho : PE X o to) (hi : PE X i ti)
    (hsl : ∀ u iv, subscripted i true u iv = runValue (.builtin "lifetime.subscript" ⟨[u, iv], []⟩) := by intro _ _; rfl) : PE X (.Subscript o i pos) (tOGet C sp (WE W) to ti) := by
  obtain ⟨f, fd, F, hm, hb, hf, ns⟩ := M.ex
  refine ⟨fun pins s σ H Q I h => ?_⟩
  refine PyProof.Rows.Subscript_ (thn (ho.run pins s σ H _ I h) fun u s1 ⟨x, H1, I1, rx, q1⟩ => thn (hi.run pins s1 σ H1 _ I1 q1) fun iv s2 ⟨y, H2, I2, ry, a, dx, fs, ex, ha, q2⟩ => ?_)
  subst ex
  obtain rfl : u = Value.ref a := rx
  obtain ⟨mA, J, _⟩ := ins_get I2.hok ha
  obtain ⟨od, J, _⟩ := J.look
  obtain ⟨m, hF⟩ := I2.fr
  exact PySem.W.sub_K hF I2.ok.mod.kin J hm.at_ hf hm.fn (run_in1 (E := WE W) (us := [.ref a, iv]) (vs := [.ref a, y]) (dvs := []) F hr hb .nil (passAt tk σ) I2 (.cons rfl (.cons ry .nil)) q2) (hsl _ _)
def sOSet (C : Addr) (sp : Sp) (E : St → XK) (to ti tv : TE) : TS := fun D σ H => tv σ H fun v H1 => to σ H1 fun x H2 => ti σ H2 fun y H3 => ∃ a dx fs, x = .ref a ∧ H3 a = some (.ins C dx fs) ∧ sp [x, y, v] H3 (fun _ H' => D.nx σ H') (E σ)
/-- o[i] = v -/
theorem osetX (tk : Takes X W) (M : Ox X.prog X.w X.K X.mg X.base C "__setitem__" k ps sp) (hr : Room k X.A) (ho : PE X o to) (hi : PE X i ti) (hv : PE X value tv) (hs : swapsWith value (some (.Subscript o i pos')) pos.line X.env = pure false := by rfl) :
    PS X (.Assign [.Subscript o i pos'] value pos) (sOSet C sp (WE W) to ti tv) := by
  obtain ⟨f, fd, F, hm, hb, hf, ns⟩ := M.ex
  refine ⟨fun pins s σ H D I h => ?_⟩
  refine wpAny_Assign_Subscript (thn (hv.run pins s σ H _ I h) fun r s1 ⟨v, H1, I1, rv, q1⟩ => thn (ho.run pins s1 σ H1 _ I1 q1) fun u s2 ⟨x, H2, I2, rx, q2⟩ => thn (hi.run pins s2 σ H2 _ I2 q2) fun iv s3 ⟨y, H3, I3, ry, a, dx, fs, ex, ha, q3⟩ => ?_) hs
  subst ex
  obtain rfl : u = Value.ref a := rx
  obtain ⟨mA, J, _⟩ := ins_get I3.hok ha
  obtain ⟨od, J, _⟩ := J.look
  obtain ⟨m, hF⟩ := I3.fr
  refine PySem.W.ksp_setItem hF I3.ok.mod.kin J ns hm.at_ hm.fn (thn (run_fnSD (E := WE W) (us := [.ref a, iv, r]) (vs := [.ref a, y, v]) (dvs := []) F hr hb .nil (passAt tk σ) I3 (.cons rfl (.cons ry (.cons rv .nil))) q3) fun z s4 ⟨zv, H4, I4, rz, q4⟩ => ?_)
  exact ⟨σ, H4, I4, q4⟩
def tOIn (C : Addr) (sp : Sp) (E : St → XK) (n : Bool) (ti to : TE) : TE := fun σ H Q => ti σ H fun y H1 => to σ H1 fun x H2 => ∃ a dx fs, x = .ref a ∧ H2 a = some (.ins C dx fs) ∧ sp [x, y] H2 (fun r H' => ∃ b, r = .bl b ∧ Q (.bl (if n then !b else b)) H') (E σ)
/-- i in o -/
theorem oinX (tk : Takes X W) (M : Ox X.prog X.w X.K X.mg X.base C "__contains__" k ps sp) (hr : Room k X.A) (hi : PE X i ti) (ho : PE X o to) : PC X .In i o (tOIn C sp (WE W) false ti to) := by
  obtain ⟨f, fd, F, hm, hb, hf, ns⟩ := M.ex
  refine ⟨fun pins s σ H Q I h => ?_⟩
  refine thn (hi.run pins s σ H _ I h) fun iv s1 ⟨y, H1, I1, ry, q1⟩ => thn (ho.run pins s1 σ H1 _ I1 q1) fun u s2 ⟨x, H2, I2, rx, a, dx, fs, ex, ha, q2⟩ => ?_
  subst ex
  obtain rfl : u = Value.ref a := rx
  obtain ⟨mA, J, _⟩ := ins_get I2.hok ha
  obtain ⟨od, J, _⟩ := J.look
  obtain ⟨m, hF⟩ := I2.fr
  refine PySem.W.in_K hF I2.ok.mod.kin J hm.at_ hm.fn (thn (run_fnSD (E := WE W) (us := [.ref a, iv]) (vs := [.ref a, y]) (dvs := []) F hr hb .nil (passAt tk σ) I2 (.cons rfl (.cons ry .nil)) q2) fun z s4 ⟨zv, H4, I4, rz, b, e, q4⟩ => ?_)
  subst e
  cases rz
  exact wpAny_truthy_bool ⟨.bl b, H4, I4, rfl, q4⟩
theorem onotinX (tk : Takes X W) (M : Ox X.prog X.w X.K X.mg X.base C "__contains__" k ps sp) (hr : Room k X.A) (hi : PE X i ti) (ho : PE X o to) : PC X .NotIn i o (tOIn C sp (WE W) true ti to) := by
  obtain ⟨f, fd, F, hm, hb, hf, ns⟩ := M.ex
  refine ⟨fun pins s σ H Q I h => ?_⟩
  refine thn (hi.run pins s σ H _ I h) fun iv s1 ⟨y, H1, I1, ry, q1⟩ => thn (ho.run pins s1 σ H1 _ I1 q1) fun u s2 ⟨x, H2, I2, rx, a, dx, fs, ex, ha, q2⟩ => ?_
  subst ex
  obtain rfl : u = Value.ref a := rx
  obtain ⟨mA, J, _⟩ := ins_get I2.hok ha
  obtain ⟨od, J, _⟩ := J.look
  obtain ⟨m, hF⟩ := I2.fr
  refine PySem.W.notIn_K hF I2.ok.mod.kin J hm.at_ hm.fn (thn (run_fnSD (E := WE W) (us := [.ref a, iv]) (vs := [.ref a, y]) (dvs := []) F hr hb .nil (passAt tk σ) I2 (.cons rfl (.cons ry .nil)) q2) fun z s4 ⟨zv, H4, I4, rz, b, e, q4⟩ => ?_)
  subst e
  cases rz
  exact wpAny_truthy_bool ⟨.bl (!b), H4, I4, rfl, q4⟩
end
end Kn

set_option Elab.async false
set_option maxRecDepth 100000
set_option linter.all false
namespace Kn
open PySem L2 PySem.Spec
/-! ### for x in o, o of an own class whose __iter__ says iter(self.f), f a dict -/
def KItO (d it : Addr) (n ep : Nat) : HO := .ext fun h => h.IsKeyIter it d 0 n ep
theorem kItO_ok {P : Program} {w : World} {H : Hp} {h : Heap} {d it : Addr} {n ep : Nat} (e : h.IsKeyIter it d 0 n ep) : ObjOk P w H h it (KItO d it n ep) :=
  ⟨e, let ⟨o, ho, _⟩ := e; ⟨o, ho⟩, fun h1 h2 q k => let ⟨o, ho, r⟩ := q; ⟨o, k o ho, r⟩⟩
def rIterK (n : Nat) : List V → Hp → VK → Prop := fun xs H Q => ∃ d o kvs, xs = [.ref d] ∧ H d = some (.frz o (.dK kvs)) ∧ ∀ it es ep, H it = none → n ≤ it → o.data = .dict es ep → Q (.ref it) (upd H it (KItO d it kvs.length ep))
theorem call_iterD {prog : Program} {w : World} {A : Around} {E : Value → Shared → Prop} {s : Shared} {d : Addr} {o : Obj} {es : Array DictEntry} {ep : Nat} {Q : Value → Shared → Prop} (hd : (d == sysModules) = false) (ho : s.heap.get? d = some o) (hc : o.ExactDict) (hdat : o.data = .dict es ep)
    (hQ : Q (.ref s.heap.objs.size) { s with heap := s.heap.push { cls := .type "dict_keyiterator", data := .fields #[.ref d, .int 0 0, .int es.size 0, .int ep 0] } }) : wpAny (model prog w) A (call (.builtin "iter") [.ref d]) Q E s := by
  refine Calls.call_function_entry (by decide +kernel) (by decide +kernel) PySem.W.kdk_entry_iter (PySem.W.kdk_args_iter _) ?_
  unfold Builtin.«iter»
  refine wpAny_bind (m := someArgs "iter" 1 2 _) (wpAny_of_eq (a := [Value.ref d]) (by first | rfl | kernel_rfl!) ?_)
  show wpAny _ _ (pyIter (.ref d) >>= _) _ _ _
  refine wpAny_bind (iter_keys hd ho hc hdat ?_)
  exact wpAny_pure ⟨_, rfl, hQ⟩
theorem call_iterK {X : Cx} : CallR X (.builtin "iter") (rIterK X.s_0.heap.objs.size) := by
  intro pins s σ H xs us Q I r h
  obtain ⟨d, o, kvs, rfl, hd, q⟩ := h
  obtain ⟨u, rfl, ru⟩ := vals1 r
  cases ru
  obtain ⟨hs, hgd, hx, es, ep, vs, hdt, hsz, kv, hm⟩ := I.frzK hd
  refine call_iterD hs hgd hx hdt ?_
  refine ⟨.ref s.heap.objs.size, _, I.laid (t' := s.toks) (fun b u e => Heap.get?_push_of_some _ e) (Nat.le_refl _) (kItO_ok ⟨_, Heap.get?_push_size _ rfl, rfl, ?_⟩), rfl, q _ es ep (I.hok.fresh (Nat.le_refl _)) I.sz hdt⟩
  rw [hsz] <;> rfl
/-- the text of __iter__: return iter(self.f) -/
structure Itz (P : Program) (w : World) (K : PySem.W.Frag) (mg : Str → Option Value) (base : Heap) (C : Addr) (fld : Str) (k : Nat) : Prop where
  ex : ∃ (f : Addr) (fd : FuncData) (qual : Str) (st : Stmt) (ps N : List Str), FunC K "__iter__" qual st f fd ∧ Meth K C "__iter__" f ∧ Binds K fd ps [] ∧ FnScope N ps (defScope st) ∧ ps.length = 1 ∧
    ∀ (cdv : Value) (A : Around) (outer : List Env) (s : Shared) (H : Hp) (E : XK), Room k (A.deeper (PyProof.Rows.envOfC qual (defScope st) s.heap.objs.size f cdv)) →
      ∃ t, PSs (cxOf (L2.CX P w) P w K mg base N qual (defScope st) f cdv A outer s H E) (defBody st) t ∧ ∀ (a dx d : Addr) (fs : List (Str × V)) (o : Obj) (kvs : List (Key × V)) (Q : VK), H a = some (.ins C dx fs) → fs.lookup fld = some (.ref d) → H d = some (.frz o (.dK kvs)) →
        (∀ it es ep, H it = none → s.heap.objs.size ≤ it → o.data = .dict es ep → Q (.ref it) (upd H it (KItO d it kvs.length ep))) → t { nx := fun _ H' => Q .non H', rt := Q } (start N [.ref a]) H
def iOwnK (C : Addr) (fld : Str) (te : TE) : TI := fun σ H R => te σ H fun x H1 => ∃ a dx fs d o kvs, x = .ref a ∧ H1 a = some (.ins C dx fs) ∧ fs.lookup fld = some (.ref d) ∧ H1 d = some (.frz o (.dK kvs)) ∧ R (Itk d o kvs) H1
/-- one call at one entry -/
theorem run_at {CX : CXT} {P : Program} {w : World} {K : PySem.W.Frag} {mg : Str → Option Value} {base : Heap} {k : Nat} {f : Addr} {m qual : Str} {st : Stmt} {fd : FuncData} {N ps : List Str} {A : Around} {outer : List Env} {s : Shared} {H : Hp} {us : List Value} {vs : List V} {Q : VK} {E : XK} (F : FunC K m qual st f fd) (S : FnScope N ps (defScope st))
    (hr : Room (k + 1) A) (e0 : Env0 P w K mg base A outer s H) (hb : BindsTo s fd ⟨us, []⟩ (ps.zip us)) (r : Vals vs us) (hl : vs.length = ps.length)
    (hbody : ∀ cdv, Room k (A.deeper (PyProof.Rows.envOfC qual (defScope st) s.heap.objs.size f cdv)) → ∃ t, PSs (cxOf CX P w K mg base N qual (defScope st) f cdv A outer s H E) (defBody st) t ∧ t { nx := fun _ H' => Q .non H', rt := Q } (start N vs) H) :
    codeAny (model P w) A (.call (.ref f) ⟨us, []⟩) (CR CX outer P w H s Q E) s := by
  obtain ⟨dv, kw, F⟩ := F
  obtain ⟨oc, od, dV, kV, doc, pm, an, cdv, ct, osl, rfl, lk, hcd, _, _⟩ := F.ex
  have KX : K.In s.heap := e0.mod.kin.keeps fun b o e => (e0.bs b o e).1
  have lim : s.heap.NoLimit := e0.mod.nolimit.keeps fun b o e => (e0.bs b o e).1
  refine codeAny_call_function hr.depth (KX _ _ lk) rfl S.co S.gen rfl (PySem.W.codeRec_of KX hcd) (hb _ _ _ _ ?_)
  refine wpAny_newFunctionEnv_cells S.kind (fun ⟨n, v⟩ hy => ?_) fun env he s1 x => ?_
  · rcases S.par n (List.of_mem_zip hy).1 with q | q
    · exact .inl q
    · exact .inr ⟨q, PySem.W.cellsFrom_some _ _ _ (.inl q)⟩
  subst he
  refine ⟨lim.keeps x.toInCall.keep, codeAny_func ?_⟩
  obtain ⟨t, ht, hq⟩ := hbody cdv (hr.deeper _)
  have I : Inv (cxOf CX P w K mg base N qual (defScope st) f cdv A outer s H E) [] (start N vs) H s1 := inv_start S hr.hd e0 hl r x
  refine wpAny_mono (ht.run [] s1 (start N vs) H _ I hq) (fun fl s' hs => ?_) fun e s' hs => hs
  cases fl with
  | ret u =>
    obtain ⟨v, σ', H', J, rv, q⟩ := hs
    exact ⟨v, H', J.os, J.bare, J.base, J.hok, rv, q⟩
  | next =>
    obtain ⟨σ', H', J, q⟩ := hs
    exact ⟨V.non, H', J.os, J.bare, J.base, J.hok, rfl, q⟩
  | brk => exact hs.elim (fun _ h => h.elim fun _ h => h.2.elim)
  | cont => exact hs.elim (fun _ h => h.elim fun _ h => h.2.elim)
theorem pi_ownK {X : Cx} {tg e : Expr} {te : TE} {C : Addr} {fld : Str} {k : Nat} (M : Itz X.prog X.w X.K X.mg X.base C fld k) (hr : Room (k + 1) X.A) (he : PE X e te) : PI X tg e (iOwnK C fld te) := by
  obtain ⟨f, fd, qual, st, ps, N, F, hm, hb, S, hp1, hbody⟩ := M.ex
  refine ⟨fun pins s σ H R I h => ?_⟩
  refine thn (he.run pins s σ H _ I h) fun u s1 ⟨x, H1, I1, rx, a, dx, fs, d, o, kvs, ex, ha, hfl, hd, q⟩ => ?_
  subst ex
  obtain rfl : u = Value.ref a := rx
  obtain ⟨mA, J, _⟩ := ins_get I1.hok ha
  obtain ⟨od, J, _⟩ := J.look
  obtain ⟨m, hF⟩ := I1.fr
  obtain ⟨hs, hgd, hx, es, ep, vs, hdt, hsz, kv, hmm⟩ := I1.frzK hd
  refine PySem.W.owit_iter hF I1.ok.mod.kin J hm.at_ hm.fn ?_
  refine wpAny_call (codeAny_mono (run_at (CX := L2.CX X.prog X.w) (A := X.A) (outer := X.stack) (s := s1) (H := H1) (us := [.ref a]) (vs := [.ref a]) (Q := fun v H' => ∃ it, v = .ref it ∧ H1 it = none ∧ s1.heap.objs.size ≤ it ∧ H' = upd H1 it (KItO d it kvs.length ep)) (E := fun _ _ _ => False) F S hr I1.env0 (by
    have := hb s1 [.ref a] I1.kIn (by simpa using hp1.symm)
    simpa using this) (.cons rfl .nil) (by simpa using hp1.symm) (fun cdv hr' => by
      obtain ⟨t, ht, hq⟩ := hbody cdv X.A X.stack s1 H1 _ hr'
      refine ⟨t, ht, hq a dx d fs o kvs (fun v H' => ∃ it, v = .ref it ∧ H1 it = none ∧ s1.heap.objs.size ≤ it ∧ H' = upd H1 it (KItO d it kvs.length ep)) ha hfl hd fun it es' ep' h1 h2 h3 => ⟨it, rfl, h1, h2, ?_⟩⟩
      rw [(dict_ep hdt h3).2])) fun r s' hq => ?_)
  cases r with
  | error e =>
    obtain ⟨a', B, H', cls, d', rfl, fl, hok, ub, na, os, ag, hE⟩ := hq
    exact hE.elim
  | ok fl =>
    cases fl with
    | ret u =>
      obtain ⟨v, H', os, bare, un, hok, rv, it, rfl, hn, hy, rfl⟩ := hq
      cases rv
      obtain ⟨hh, g, dd, t, os'⟩ := s'
      obtain rfl : os' = s1.os := os
      have I2 := I1.call (h' := hh) (g' := g) (d' := dd) (t' := t) (ch := []) un hok bare (fun b z => absurd z (by simp))
      have hit : (upd H1 it (KItO d it kvs.length ep)) it = some (KItO d it kvs.length ep) := upd_same
      have st : hh.IsKeyIter it d 0 kvs.length ep := (I2.hok it _ hit).1
      have young : X.s_0.heap.objs.size ≤ it := Nat.le_trans I1.sz hy
      have hit' := hit
      unfold KItO at hit'
      have I3 := ItX.inv_drop I2 hit'
      have fp := ItX.inv_fp I2 hit young
      rw [ItX.dropH_upd hn] at I3 fp
      unfold PySem.W.OwitIt
      refine wpAny_specialOf (T := "dict_keyiterator") (Heap.IsKeyIter.typeIs (s := ⟨hh, g, dd, t, s1.os⟩) st) PySem.F.slot_dict_keyiterator_next.lookup ?_
      refine ⟨it, [it], _, _, H1, rfl, I3, turn_keys it hdt, st, fun b hb => ?_, q⟩
      rw [List.mem_singleton.mp hb]
      exact fp
    | next => exact False.elim hq
    | brk => exact False.elim hq
    | cont => exact False.elim hq
end Kn

set_option Elab.async false
set_option maxRecDepth 100000
set_option linter.all false
namespace Kn
open PySem L2 PySem.Spec
/-- the text of __iter__: return iter(self.g.f), g an instance of an own class -/
structure Itz2 (P : Program) (w : World) (K : PySem.W.Frag) (mg : Str → Option Value) (base : Heap) (C : Addr) (f1 : Str) (C2 : Addr) (fld : Str) (k : Nat) : Prop where
  ex : ∃ (f : Addr) (fd : FuncData) (qual : Str) (st : Stmt) (ps N : List Str), FunC K "__iter__" qual st f fd ∧ Meth K C "__iter__" f ∧ Binds K fd ps [] ∧ FnScope N ps (defScope st) ∧ ps.length = 1 ∧
    ∀ (cdv : Value) (A : Around) (outer : List Env) (s : Shared) (H : Hp) (E : XK), Room k (A.deeper (PyProof.Rows.envOfC qual (defScope st) s.heap.objs.size f cdv)) →
      ∃ t, PSs (cxOf (L2.CX P w) P w K mg base N qual (defScope st) f cdv A outer s H E) (defBody st) t ∧ ∀ (a dx a2 dx2 d : Addr) (fs fs2 : List (Str × V)) (o : Obj) (kvs : List (Key × V)) (Q : VK), H a = some (.ins C dx fs) → fs.lookup f1 = some (.ref a2) → H a2 = some (.ins C2 dx2 fs2) → fs2.lookup fld = some (.ref d) → H d = some (.frz o (.dK kvs)) →
        (∀ it es ep, H it = none → s.heap.objs.size ≤ it → o.data = .dict es ep → Q (.ref it) (upd H it (KItO d it kvs.length ep))) → t { nx := fun _ H' => Q .non H', rt := Q } (start N [.ref a]) H
theorem pi_ownK2 {X : Cx} {tg e : Expr} {te : TE} {C C2 : Addr} {f1 fld : Str} {k : Nat} (M : Itz2 X.prog X.w X.K X.mg X.base C f1 C2 fld k) (hr : Room (k + 1) X.A) (he : PE X e te) : PI X tg e (iOwnK C2 fld (tFldC C f1 te)) := by
  obtain ⟨f, fd, qual, st, ps, N, F, hm, hb, S, hp1, hbody⟩ := M.ex
  refine ⟨fun pins s σ H R I h => ?_⟩
  refine thn (he.run pins s σ H _ I h) fun u s1 ⟨x, H1, I1, rx, a, dx, fs, v, ex, ha, hf1, a2, dx2, fs2, d, o, kvs, ev, ha2, hfl, hd, q⟩ => ?_
  subst ex
  subst ev
  obtain rfl : u = Value.ref a := rx
  obtain ⟨mA, J, _⟩ := ins_get I1.hok ha
  obtain ⟨od, J, _⟩ := J.look
  obtain ⟨m, hF⟩ := I1.fr
  obtain ⟨hs, hgd, hx, es, ep, vs, hdt, hsz, kv, hmm⟩ := I1.frzK hd
  refine PySem.W.owit_iter hF I1.ok.mod.kin J hm.at_ hm.fn ?_
  refine wpAny_call (codeAny_mono (run_at (CX := L2.CX X.prog X.w) (A := X.A) (outer := X.stack) (s := s1) (H := H1) (us := [.ref a]) (vs := [.ref a]) (Q := fun v H' => ∃ it, v = .ref it ∧ H1 it = none ∧ s1.heap.objs.size ≤ it ∧ H' = upd H1 it (KItO d it kvs.length ep)) (E := fun _ _ _ => False) F S hr I1.env0 (by
    have := hb s1 [.ref a] I1.kIn (by simpa using hp1.symm)
    simpa using this) (.cons rfl .nil) (by simpa using hp1.symm) (fun cdv hr' => by
      obtain ⟨t, ht, hq⟩ := hbody cdv X.A X.stack s1 H1 _ hr'
      refine ⟨t, ht, hq a dx a2 dx2 d fs fs2 o kvs (fun v H' => ∃ it, v = .ref it ∧ H1 it = none ∧ s1.heap.objs.size ≤ it ∧ H' = upd H1 it (KItO d it kvs.length ep)) ha hf1 ha2 hfl hd fun it es' ep' h1 h2 h3 => ⟨it, rfl, h1, h2, ?_⟩⟩
      rw [(dict_ep hdt h3).2])) fun r s' hq => ?_)
  cases r with
  | error e =>
    obtain ⟨a', B, H', cls, d', rfl, fl, hok, ub, na, os, ag, hE⟩ := hq
    exact hE.elim
  | ok fl =>
    cases fl with
    | ret u =>
      obtain ⟨v, H', os, bare, un, hok, rv, it, rfl, hn, hy, rfl⟩ := hq
      cases rv
      obtain ⟨hh, g, dd, t, os'⟩ := s'
      obtain rfl : os' = s1.os := os
      have I2 := I1.call (h' := hh) (g' := g) (d' := dd) (t' := t) (ch := []) un hok bare (fun b z => absurd z (by simp))
      have hit : (upd H1 it (KItO d it kvs.length ep)) it = some (KItO d it kvs.length ep) := upd_same
      have st : hh.IsKeyIter it d 0 kvs.length ep := (I2.hok it _ hit).1
      have young : X.s_0.heap.objs.size ≤ it := Nat.le_trans I1.sz hy
      have hit' := hit
      unfold KItO at hit'
      have I3 := ItX.inv_drop I2 hit'
      have fp := ItX.inv_fp I2 hit young
      rw [ItX.dropH_upd hn] at I3 fp
      unfold PySem.W.OwitIt
      refine wpAny_specialOf (T := "dict_keyiterator") (Heap.IsKeyIter.typeIs (s := ⟨hh, g, dd, t, s1.os⟩) st) PySem.F.slot_dict_keyiterator_next.lookup ?_
      refine ⟨it, [it], _, _, H1, rfl, I3, turn_keys it hdt, st, fun b hb => ?_, q⟩
      rw [List.mem_singleton.mp hb]
      exact fp
    | next => exact False.elim hq
    | brk => exact False.elim hq
    | cont => exact False.elim hq
end Kn

set_option Elab.async false
set_option maxRecDepth 100000
set_option linter.all false
namespace Kn
open PySem L2 PySem.Spec PySem.Calls PyProof.Rows
/-! ### x += e, x of an own class with __iadd__ -/
section
variable {prog : Program} {w : World} {A : Around} {E : Value → Shared → Prop} {s : Shared} {K : PySem.W.Frag} {x C L f : Addr} {h₀ : Heap} {m : Str → Option Value} {ox : Obj} {od : Option Obj}
theorem fillsI_K {M : Model} {h : Heap} {nm : String} {add : Bool} {cd : ClassData} {rest : List Value} (X : K.In h) (hc : PySem.W.clsIn K C = some cd) (hm : cd.mro = .ref C :: rest) (hs : PySem.W.findIn K (.ref C) (PySem.dunderI nm) = some (some (.ref f))) : PySem.W.Looks M h (fillsInplaceSlot (.ref C) nm add) true := by
  intro A Q E s k q
  unfold fillsInplaceSlot
  dsimp only
  refine wpAny_bind ((PySem.W.looks_clsIn X hc).andThen (f := fun cd => pure cd.mro) .now A _ E s k ?_)
  rw [hm, List.anyM_cons]
  refine wpAny_bind (wpAny_bind (PySem.W.looks_findIn X hs A _ E s k ?_))
  dsimp only
  rw [if_pos (show (!ownNameWrapper (.ref f) (PySem.dunderI nm)) = true from rfl)]
  refine wpAny_pure ?_
  rw [if_pos rfl]
  exact wpAny_pure q
theorem inplace_K {op : Operator} {b : Value} {Q : Value → Shared → Prop} (F : Fr h₀ L s.heap m) (X₀ : K.In h₀) (I : PySem.W.InstAt s.heap x ox C od) (hc : PySem.W.selfFirst K C = true)
    (hs : PySem.W.findIn K (.ref C) (PySem.dunderI op.info.2) = some (some (.ref f))) (hf : PySem.W.isFn K (.ref f) = true)
    (h : wpAny (model prog w) A (call (.ref f) [.ref x, b]) (PySem.W.CmpBack Q) E s) : wpAny (model prog w) A (inplaceOp op (.ref x) b) Q E s := by
  have X := X₀.keeps F.keep
  obtain ⟨cd, hcd, hm⟩ := PySem.W.any_some hc
  obtain ⟨rest, hm⟩ : ∃ rest, cd.mro = .ref C :: rest := by
    cases q : cd.mro with
    | nil => rw [q] at hm; cases hm
    | cons a r => rw [q] at hm; exact ⟨r, by rw [List.head?_cons] at hm; cases (beq_iff_eq.mp hm); rfl⟩
  unfold inplaceOp
  refine wpAny_holding (wpAny_bind (I.type.here (wpAny_bind ((fillsI_K X hcd hm hs).here ?_))))
  rw [if_pos rfl]
  refine wpAny_bind (m := tryMethod (.ref x) _ b) ?_
  unfold tryMethod
  refine wpAny_bind (PySem.W.special_fn X I hs (beq_iff_eq.mp hf) (wpAny_mono h (fun v s' hv => ?_) fun _ _ e => e))
  cases v <;> first | exact hv.elim | exact wpAny_pure (wpAny_bind (wpAny_rule (wpAny_pure hv)))
end
def rIpO (C : Addr) (sp : Sp) : TIp := fun x y H Q => ∃ a dx fs, x = .ref a ∧ H a = some (.ins C dx fs) ∧ sp [x, y] H (fun r H' => ∃ b, r = .ref b ∧ Q r H') (fun _ _ _ => False)
theorem ip_own {X : Cx} {k : Nat} {C : Addr} {ps : List Str} {sp : Sp} (M : Ox X.prog X.w X.K X.mg X.base C "__iadd__" k ps sp) (sf : PySem.W.selfFirst X.K C = true) (hr : Room k X.A) : PIp X .Add (rIpO C sp) := by
  obtain ⟨f, fd, F, hm, hb, hf, ns⟩ := M.ex
  intro pins s σ H x y u v Q I rx ry h
  obtain ⟨a, dx, fs, rfl, ha, q⟩ := h
  obtain rfl : u = Value.ref a := rx
  obtain ⟨mA, J, _⟩ := ins_get I.hok ha
  obtain ⟨od, J, _⟩ := J.look
  obtain ⟨m, hF⟩ := I.fr
  refine inplace_K hF I.ok.mod.kin J sf hm.at_ hm.fn (thn (run_fnSD (E := fun _ _ _ _ => False) (us := [.ref a, v]) (vs := [.ref a, y]) (dvs := []) F hr hb .nil (fun _ _ _ _ _ _ hq => by
    obtain ⟨a', B, H', cls, d', rfl, fl, hok, ub, na, os, ag, hE⟩ := hq
    exact hE.elim) I (.cons rfl (.cons ry .nil)) q) fun z s4 ⟨zv, H4, I4, rz, b, e, q4⟩ => ?_)
  subst e
  cases rz
  exact ⟨.ref b, H4, I4, rfl, q4⟩
end Kn

set_option Elab.async false
set_option maxRecDepth 100000
set_option linter.all false
namespace Kn
open PySem L2 PySem.Spec
/-! ### o.m(e, .., k = v, ..), m of an own class -/
/-- a method called with n positional values (the object among them) and the keywords ks: the parameters are the values, then the keywords' -/
structure MzK (K : PySem.W.Frag) (C : Addr) (m qual : Str) (st : Stmt) (ps : List Str) (n : Nat) (ks : List Str) : Prop where
  ex : ∃ (f : Addr) (fd : FuncData), FunC K m qual st f fd ∧ Meth K C m f ∧ KBn K fd ps n ks (fun us ws => us ++ ws) (fun vs zs => vs ++ zs)
structure MxK (P : Program) (w : World) (K : PySem.W.Frag) (mg : Str → Option Value) (base : Heap) (C : Addr) (m : Str) (k : Nat) (ps : List Str) (n : Nat) (ks : List Str) (sp : Sp) : Prop where
  ex : ∃ (f : Addr) (fd : FuncData), FnOk P w K mg base (L2.CX P w) k f fd ps sp ∧ Meth K C m f ∧ KBn K fd ps n ks (fun us ws => us ++ ws) (fun vs zs => vs ++ zs)
theorem MzK.okX {P : Program} {w : World} {K : PySem.W.Frag} {mg : Str → Option Value} {base : Heap} {C : Addr} {m qual : Str} {st : Stmt} {ps N : List Str} {n : Nat} {ks : List Str} {k : Nat} {sp : Sp} (F : MzK K C m qual st ps n ks) (S : FnScope N ps (defScope st)) (len : ∀ vs H Q E, sp vs H Q E → vs.length = ps.length)
    (hbody : ∀ (f : Addr) (cdv : Value) (A : Around) (outer : List Env) (s : Shared) (H : Hp) (vs : List V) (Q : VK) (E : XK), Room k (A.deeper (PyProof.Rows.envOfC qual (defScope st) s.heap.objs.size f cdv)) → sp vs H Q E →
      ∃ t, PSs (cxOf (L2.CX P w) P w K mg base N qual (defScope st) f cdv A outer s H E) (defBody st) t ∧ t { nx := fun _ H' => Q .non H', rt := Q } (start N vs) H) : MxK P w K mg base C m (k + 1) ps n ks sp := by
  obtain ⟨f, fd, F1, m, b⟩ := F.ex
  exact ⟨f, fd, F1.okX S len (hbody f), m, b⟩
def tMethK (C : Addr) (m : Str) (sp : Sp) (n nk : Nat) (E : St → XK) (ta : TE) (t tk : TA) : TE := fun σ H Q => ta σ H fun x H1 => ∃ a dx fs, x = .ref a ∧ H1 a = some (.ins C dx fs) ∧ fs.lookup m = none ∧
  t σ H1 fun vs H2 => tk σ H2 fun zs H3 => vs.length + 1 = n ∧ zs.length = nk ∧ sp (x :: (vs ++ zs)) H3 Q (E σ)
section
variable {X : Cx} {k n : Nat} {C : Addr} {ps ks : List Str} {sp : Sp} {m : Str} {pos apos : Pos} {e o : Expr} {es : List Expr} {kws : List Keyword} {ta : TE} {t tkk : TA} {W : WX}
theorem mcallKX {pl : Sem Bool} (tk : Takes X W) (c : Cls X.K C) (M : MxK X.prog X.w X.K X.mg X.base C m k ps n ks sp) (hr : Room k X.A) (he : PE X o ta) (ha : PA X (e :: es) t) (hkw : PK X kws tkk)
    (hall : (backToKw pos (keywordEach kws X.env)).all (·.1.isSome) = true := by rfl) (hks : (backToKw pos (keywordEach kws X.env)).filterMap (·.1) = ks := by rfl)
    (hst : starEach (e :: es) X.env = (false, eval e X.env) :: starEach es X.env := by rfl) (hpl : ((backTo pos (starEach (e :: es) X.env)).any (·.1) || (backToKw pos (keywordEach kws X.env)).any (·.1.isNone)) = false := by rfl)
    (ht : eval (.Call (.Attribute o m apos) (e :: es) kws pos) X.env = (do
      let ov ← eval o X.env
      standAt apos.atName
      let (f, first) ← holding [ov] (getMethod ov m pl)
      callWith pos f first (backTo pos (starEach (e :: es) X.env)) (backToKw pos (keywordEach kws X.env))) := by rfl) :
    PE X (.Call (.Attribute o m apos) (e :: es) kws pos) (tMethK C m sp n ks.length (WE W) ta t tkk) := by
  obtain ⟨f, fd, F, hm, hb⟩ := M.ex
  refine ⟨fun pins s σ H Q I h => ?_⟩
  refine PySem.W.methodCall_KW (pl := pl) (thn (he.run pins s σ H _ I h) fun u s1 ⟨x, H1, I1, rx, a, dx, fs, ex, ea, l, q⟩ => ?_) ht
  subst ex
  obtain rfl : u = Value.ref a := rx
  refine getmeth_ok I1 ea c hm l ?_
  refine PySem.W.callWith_KW (first := [.ref a]) (h₀ := X.base) I.ok.mod.kin hm.kp hall (thn (ha.run pos pins s1 σ H1 _ I1 q) fun us s2 ⟨vs, H2, I2, r, q2⟩ => ?_) hpl hst
  refine thn (hkw.run pos pins s2 σ H2 _ I2 q2) fun ws s3 ⟨zs, H3, I3, rz, l1, l2, q3⟩ => ⟨I3.kIn, ?_⟩
  rw [hks]
  have r2 : Vals (V.ref a :: vs) (Value.ref a :: us) := .cons rfl r
  have r3 := hb.rel r2 rz
  have lu : (Value.ref a :: us).length = n := by rw [← r2.length]; exact l1
  have lw : ws.length = ks.length := by rw [← rz.length]; exact l2
  refine wpAny_call (codeAny_mono (F.run X.A X.stack s3 H3 ⟨Value.ref a :: us, ks.zip ws⟩ _ _ Q (WE W σ) hr I3.env0 (hb.to s3 (Value.ref a :: us) ws I3.kIn lu lw) r3 q3) fun r s' hq => ?_)
  cases r with
  | error e => exact passAt tk σ pins H3 s3 e s' I3 hq
  | ok fl =>
    cases fl with
    | ret u => exact I3.after hq
    | next => exact False.elim hq
    | brk => exact False.elim hq
    | cont => exact False.elim hq
end
end Kn

set_option Elab.async false
set_option maxRecDepth 100000
set_option linter.all false
namespace Kn
open PySem L2 PySem.Spec PySem.Calls PyProof.Rows
/-! ### a <= b, a | b, a & b of two instances of one own class -/
def rBinO (C : Addr) (sp : Sp) : R2 := fun x y H Q => ∃ a dx fs b dy gs, x = .ref a ∧ H a = some (.ins C dx fs) ∧ y = .ref b ∧ H b = some (.ins C dy gs) ∧ sp [x, y] H Q (fun _ _ _ => False)
theorem back_of {Q : Value → Shared → Prop} {r : V} {z : Value} {s : Shared} (h : RelV r z) (q : Q z s) : PySem.W.CmpBack Q z s := by
  cases z <;> first | exact q | (exfalso; cases r <;> first | (obtain ⟨_, h⟩ := h; cases h) | cases h)
theorem op_leO {X : Cx} {k : Nat} {C : Addr} {ps : List Str} {sp : Sp} (M : Ox X.prog X.w X.K X.mg X.base C "__le__" k ps sp) (hu : X.A.units + 1 < cLine) (hr : Room k X.A) : OpR X (compareOp .LtE) (rBinO C sp) := by
  obtain ⟨f, fd, F, hm, hb, hf, ns⟩ := M.ex
  intro pins s σ H x y u v Q I rx ry h
  obtain ⟨a, dx, fs, b, dy, gs, rfl, ha, rfl, hb', q⟩ := h
  obtain rfl : u = Value.ref a := rx
  obtain rfl : v = Value.ref b := ry
  obtain ⟨mA, J, _⟩ := ins_get I.hok ha
  obtain ⟨od, J, _⟩ := J.look
  obtain ⟨mB, J2, _⟩ := ins_get I.hok hb'
  obtain ⟨od2, J2, _⟩ := J2.look
  obtain ⟨m, hF⟩ := I.fr
  refine PySem.W.cmp_K (op := .LtE) (by omega) hF I.ok.mod.kin J J2.type (by unfold PySem.W.notFirst; simp) hm.at_ hm.fn (thn (run_fnSD (E := fun _ _ _ _ => False) (us := [.ref a, .ref b]) (vs := [.ref a, .ref b]) (dvs := []) F hr hb .nil (fun _ _ _ _ _ _ hq => by
    obtain ⟨a', B, H', cls, d', rfl, fl, hok, ub, na, os, ag, hE⟩ := hq
    exact hE.elim) I (.cons rfl (.cons rfl .nil)) q) fun z s4 ⟨zv, H4, I4, rz, q4⟩ => ?_)
  exact back_of rz ⟨zv, H4, I4, rz, q4⟩
theorem op_orO {X : Cx} {k : Nat} {C : Addr} {ps : List Str} {sp : Sp} (M : Ox X.prog X.w X.K X.mg X.base C "__or__" k ps sp) (sf : PySem.W.selfFirst X.K C = true) (hr : Room k X.A) : OpR X (binaryOp .BitOr) (rBinO C sp) := by
  obtain ⟨f, fd, F, hm, hb, hf, ns⟩ := M.ex
  intro pins s σ H x y u v Q I rx ry h
  obtain ⟨a, dx, fs, b, dy, gs, rfl, ha, rfl, hb', q⟩ := h
  obtain rfl : u = Value.ref a := rx
  obtain rfl : v = Value.ref b := ry
  obtain ⟨mA, J, _⟩ := ins_get I.hok ha
  obtain ⟨od, J, _⟩ := J.look
  obtain ⟨mB, J2, _⟩ := ins_get I.hok hb'
  obtain ⟨od2, J2, _⟩ := J2.look
  obtain ⟨m, hF⟩ := I.fr
  refine PySem.W.binop_K (op := .BitOr) hF I.ok.mod.kin J J2.type sf hm.at_ hm.fn (thn (run_fnSD (E := fun _ _ _ _ => False) (us := [.ref a, .ref b]) (vs := [.ref a, .ref b]) (dvs := []) F hr hb .nil (fun _ _ _ _ _ _ hq => by
    obtain ⟨a', B, H', cls, d', rfl, fl, hok, ub, na, os, ag, hE⟩ := hq
    exact hE.elim) I (.cons rfl (.cons rfl .nil)) q) fun z s4 ⟨zv, H4, I4, rz, q4⟩ => ?_)
  exact back_of rz ⟨zv, H4, I4, rz, q4⟩
theorem op_andO {X : Cx} {k : Nat} {C : Addr} {ps : List Str} {sp : Sp} (M : Ox X.prog X.w X.K X.mg X.base C "__and__" k ps sp) (sf : PySem.W.selfFirst X.K C = true) (hr : Room k X.A) : OpR X (binaryOp .BitAnd) (rBinO C sp) := by
  obtain ⟨f, fd, F, hm, hb, hf, ns⟩ := M.ex
  intro pins s σ H x y u v Q I rx ry h
  obtain ⟨a, dx, fs, b, dy, gs, rfl, ha, rfl, hb', q⟩ := h
  obtain rfl : u = Value.ref a := rx
  obtain rfl : v = Value.ref b := ry
  obtain ⟨mA, J, _⟩ := ins_get I.hok ha
  obtain ⟨od, J, _⟩ := J.look
  obtain ⟨mB, J2, _⟩ := ins_get I.hok hb'
  obtain ⟨od2, J2, _⟩ := J2.look
  obtain ⟨m, hF⟩ := I.fr
  refine PySem.W.binop_K (op := .BitAnd) hF I.ok.mod.kin J J2.type sf hm.at_ hm.fn (thn (run_fnSD (E := fun _ _ _ _ => False) (us := [.ref a, .ref b]) (vs := [.ref a, .ref b]) (dvs := []) F hr hb .nil (fun _ _ _ _ _ _ hq => by
    obtain ⟨a', B, H', cls, d', rfl, fl, hok, ub, na, os, ag, hE⟩ := hq
    exact hE.elim) I (.cons rfl (.cons rfl .nil)) q) fun z s4 ⟨zv, H4, I4, rz, q4⟩ => ?_)
  exact back_of rz ⟨zv, H4, I4, rz, q4⟩
end Kn

set_option Elab.async false
set_option maxRecDepth 100000
set_option linter.all false
namespace Kn
open PySem L2 PySem.Spec PySem.Calls PyProof.Rows
/-! ### f"{x:<12}" of a text, f"{i:>3}" of a small number -/
def sp12 : Str := Str.ofString "<12"
def sp3 : Str := Str.ofString ">3"
def blanks (n : Nat) : Str := ⟨(List.replicate n 32).toArray⟩
def f12 : Builtin.Float.FormatSpec := ⟨32, 60, none, false, false, some 12, none, none, none⟩
section
variable {prog : Program} {w : World} {A : Around} {E : Value → Shared → Prop} {s : Shared} {t : Tok}
theorem fmt_s12 {x : Str} {Q : Value → Shared → Prop} (hl : x.length ≤ 12) (h : ∀ t' k, Q (.str (x ++ blanks (12 - x.length)) t') { s with toks := k }) : wpAny (model prog w) A (formatField (.str x t) sp12) Q E s := by
  refine PySem.W.KXf.field_str rfl rfl (by decide +kernel) (by decide +kernel) (fun u => ?_) h
  apply PySem.W.KPc.meets_of
  intro _ _ _ _ _ _ _
  unfold Builtin.«str.__format__»
  refine wpAny_bind (wpAny_of_eq (a := (_, _, _)) rfl ?_)
  refine wpAny_bind (wpAny_of_eq (a := some _) rfl ?_)
  dsimp only
  rw [if_neg (by decide +kernel), if_neg (by decide +kernel)]
  refine wpAny_bind (PySem.W.KXf.cut_str ?_)
  have hp : Builtin.Float.parseFormatSpec sp12.cps.toList "str" 60 = .ok f12 := by kernel_rfl
  rw [hp]
  have hb : (sp12.cps.back? == some 0) = false := by decide +kernel
  have e0 : Builtin.Str.strSub x 0 x.length = x := by
    show (⟨x.cps.extract 0 x.cps.size⟩ : Str) = x
    rw [Array.extract_size]
  have e1 : ∀ n, Builtin.Str.padded x 0 n 32 = x ++ blanks n := fun n => by
    show (⟨Array.replicate 0 32 ++ x.cps ++ Array.replicate n 32⟩ : Str) = ⟨x.cps ++ (List.replicate n 32).toArray⟩
    congr 1
    simp
  have hz : ¬ sizeLine < 12 := by decide
  by_cases c : 12 ≤ x.length
  · have e2 : x = x ++ blanks (12 - x.length) := by
      rw [show 12 - x.length = 0 by omega]
      show x = ⟨x.cps ++ #[]⟩
      simp
    split
    · rename_i heq
      simp [bind, Except.bind, pure, Except.pure, f12, Builtin.Str.tooLong, Builtin.Str.strField, hb, c, hz] at heq
    · rename_i heq
      simp [bind, Except.bind, pure, Except.pure, f12, Builtin.Str.tooLong, Builtin.Str.strField, hb, c, hz] at heq
    · refine wpAny_bind (wpAny_rule (PySem.W.KXf.ret_same e2 ?_))
      assumption
    · rename_i heq
      simp [bind, Except.bind, pure, Except.pure, f12, Builtin.Str.tooLong, Builtin.Str.strField, hb, c, hz] at heq
  · split
    · rename_i heq
      simp [bind, Except.bind, pure, Except.pure, f12, Builtin.Str.tooLong, Builtin.Str.strField, hb, c, hz] at heq
    · rename_i heq
      simp [bind, Except.bind, pure, Except.pure, f12, Builtin.Str.tooLong, Builtin.Str.strField, hb, c, hz] at heq
    · rename_i heq
      simp [bind, Except.bind, pure, Except.pure, f12, Builtin.Str.tooLong, Builtin.Str.strField, hb, c, hz] at heq
    · rename_i heq
      simp [bind, Except.bind, pure, Except.pure, f12, Builtin.Str.tooLong, Builtin.Str.strField, hb, c, hz] at heq
      rw [e0, e1] at heq
      refine PySem.W.KXf.ret_text heq.symm ?_ ?_
      · rw [← heq]
        show (x.cps ++ (List.replicate (12 - x.length) 32).toArray).size ≤ sizeLine
        have : x.cps.size ≤ 12 := hl
        rw [sizeLine_eq]
        simp
        omega
      · assumption
/-- a number in three places -/
def pad3 (i : Int) : Str := blanks (3 - (toString i : Str).length) ++ (toString i : Str)
theorem fmt_i3 {i : Int} {Q : Value → Shared → Prop} (h0 : 0 ≤ i) (h1 : i ≤ 10) (h : ∀ t' k, Q (.str (pad3 i) t') { s with toks := k }) : wpAny (model prog w) A (formatField (.int i t) sp3) Q E s := by
  have : i = 0 ∨ i = 1 ∨ i = 2 ∨ i = 3 ∨ i = 4 ∨ i = 5 ∨ i = 6 ∨ i = 7 ∨ i = 8 ∨ i = 9 ∨ i = 10 := by omega
  rcases this with rfl | rfl | rfl | rfl | rfl | rfl | rfl | rfl | rfl | rfl | rfl
  all_goals
    refine PySem.W.KXf.field_int rfl (by decide +kernel) (by decide +kernel) ?_ h
    kxf_run_i
end
def tFmtW (te ts : TE) : TE := fun σ H Q => te σ H fun x H1 => ts σ H1 fun z H2 => (z = .str sp12 ∧ ∃ a : Str, x = .str a ∧ a.length ≤ 12 ∧ Q (.str (a ++ blanks (12 - a.length))) H2) ∨ (z = .str sp3 ∧ ∃ i : Int, x = .int i ∧ 0 ≤ i ∧ i ≤ 10 ∧ Q (.str (pad3 i)) H2)
theorem pe_fmtW {X : Cx} {e spec : Expr} {te ts : TE} {pos : Pos} (he : PE X e te) (hs : PE X spec ts) : PE X (.FormattedValue e (-1) (some spec) pos) (tFmtW te ts) := by
  refine ⟨fun pins s σ H Q I h => ?_⟩
  refine wpAny_FormattedValue_spec (thn (he.run pins s σ H _ I h) fun v s1 ⟨x, H1, I1, r1, q1⟩ => thn (hs.run pins s1 σ H1 _ I1 q1) fun r s2 ⟨z, H2, I2, r2, q2⟩ => ?_)
  rcases q2 with ⟨rfl, a, rfl, hl, q⟩ | ⟨rfl, i, rfl, h0, h1, q⟩
  · obtain ⟨t, rfl⟩ := r1
    obtain ⟨t2, rfl⟩ := r2
    exact ⟨_, _, rfl, fmt_s12 hl fun t' k => ⟨.str _, H2, I2.tok _, ⟨_, rfl⟩, q⟩⟩
  · obtain ⟨t, rfl⟩ := r1
    obtain ⟨t2, rfl⟩ := r2
    exact ⟨_, _, rfl, fmt_i3 h0 h1 fun t' k => ⟨.str _, H2, I2.tok _, ⟨_, rfl⟩, q⟩⟩
end Kn

set_option Elab.async false
set_option maxRecDepth 100000
set_option linter.all false
namespace Kn
open PySem L2
theorem nlAll_app : ∀ {ds es : List PyData}, nlAll ds = true → nlAll es = true → nlAll (ds ++ es) = true
  | [], es, _, h => h
  | d :: ds, es, h, k => by
    rw [nlAll, Bool.and_eq_true] at h
    show nlAll (d :: (ds ++ es)) = true
    rw [nlAll, h.1, nlAll_app h.2 k]; rfl
theorem Dr.same {t : Addr} {H H' : Hp} (tp : Tape H t) (e : Same H H') : Dr t H H' := by
  obtain ⟨ns, h⟩ := tp
  exact ⟨⟨ns, e _ _ h⟩, fun b o h _ => e b o h⟩
/-- [.. draws .. for k in range(n)] -/
theorem lc_drawR {K : PySem.W.Frag} {lo : Int} {n : Nat} {g : TG} {tt : TT} {te : TE} {vs : List Nat} {σ : St} {H1 : Hp} {D t : Addr} {Qd : Hp → Prop} (Pd : Nat → List PyData → Prop) (tp : Tape H1 t) (hD : H1 D = none) (hn : n ≤ 1000) (h0 : Pd 0 [])
    (hs : ∀ (i : Nat) (ds : List PyData) (H : Hp) (R1 : Hp → Prop) (R : V → Hp → Prop), i < n → Dr t H1 H → Pd i ds → (∀ y d H', Dr t H H' → Dp K H' y d → nl d = true → Pd (i + 1) (ds ++ [d]) → R y H') →
      g (.int (lo + i)) (wipe σ vs) H fun σ2 H2 => wipe σ2 vs = wipe σ vs ∧ tt σ2 H2 fun b H3 => if b = true then te σ2 H3 R else R1 H3)
    (hd : ∀ H ys ds, Dr t H1 H → H D = some (.lst ys) → DpAll K H ys ds → nlAll ds = true → ds.length = n → Pd n ds → Qd H) : LcR g tt te vs σ D Qd (Itr lo n) H1 := by
  have nt := tp.ne hD
  refine lc_range (fun i H => ∃ ys ds, H D = some (.lst ys) ∧ Dr t H1 H ∧ DpAll K H ys ds ∧ nlAll ds = true ∧ ds.length = i ∧ Pd i ds) ?_ ?_ ?_
  · exact ⟨[], [], upd_same, Dr.new tp hD, .nil, by rw [nlAll], rfl, h0⟩
  · rintro i H hi ⟨ys, ds, eD, dr, hy, hnl, hl, p⟩
    refine hs i ds H _ _ hi dr p fun y d H' d2 hyd hnd p2 => ?_
    have eD2 := d2.keep _ _ eD nt.symm
    have hlen := hy.len
    refine ⟨ys, eD2, small1000 (by omega), ys ++ [y], ds ++ [d], upd_same, (dr.trans d2).upd nt hD, ?_, nlAll_app hnl (by rw [nlAll, nlAll, hnd]; rfl), by simp [hl], p2⟩
    exact DpAll.snoc (DpAll.tups (tups_upd eD2) _ hnl (DpAll.tups (Dr.tups dr.tape d2) _ hnl hy)) (Dp.tups (tups_upd eD2) _ hnd hyd)
  · rintro H ⟨ys, ds, eD, dr, hy, hnl, hl, p⟩
    exact hd H ys ds dr eD hy hnl hl p
end Kn

set_option Elab.async false
set_option maxRecDepth 100000
set_option linter.all false
namespace Kn
open PySem L2
/-! ### written-out data -/
def LitE (K : PySem.W.Frag) (te : TE) (d : PyData) : Prop := ∀ σ H (Q : VK), (∀ v H', Same H H' → Dp K H' v d → Q v H') → te σ H Q
def LitA (K : PySem.W.Frag) (t : TA) (ds : List PyData) : Prop := ∀ σ H (Q : List V → Hp → Prop), (∀ vs H', Same H H' → DpAll K H' vs ds → Q vs H') → t σ H Q
section
variable {K : PySem.W.Frag} {te : TE} {t : TA} {d : PyData} {ds : List PyData}
theorem lit_str {x : Str} : LitE K (tC (.str x)) (.str x) := fun _ H Q k => k _ H (Same.refl _) (.str _)
theorem lit_int {x : Int} : LitE K (tC (.int x)) (.int x) := fun _ H Q k => k _ H (Same.refl _) (.int _)
theorem lit_non : LitE K (tC .non) .none := fun _ H Q k => k _ H (Same.refl _) .non
theorem lit_nil : LitA K tNil [] := fun _ H Q k => k _ H (Same.refl _) .nil
theorem lit_cons (a : LitE K te d) (b : LitA K t ds) : LitA K (tCons te t) (d :: ds) := fun σ H Q k => a σ H _ fun v H1 s1 h1 => b σ H1 _ fun vs H2 s2 h2 => k _ H2 (Same.trans s1 s2) (.cons (Dp.same s2 _ h1) h2)
theorem lit_tup (a : LitA K t ds) (hz : ds.length ≤ 1000 := by decide) : LitE K (tTup t) (.tuple ds) := fun σ H Q k => a σ H _ fun vs H1 s1 h1 => ⟨Nat.le_trans (by rw [h1.len]; exact hz) (show 1000 ≤ sizeLine by decide), fun p hp => k _ _ (Same.trans s1 (same_new hp)) (.tup (SqT.of upd_same) (DpAll.same (same_new hp) _ h1))⟩
theorem lit_lst (a : LitA K t ds) (hz : ds.length ≤ 1000 := by decide) {σ : St} {H : Hp} {Q : VK} (k : ∀ l vs H', H l = none → Same H H' → H' l = some (.lst vs) → DpAll K H' vs ds → Q (.ref l) H') : tLst t σ H Q :=
  a σ H _ fun vs H1 s1 h1 => ⟨Nat.le_trans (by rw [h1.len]; exact hz) (show 1000 ≤ sizeLine by decide), fun p hp => k _ _ _ (by
    cases e : H p with
    | none => rfl
    | some o => have := s1 _ _ e; rw [hp] at this; cases this) (Same.trans s1 (same_new hp)) upd_same (DpAll.same (same_new hp) _ h1)⟩
end
theorem Dr.base {t : Addr} {H H1 H2 : Hp} (ht : H t = none) (sm : Same H H1) (d : Dr t H1 H2) : Same H H2 := fun b o h => d.keep b o (sm b o h) (ne_of_none h ht)
end Kn

set_option Elab.async false
set_option maxRecDepth 100000
set_option linter.all false
namespace Kn
open PySem L2
/-- a def with a star parameter and one keyword-only parameter, by its promise over (the keyword's value :: the positional values) -/
def FnRK (P : Program) (w : World) (K : PySem.W.Frag) (mg : Str → Option Value) (base : Heap) (CX : CXT) (k : Nat) (f : Addr) (kw : Str) (sp : Sp) : Prop :=
  ∀ (A : Around) (outer : List Env) (s : Shared) (H : Hp) (us : List Value) (u : Value) (vs : List V) (v : V) (Q : VK) (E : XK), Room k A → Env0 P w K mg base A outer s H → Vals vs us → RelV v u → sp (v :: vs) H Q E →
    codeAny (model P w) A (.call (.ref f) ⟨us, [(kw, u)]⟩) (CR CX outer P w H s Q E) s
structure FxRK (P : Program) (w : World) (K : PySem.W.Frag) (mg : Str → Option Value) (base : Heap) (CX : CXT) (x : Str) (k : Nat) (kw : Str) (sp : Sp) : Prop where
  ex : ∃ f : Addr, FnRK P w K mg base CX k f kw sp ∧ mg x = some (.ref f) ∧ PySem.W.keepIn K (.ref f) = true
structure FzSK (K : PySem.W.Frag) (mg : Str → Option Value) (x : Str) (st : Stmt) (pv kw : Str) : Prop where
  ex : ∃ (f : Addr) (fd : FuncData), Fun K x x st f fd ∧ mg x = some (.ref f) ∧ ∀ (rest : List Value) (u : Value), bindArgs fd ⟨rest, [(kw, u)]⟩ = (newTuple rest >>= fun t => pure [(kw, u), (pv, t)])
theorem FxRK.imp {P : Program} {w : World} {K : PySem.W.Frag} {mg : Str → Option Value} {base : Heap} {CX : CXT} {x : Str} {k : Nat} {kw : Str} {sp sp' : Sp} (F : FxRK P w K mg base CX x k kw sp) (h : ∀ vs H Q E, sp' vs H Q E → sp vs H Q E) : FxRK P w K mg base CX x k kw sp' :=
  let ⟨f, F1, m⟩ := F.ex
  ⟨f, fun A outer s H us u vs v Q E hr e0 r r2 hs => F1 A outer s H us u vs v Q E hr e0 r r2 (h _ _ _ _ hs), m⟩
def starKSp (sp : Sp) : Sp := fun vs H Q E => ∃ v rest, vs = v :: rest ∧ rest.length ≤ sizeLine ∧ ∀ p, H p = none → sp [v, V.ref p] (upd H p (.tup rest)) Q E
theorem FzSK.okX {P : Program} {w : World} {K : PySem.W.Frag} {mg : Str → Option Value} {base : Heap} {x pv kw : Str} {st : Stmt} {N : List Str} {k : Nat} {sp : Sp} (F : FzSK K mg x st pv kw) (S : FnScope N [kw, pv] (defScope st))
    (hbody : ∀ (f : Addr) (cdv : Value) (A : Around) (outer : List Env) (s : Shared) (H : Hp) (vs : List V) (Q : VK) (E : XK), Room k (A.deeper (PyProof.Rows.envOfC x (defScope st) s.heap.objs.size f cdv)) → sp vs H Q E →
      ∃ t, PSs (cxOf (L2.CX P w) P w K mg base N x (defScope st) f cdv A outer s H E) (defBody st) t ∧ t { nx := fun _ H' => Q .non H', rt := Q } (start N vs) H) : FxRK P w K mg base (L2.CX P w) x (k + 1) kw (starKSp sp) := by
  obtain ⟨f, fd, F1, m, hb⟩ := F.ex
  obtain ⟨oc, od, kV, doc, pm, an, cdv, ct, osl, rfl, lk, hcd⟩ := F1.ex
  refine ⟨f, ?_, m, F1.kp⟩
  intro A outer s H us u vs v Q E hr e0 r ru hsp
  obtain ⟨v, rest, ev, hz, hq⟩ := hsp
  cases ev
  have hn : H s.heap.objs.size = none := e0.hok.fresh (Nat.le_refl _)
  have hl2 : us.length ≤ sizeLine := by rw [← r.length]; exact hz
  refine StX.run_bnd lk hcd S hr e0 (G := fun xs H2 => ∃ p, H p = none ∧ xs = [v, V.ref p] ∧ H2 = upd H p (.tup vs)) (fun A' Ex Q' h => ?_) fun s2 H2 xs ⟨p, hp, ex, eH⟩ hr' => ?_
  · rw [hb us u]
    refine wpAny_bind (wpAny_newTuple (wpAny_pure ?_) hl2)
    have new : ObjOk P w (upd H s.heap.objs.size (.tup vs)) (s.heap.push ({ cls := .type "tuple", data := .seq us.toArray } : Obj)) s.heap.objs.size (.tup vs) := ⟨hz, us, r, ⟨_, Heap.get?_push_size _ rfl, rfl, _, rfl⟩⟩
    have un := StX.un_laid (fs := frs outer) (s := s) (o := ({ cls := .type "tuple", data := .seq us.toArray } : Obj)) (u := .tup vs) hn
    exact h _ _ [v, V.ref s.heap.objs.size] [u, Value.ref s.heap.objs.size] (StX.env0_laid e0 new) un rfl (fun e s' => StX.cxUp outer s H _ _ E e s' un (fun b o q => Heap.get?_push_of_some _ q) rfl) (.cons ru (.cons rfl .nil)) rfl ⟨_, hn, rfl, rfl⟩
  · subst ex eH
    exact hbody f cdv A outer s2 _ _ Q E hr' (hq p hp)
section
variable {X : Cx} {CX : CXT} {k : Nat} {sp : Sp} {x kw : Str} {p pos : Pos} {e : Expr} {es : List Expr} {t tk : TA} {kws : List Keyword}
theorem run_fnRK {pins : List (Addr × Obj)} {σ : St} {H : Hp} {s : Shared} {f : Addr} {E : XK} {Q : VK} {us : List Value} {u : Value} {vs : List V} {v : V} (F : FnRK X.prog X.w X.K X.mg X.base CX k f kw sp) (hr : Room k X.A) (hx : PassesAt CX X σ E) (I : Inv X pins σ H s) (r : Vals vs us) (ru : RelV v u) (h : sp (v :: vs) H Q E) :
    wpAny (model X.prog X.w) X.A (call (.ref f) us [(kw, u)]) (EP X pins σ Q) X.xe s := by
  refine wpAny_call (codeAny_mono (F X.A X.stack s H us u vs v Q E hr I.env0 r ru h) fun r s' hq => ?_)
  cases r with
  | error e => exact hx pins H s e s' I hq
  | ok fl =>
    cases fl with
    | ret u => exact I.after hq
    | next => exact False.elim hq
    | brk => exact False.elim hq
    | cont => exact False.elim hq
def tCallRK (sp : Sp) (E : St → XK) (t tk : TA) : TE := fun σ H Q => t σ H fun vs H1 => tk σ H1 fun zs H2 => ∃ v, zs = [v] ∧ sp (v :: vs) H2 Q (E σ)
/-- f(e, .., kw = v) -/
theorem fcallRK {W : WX} (tkk : Takes X W) (F : FxRK X.prog X.w X.K X.mg X.base (L2.CX X.prog X.w) x k kw sp) (hr : Room k X.A) (hg : Gl X x) (ha : PA X (e :: es) t) (hkw : PK X kws tk)
    (hall : (backToKw pos (keywordEach kws X.env)).all (·.1.isSome) = true := by rfl) (hks : (backToKw pos (keywordEach kws X.env)).filterMap (·.1) = [kw] := by rfl)
    (hdb : (x == ("__debug__" : Str)) = false := by decide) (he : starEach (e :: es) X.env = (false, eval e X.env) :: starEach es X.env := by rfl)
    (hpl : ((backTo pos (starEach (e :: es) X.env)).any (·.1) || (backToKw pos (keywordEach kws X.env)).any (·.1.isNone)) = false := by rfl) :
    PE X (.Call (.Name x p) (e :: es) kws pos) (tCallRK sp (WE W) t tk) := by
  obtain ⟨f, F1, hm, hk⟩ := F.ex
  refine ⟨fun pins s σ H Q I h => ?_⟩
  refine wpAny_Call_Name_kw (ld_glob I hg hm ?_ hdb)
  refine PySem.W.callWith_KW (h₀ := X.base) I.ok.mod.kin hk hall (thn (ha.run pos pins s σ H _ I h) fun us s1 ⟨vs, H1, I1, r, q⟩ => ?_) hpl he
  refine thn (hkw.run pos pins s1 σ H1 _ I1 q) fun ws s2 ⟨zs, H2, I2, rz, v, ez, q2⟩ => ⟨I2.kIn, ?_⟩
  subst ez
  cases rz with
  | cons ru rn =>
    cases rn
    rw [hks]
    exact run_fnRK F1 hr (passAt tkk σ) I2 r ru q2
/-- f(kw = v) -/
theorem fcallRK0 {W : WX} (tkk : Takes X W) (F : FxRK X.prog X.w X.K X.mg X.base (L2.CX X.prog X.w) x k kw sp) (hr : Room k X.A) (hg : Gl X x) (hkw : PK X kws tk)
    (hall : (backToKw pos (keywordEach kws X.env)).all (·.1.isSome) = true := by rfl) (hks : (backToKw pos (keywordEach kws X.env)).filterMap (·.1) = [kw] := by rfl)
    (hdb : (x == ("__debug__" : Str)) = false := by decide)
    (hpl : ((backTo pos (starEach [] X.env)).any (·.1) || (backToKw pos (keywordEach kws X.env)).any (·.1.isNone)) = false := by rfl) :
    PE X (.Call (.Name x p) [] kws pos) (tCallRK sp (WE W) tNil tk) := by
  obtain ⟨f, F1, hm, hk⟩ := F.ex
  refine ⟨fun pins s σ H Q I h => ?_⟩
  refine wpAny_Call_Name_kw (ld_glob I hg hm ?_ hdb)
  refine PySem.W.callWith_KW0 (h₀ := X.base) I.ok.mod.kin hk hall (thn (hkw.run pos pins s σ H _ I h) fun ws s2 ⟨zs, H2, I2, rz, v, ez, q2⟩ => ⟨I2.kIn, ?_⟩) hpl
  subst ez
  cases rz with
  | cons ru rn =>
    cases rn
    rw [hks]
    exact run_fnRK F1 hr (passAt tkk σ) I2 .nil ru q2
end
end Kn

set_option Elab.async false
set_option maxRecDepth 100000
set_option linter.all false
/-! ### a list comprehension out of which an exception may pass -/
namespace Kn
open PySem L2 PySem.Spec
theorem noteFrame_fr {x : Value} {c c' : Env} (h : c'.frame = c.frame) : noteFrame x c' = noteFrame x c := by
  unfold noteFrame frameOf
  simp only [h]
section
variable {M : Model} {A : Around} {E : Value → Shared → Prop} {s : Shared} {Z : Obj → Prop} {B : Heap} {env : Env} {outer : List Env} {L L' x : Addr}
/-- noted at another place: the frame notes it anew -/
theorem look_farZ {Q : Unit → Shared → Prop} (hZ : HandSPX.Steady Z) (fr : A.frames = some (env :: outer)) (ef : env.frame = some L) (ne : L' ≠ L) (hh : HandSPX.HeldZ B (env :: outer) x Z L' s.heap)
    (k : ∀ g, HandSPX.HeldZ B (env :: outer) x Z L g → s.heap.UpToSlots g → Q () { s with heap := g }) : wpAny M A (noteFrame (.ref x) env) Q E s := by
  obtain ⟨k1, k2, k3, ox, xs, t, ot, us, g1, gz, g2, g3, g4, g5, g6, g7, g8⟩ := hh
  unfold noteFrame; simp only [ef]
  refine wpAny_bind (wpAny_field g1 g2 g3 ?_)
  have c1 : (Value.ref t != Value.none) = true := by simp
  rw [if_pos c1]
  refine wpAny_bind (wpAny_field g6 g7 g8 ?_)
  have c2 : ¬ ((rawInt L' == rawInt L) = true) := by
    simp only [rawInt, beq_iff_eq]
    intro z
    injection z with z
    exact ne (Int.ofNat.inj z)
  rw [if_neg c2]
  refine wpAny_bind (wpAny_setField g6 g7 (Array.getElem?_eq_some_iff.mp g8).1 ?_)
  have oth : ∀ c, c ≠ t → (s.heap.update t (Obj.mapFields (·.setIfInBounds 3 Value.none))).get? c = s.heap.get? c := fun c q => Heap.get?_update_other _ _ (Ne.symm q)
  have nr : ∀ c o, s.heap.get? c = some o → (∀ q, o.data ≠ .fields q) → c ≠ t := fun c o h1 h2 z => by subst z; rw [g6] at h1; cases h1; exact h2 us g7
  refine HandSPX.wpAny_entryZ hZ fr (k3.of_keeps fun c o h1 h2 => ⟨o, (oth c (nr c o h1 h2)).trans h1, rfl⟩) ef ((oth x (Ne.symm g5)).trans g1) (fun c o h1 => (oth c fun z => by subst z; rw [g4] at h1; cases h1).trans (k1 c o h1)) k2 g2 (Array.getElem?_eq_some_iff.mp g3).1 gz fun g ⟨y1, y2, y3, y4⟩ => ?_
  exact k g ⟨y1, k2, y2, y3⟩ fun c o h1 h2 => y4 c o ((oth c (nr c o h1 h2)).trans h1) h2
/-- what stands behind the block; fr: its frame -/
def endX (M : Model) (A : Around) (E : Value → Shared → Prop) (use : Option (Value → Sem Unit)) (Q : Value → Shared → Prop) (acc : Value) (C : Addr) (fr : Option Addr) (r : Result) (s' : Shared) : Prop :=
  match r with
  | .ok f => compPost M A E use Q acc C (.ok f) s'
  | .error x => ∃ m, s'.heap.Ns C m ∧ ∀ g, Heap.SameBut C s'.heap g → ∀ c : Env, c.locals = C → c.frame = fr → wpAny M A (passOn "comprehension.variables-let-go" x c : Sem Value) (fun _ _ => False) E { s' with heap := g }
theorem comp_free {e : Expr} {scope : Scope} {pos : Pos} {mkAcc hd : Sem Value} {g : Comprehension} {gs : List Comprehension} {cl : List (Str × Addr)} {use : Option (Value → Sem Unit)} {Q : Value → Shared → Prop}
    (ec : clausesOf e = g :: gs) (ef : ∀ x, foldedSetIterable g.iter env x = pure x) (eo : closureFor scope env = pure cl) (ek : scope.kind = .function) (en : ∀ x ∈ scope.names, x.2 = .local → scope.names.lookup x.1 = some .local)
    (h : wpAny M A hd (fun x s1 => wpAny M A (pyIter x) (fun it s2 => wpAny M A mkAcc (fun acc s3 => wpAny M A (newFunctionEnv scope env.globals cl [] env.qual none .none (some env)) (fun c s4 =>
        codeAny M A (.compStart e 0 it acc { c with scope := relabel scope env }) (endX M A E use Q acc c.locals c.frame) s4) E s3) E s2) E s1) E s) :
    wpAny M A (comprehension e scope env pos mkAcc false hd use) Q E s := by
  unfold comprehension; rw [eo, ec]
  refine wpAny_bind (wpAny_mono h (fun x s1 h1 => wpAny_bind (wpAny_standAt (wpAny_bind (wpAny_of_eq (ef x) ?_)))) fun _ _ z => z)
  refine wpAny_bind (wpAny_holding (wpAny_mono h1 (fun it s2 h2 => wpAny_standIf (wpAny_bind (wpAny_mono h2 (fun acc s3 h3 => ?_) fun _ _ z => z))) fun _ _ z => z))
  refine wpAny_bind (wpAny_pure (wpAny_bind (wpAny_mono h3 (fun c s4 h4 => ?_) fun _ _ z => z)))
  dsimp only
  generalize hvs : (scope.names.filter fun x => (x.2 == .local || x.2 == .cell) && x.1 != (".0" : Str)) = vars
  have vk : ∀ x ∈ vars, x.2 = .local → Env.kindOf { c with scope := relabel scope env } x.1 = some .local := fun x hx hl => by
    subst hvs
    exact lookup_relabel_local (en x (List.mem_filter.mp hx).1 hl)
  have vr : ∀ x ∈ vars.reverse, x.2 = .local → Env.kindOf { c with scope := relabel scope env } x.1 = some .local := fun x hx => vk x (List.mem_reverse.mp hx)
  have vt : ∀ x ∈ vars.reverse.drop 1 ++ vars.reverse.take 1, x.2 = .local → Env.kindOf { c with scope := relabel scope env } x.1 = some .local := fun x hx =>
    vr x ((List.mem_append.mp hx).elim List.mem_of_mem_drop List.mem_of_mem_take)
  refine wpAny_holding (wpAny_bind (wpAny_attempt (wpAny_holding (wpAny_run (codeAny_mono h4 fun r s5 hr => ?_)))))
  match r, use, hr with
  | .ok f, none, hr =>
    obtain ⟨m, hn, hr⟩ : ∃ m, s5.heap.Ns c.locals m ∧ ∀ g, Heap.SameBut c.locals s5.heap g → Q acc { s5 with heap := g } := hr
    exact wpAny_bind (wpAny_holding (wpAny_comp_letGo (cenv := { c with scope := relabel scope env }) ek _ s5 m vr hn fun g m' _ sb => wpAny_pure (hr g sb)))
  | .ok f, some u, hr =>
    have hr : wpAny M A (u acc) (fun _ s6 => ∃ m, s6.heap.Ns c.locals m ∧ ∀ g, Heap.SameBut c.locals s6.heap g → Q .none { s6 with heap := g }) E s5 := hr
    refine wpAny_bind (wpAny_rule (wpAny_bind (wpAny_holding (wpAny_mono hr (fun _ s6 ⟨m, hn, hr'⟩ => ?_) fun _ _ z => z))))
    exact wpAny_bind (wpAny_comp_letGo (cenv := { c with scope := relabel scope env }) ek _ s6 m vt hn fun g m' _ sb => wpAny_pure (hr' g sb))
  | .error x, use, hr =>
    obtain ⟨m, hn, hr⟩ := hr
    cases use <;> exact wpAny_bind (wpAny_holding (wpAny_comp_letGo (cenv := { c with scope := relabel scope env }) ek _ s5 m vr hn fun g m' _ sb => wpAny_mono (hr g sb _ rfl rfl) (fun _ _ z => z.elim) fun _ _ z => z))
end
theorem frames_to {B' : Heap} : ∀ {l : List Env} {B h h' : Heap}, h.FunFrames B l → (∀ c ∈ frs l, h'.get? c = h.get? c) → (∀ c ∈ frs l, B'.get? c = none) → h'.FunFrames B' l
  | [], _, _, _, _, _, _ => trivial
  | env :: l, B, h, h', ⟨hk, ⟨L, o, hf, hn, ho, hd⟩, hr⟩, e, n => by
    have m : L ∈ frs (env :: l) := List.mem_filterMap.mpr ⟨env, List.mem_cons_self, hf⟩
    have sub : ∀ c ∈ frs l, c ∈ frs (env :: l) := fun c hc => by
      obtain ⟨y, hy, q⟩ := List.mem_filterMap.mp hc
      exact List.mem_filterMap.mpr ⟨y, List.mem_cons_of_mem _ hy, q⟩
    exact ⟨hk, ⟨L, o, hf, n L m, (e L m).trans ho, hd⟩, frames_to hr (fun c hc => e c (sub c hc)) fun c hc => n c (sub c hc)⟩
section
variable {X : Cx} {E : XK}
/-- the block's context, whatever is wished of what is raised in it -/
abbrev bX (X : Cx) (scope : Scope) (s : Shared) (H : Hp) (C : Addr) (cl : List (Str × Addr)) (fp : List Addr) (xe : Value → Shared → Prop) : Cx := (X.blk s H scope (compEnvC scope cl C X.env) fp).wish xe
/-- an exception of the block is the def's -/
theorem blk_takes {scope : Scope} {own : List (Str × Nat)} {ce : Env} {fp : List Addr} {pins : List (Addr × Obj)} {σ : St} {H3 : Hp} {s3 : Shared} {use : Option (Value → Sem Unit)} {Qf : Value → Shared → Prop} {acc : Value}
    (es : X.stack = X.env :: X.outer) (ef : X.env.frame = some X.env.locals) (tk : Takes X fun c d _ H => E c d H) (I3 : Inv X pins σ H3 s3) (f3 : ∀ b ∈ fp, FpOk X pins H3 b ∧ b < s3.heap.objs.size) (cL : ce.locals = s3.heap.objs.size) (cf : ce.frame = X.env.frame) :
    Takes ((X.blk s3 H3 scope ce fp).wish (notedBy (model X.prog X.w) X.A ce fun e s' => endX (model X.prog X.w) X.A X.xe use Qf acc s3.heap.objs.size X.env.frame (.error e) s')) fun c d _ H => E c d H := fun u s' xx => by
  obtain ⟨a, B, sI, pn, σ', H', cls, d, rfl, J', nb, up, sky, na, os, ag, hE⟩ := xx
  have J := J'.unwish
  have af : X.A.frames = some (X.env :: X.outer) := by rw [I3.ok.frames, es]
  generalize hC : s3.heap.objs.size = C at cL
  have hn0 : H' C = none := by have z : H' ce.locals = none := J.free; rw [cL] at z; exact z
  have fC : FpOk X pins H' C := I3.fpOk (Nat.le_of_eq hC) hn0
  obtain ⟨m0, n0, _⟩ := J.loc
  have n0 : sI.heap.Ns C m0 := by have z : sI.heap.Ns ce.locals m0 := n0; rw [cL] at z; exact z
  have IX : Inv X pins σ H' sI := I3.call' (ch := fp) J.os J.base J.hok J.bare fun b hb => ⟨(f3 b hb).1.2.2.2.1, (f3 b hb).1.2.1, (f3 b hb).1.2.2.2.2.1, (f3 b hb).1.2.2.2.2.2⟩
  have nfr : ∀ c ∈ frs (X.env :: X.outer), c ≠ C := fun c hc z => by
    subst z
    have : c ∈ X.env.locals :: X.fs := by
      obtain ⟨y, hy, q⟩ := List.mem_filterMap.mp hc
      rcases List.mem_cons.mp hy with rfl | hy
      · rw [ef] at q; cases q; exact List.mem_cons_self
      · exact List.mem_cons_of_mem _ (List.mem_filterMap.mpr ⟨y, hy, q⟩)
    rcases List.mem_cons.mp this with z | z
    · exact fC.2.1 z
    · exact fC.2.2.1 z
  have sky : Sky B (X.env :: X.outer) a (Zc cls d) ce.locals s'.heap := by rw [← es]; exact sky
  have nb : ∀ b o, sI.heap.get? b = some o → b ∉ frs (X.env :: X.outer) → B.get? b = some o := by rw [← es]; exact nb
  have fin : ∀ g, HandSPX.HeldZ B (X.env :: X.outer) a (Zc cls d) X.env.locals g → s'.heap.UpToSlots g → endX (model X.prog X.w) X.A X.xe use Qf acc C X.env.frame (.error (.ref a)) { s' with heap := g } := fun g hh ug => by
    obtain ⟨k1, k2, k3, tr⟩ := hh
    have ng : g.Ns C m0 := Heap.UpToSlots.ns ug (Heap.UpToSlots.ns up n0)
    refine ⟨m0, ng, fun g' sb c hc cfr => ?_⟩
    have rec_ne : ∀ {b : Addr} {o : Obj} {vs : Array Value}, g.get? b = some o → o.data = .fields vs → b ≠ C := fun {b o vs} h1 h2 z => by
      subst z
      obtain ⟨o', es', ep, h3, h4, _⟩ := ng
      rw [h1] at h3; cases h3
      rw [h2] at h4; cases h4
    obtain ⟨oe, vs, T, oT, ts, t1, tz, t2, t3, t4, t5, t6, t7, t8⟩ := tr
    have ka : a ≠ C := rec_ne t1 t2
    have kT : T ≠ C := rec_ne t6 t7
    have hide : ∀ {h : Heap} {b : Addr} {o : Obj}, (PySem.W.hideAll h [C]).get? b = some o → h.get? b = some o ∧ b ≠ C := fun {h b o} q => ⟨PySem.W.of_hideAll _ q, fun z => by rw [PySem.W.hideAll_none [C] (by simp [z])] at q; cases q⟩
    have keep : ∀ {h : Heap} {b : Addr} {o : Obj}, h.get? b = some o → b ≠ C → (PySem.W.hideAll h [C]).get? b = some o := fun q n => PySem.W.hideAll_get [C] q (by simpa using n)
    have gone : ∀ {h : Heap} {b : Addr}, h.get? b = none → (PySem.W.hideAll h [C]).get? b = none := fun {h b} q => by
      cases z : (PySem.W.hideAll h [C]).get? b with
      | none => rfl
      | some o => have := (hide z).1; rw [q] at this; cases this
    have tr' : HandSPX.TracedZ g' (PySem.W.hideAll B [C]) a (Zc cls d) (rawInt X.env.locals) := ⟨oe, vs, T, oT, ts, (sb.2 a ka).trans t1, tz, t2, t3, gone t4, t5, (sb.2 T kT).trans t6, t7, t8⟩
    have st' : (PySem.W.hideAll B [C]).StaysIn g' := fun b o q => (sb.2 b (hide q).2).trans (k1 b o (hide q).1)
    have ff' : g'.FunFrames (PySem.W.hideAll B [C]) (X.env :: X.outer) := frames_to k3 (fun c hc => sb.2 c (nfr c hc)) fun c hc => gone (k3.mem hc).1
    have IX' := IX.turned (t' := sI.toks) (h' := PySem.W.hideAll sI.heap [C]) (fun b o hb q => keep q hb) fC.1 fC.2.1 fC.2.2.2.1 fC.2.2.2.2.1 fC.2.2.2.2.2
    unfold PySem.passOn
    refine wpAny_bind (wpAny_field ((sb.2 a ka).trans t1) t2 t3 ?_)
    have ct : ¬ ((Value.ref T == Value.none) = true) := by simp
    rw [if_neg ct]
    have go : wpAny (model X.prog X.w) X.A (setFlight (.ref a) c.frame) (fun _ s4 => wpAny (model X.prog X.w) X.A (throw (.ref a) : Sem Value) (fun _ _ => False) X.xe s4) X.xe { s' with heap := g' } := by
      rw [cfr, ef]
      refine HandSPX.setFlight_anyZ (fl := rawInt X.env.locals) st' ff' tr' fun g2 y1 y2 y3 y4 => wpAny_throw (tk _ _ ?_)
      refine ⟨a, PySem.W.hideAll B [C], _, pins, σ, H', cls, d, rfl, IX', fun b o q hb => ?_, fun b o q hnf => ?_, .inr (.inr ⟨y1, gone k2, by rw [es]; exact y2, y3⟩), na, os, ag, hE⟩
      · rw [es] at hb
        exact keep (nb b o (hide q).1 hb) (hide q).2
      · obtain ⟨sl, q1⟩ := (Heap.UpToSlots.trans up ug) b o (hide q).1 hnf
        obtain ⟨sl2, q2⟩ := y4 b _ ((sb.2 b (hide q).2).trans q1) hnf
        exact ⟨sl2, q2⟩
    first
      | exact wpAny_bind (wpAny_pure (wpAny_bind go))
      | exact wpAny_bind go
  show wpAny (model X.prog X.w) X.A (noteFrame (.ref a) ce) _ _ _
  rw [noteFrame_fr cf]
  rcases sky with ⟨y1, y2, y3, oe, vs, y4, y5, y6, y7⟩ | fl | hh
  · exact HandSPX.look_newZ Zc.steady af y3 ef y4 y1 y2 y6 y7 y5 fin
  · exact HandSPX.looks_onZ Zc.steady af ef fl fin
  · exact look_farZ Zc.steady af ef (by rw [cL]; exact fun z => fC.2.1 z) hh fin
theorem lc_coreX {pins : List (Addr × Obj)} {s : Shared} {σ : St} {H : Hp} {Q : VK} {elt tg iter : Expr} {ifs : List Expr} {scope : Scope} {own : List (Str × Nat)} {pos pos' : Pos} {wi : TI} {g : TG} {tt : TT} {te : TE} {use : Option (Value → Sem Unit)} {Qf : Value → Shared → Prop}
    (hc : X.calm = true) (es : X.stack = X.env :: X.outer) (ef : X.env.frame = some X.env.locals) (tk : Takes X fun c d _ H => E c d H) (nd : X.N.Nodup) (I : Inv X pins σ H s) (hi : PI X tg iter wi) (ok : BlkOk X.N X.env.scope scope own)
    (hg : ∀ s H C cl fp xe, PG (bX X scope s H C cl fp xe) tg g) (ht : ∀ s H C cl fp xe, Takes (bX X scope s H C cl fp xe) (fun c d _ H => E c d H) → PTs (bX X scope s H C cl fp xe) ifs tt)
    (he : ∀ s H C cl fp xe, Takes (bX X scope s H C cl fp xe) (fun c d _ H => E c d H) → PE (bX X scope s H C cl fp xe) elt te) (hs : ∀ x, foldedSetIterable iter X.env x = pure x) (h : tLc wi g tt te (own.map (·.2)) σ H Q)
    (hRR : ∀ D C s' m H', Inv X pins σ H' s' → Q (.ref D) H' → s'.heap.Ns C m → FpOk X pins H' C → compPost (model X.prog X.w) X.A X.xe use Qf (.ref D) C (.ok .next) s') :
    wpAny (model X.prog X.w) X.A (comprehension (.ListComp elt [⟨tg, iter, ifs, 0⟩] scope pos) scope X.env pos' (newList []) false (eval iter X.env) use) Qf X.xe s := by
  have fre : ∀ y ∈ scope.names, y.2 = .free → ∃ c, X.env.cells.lookup y.1 = some c := fun y hy e => (ok.free y hy e).elim (fun k => I.ok.has _ (.inl k)) fun k => I.ok.has _ (.inr k)
  refine comp_free (use := use) rfl hs (closure_ok fre) ok.kind (fun y hy e => by rw [ok.uniq y hy, e]) (thn (hi.run pins s σ H _ I h) fun xv s1 hx => thn hx fun itv s2 ⟨it, fp, tn, J, H2, e, I2, T, st2, f2, q⟩ => ?_)
  subst e
  refine wpAny_newObj_type (newEnv_comp ?_) (by show 0 ≤ sizeLine; decide)
  generalize hD : s2.heap.objs.size = D
  obtain ⟨W, ⟨m0, w0⟩, turn⟩ := q D (I2.hok.fresh (Nat.le_of_eq hD))
  generalize e3 : ({ s2 with heap := s2.heap.push { cls := .type "list", data := .seq ([] : List Value).toArray } } : Shared) = s3
  have h3 : s3.heap = s2.heap.push { cls := .type "list", data := .seq ([] : List Value).toArray } := by rw [← e3]
  have I3 : Inv X pins σ (upd H2 D (.lst [])) s3 := by
    subst e3
    refine I2.laid (o := .lst []) (t' := s2.toks) (fun b o e => Heap.get?_push_of_some _ e) (Nat.le_of_eq hD) (show ObjOk X.prog X.w _ _ D (.lst []) from ⟨Nat.zero_le _, [], 0, .nil, by rw [← hD]; exact Heap.get?_push_size _ rfl⟩)
  have f3 : ∀ b ∈ fp, FpOk X pins (upd H2 D (.lst [])) b ∧ b < s3.heap.objs.size := fun b hb => by
    obtain ⟨o, e, _⟩ := T.obj _ _ st2 b hb
    have lt := Heap.lt_size e
    exact ⟨⟨by rw [upd_ne (by rw [← hD]; exact Nat.ne_of_lt lt)]; exact (f2 b hb).1, (f2 b hb).2⟩, by rw [h3, Heap.size_push]; exact Nat.lt_succ_of_lt lt⟩
  have st3 : tn 0 s3.heap := T.keep _ _ _ st2 fun b _ o e => by rw [h3]; exact Heap.get?_push_of_some _ e
  have I4 := block_start I3 ok nd f3
  generalize hcl : cellsFrom (s3.heap.objs.size + 1) scope.names (cloFrom X.env.cells scope.names []) = cl at I4
  show codeAny _ _ (.compStart (.ListComp elt [⟨tg, iter, ifs, 0⟩] scope pos) 0 (.ref it) (.ref D) (compEnvC scope cl s3.heap.objs.size X.env)) (endX (model X.prog X.w) X.A X.xe use Qf (.ref D) s3.heap.objs.size X.env.frame) { s3 with heap := pushCells (s3.heap.push { cls := .type "dict", data := .dict #[] }) scope.names }
  have cL : (compEnvC scope cl s3.heap.objs.size X.env).locals = s3.heap.objs.size := rfl
  have cF : (compEnvC scope cl s3.heap.objs.size X.env).frame = X.env.frame := rfl
  have pg := fun xe => hg s3 (upd H2 D (.lst [])) s3.heap.objs.size cl fp xe
  have pt := fun xe => ht s3 (upd H2 D (.lst [])) s3.heap.objs.size cl fp xe
  have pe := fun xe => he s3 (upd H2 D (.lst [])) s3.heap.objs.size cl fp xe
  have n0 : ∀ b ∈ fp, (upd H2 D (.lst [])) b = none := fun b hb => (f3 b hb).1.1
  unfold bX at pg pt pe
  generalize compEnvC scope cl s3.heap.objs.size X.env = ce at I4 pg pt pe cL cF ⊢
  generalize upd H2 D (.lst []) = H3 at I3 I4 pg pt pe w0 n0 f3
  have tkB := fun own => blk_takes (own := own) (use := use) (Qf := Qf) (acc := .ref D) (scope := scope) es ef tk I3 f3 cL cF
  have tkB := tkB []
  have pg := pg (notedBy (model X.prog X.w) X.A ce fun e s' => endX (model X.prog X.w) X.A X.xe use Qf (.ref D) s3.heap.objs.size X.env.frame (.error e) s')
  have pt := pt _ tkB
  have pe := pe _ tkB
  generalize e4 : ({ s3 with heap := pushCells (s3.heap.push { cls := .type "dict", data := .dict #[] }) scope.names } : Shared) = s4 at I4 ⊢
  have st4 : tn 0 s4.heap := T.keep _ _ _ st3 fun b _ o e => by rw [← e4]; exact pushCells_keeps _ _ _ _ (Heap.get?_push_of_some _ e)
  have stat : ∀ {σ' : St} {H' : Hp} {s' : Shared}, Inv (X.blk s3 H3 scope ce fp) [] σ' H' s' → (∀ b ∈ fp, H' b = none) → ∀ b ∈ fp, FpOk (X.blk s3 H3 scope ce fp) [] H' b := fun {σ' H' s'} I' hn b hb =>
    ⟨hn b hb, (I'.ok.exf b hb).1, I'.ok.exfs b hb, .inl hb, fun x c e => (I'.ok.exf b hb).2 x c e, fun p hp => absurd (show p ∈ ([] : List (Addr × Obj)) ++ [] from hp) (by simp)⟩
  have loop : codeAny (model X.prog X.w) X.A (.compLoop (.ListComp elt [⟨tg, iter, ifs, 0⟩] scope pos) 0 (.ref it) (.ref D) ce) (endX (model X.prog X.w) X.A X.xe use Qf (.ref D) s3.heap.objs.size X.env.frame) s4 := by
    refine compLoop_any (fun n s' => ∃ i H', Inv (X.blk s3 H3 scope ce fp) [] (wipe σ (own.map (·.2))) H' s' ∧ tn i s'.heap ∧ (∀ b ∈ fp, H' b = none) ∧ W i n H') ?_ m0 ⟨0, H3, I4, st4, n0, w0⟩
    rintro n s5 ⟨i, H5, I5, st5, n5, w5⟩
    rcases turn i n H5 w5 with ⟨stop, qq⟩ | ⟨go, Nx, hNx, step⟩
    · refine thnF (T.done (X.blk s3 H3 scope ce fp) rfl rfl rfl hc i [] s5 _ H5 (fun _ _ => False) I5 (stat I5 n5) st5 stop) fun r s6 ⟨hr, I6⟩ => ?_
      subst hr
      have I7 : Inv X pins σ H5 s6 := I3.call' (ch := fp) I6.os I6.base I6.hok I6.bare fun b hb => ⟨(f3 b hb).1.2.2.2.1, (f3 b hb).1.2.1, (f3 b hb).1.2.2.2.2.1, (f3 b hb).1.2.2.2.2.2⟩
      have nC : H5 s3.heap.objs.size = none := cL ▸ (I6.free : H5 ce.locals = none)
      obtain ⟨m, hn, _⟩ := I6.loc
      exact hRR D s3.heap.objs.size s6 m H5 I7 qq (cL ▸ (hn : s6.heap.Ns ce.locals m)) (I3.fpOk (Nat.le_refl _) nC)
    · refine thnF (T.item (X.blk s3 H3 scope ce fp) rfl rfl rfl hc i [] s5 _ H5 (fun _ _ => False) I5 (stat I5 n5) st5 go) fun r s6 ⟨u, hr, h6⟩ => ?_
      subst hr
      refine thnF h6 fun _ s7 ⟨x, H7, I7, r7, y7, st7, n7⟩ => ?_
      refine thn (pg.run _ s7 _ H7 x u _ ((I7.pinned (stat I7 n7) (T.obj _ _ st7)).wish _) r7 (step x H7 y7)) fun _ s8 ⟨σ8, H8, I8, hw8, q8⟩ => ?_
      refine thn (pt.run _ s8 σ8 H8 _ I8 q8) fun b s9 ⟨H9, I9, q9⟩ => ?_
      have fin : ∀ {s' : Shared} {H' : Hp}, Inv (X.blk s3 H3 scope ce fp) ([] ++ pinsAt fp s7.heap) σ8 H' s' → Nx H' → ∃ m, m < n ∧ ∃ i H', Inv (X.blk s3 H3 scope ce fp) [] (wipe σ (own.map (·.2))) H' s' ∧ tn i s'.heap ∧ (∀ b ∈ fp, H' b = none) ∧ W i m H' := fun {s' H'} I' nx => by
        obtain ⟨m', hm, w'⟩ := hNx H' nx
        have pn : ∀ b ∈ fp, ∀ o, s7.heap.get? b = some o → s'.heap.get? b = some o ∧ H' b = none := fun b hb o e => (I'.pin (b, o) (List.mem_append_right _ (List.mem_append_right _ (mem_pinsAt hb e)))).imp id And.left
        refine ⟨m', hm, i + 1, H', (I'.unpinned (pins := [])).weak (by rw [← hw8, wipe_length]) (fun j v e => by rw [← hw8] at e; exact (wipe_some e).1), T.keep _ _ _ st7 fun b hb o e => (pn b hb o e).1, fun b hb => ?_, w'⟩
        obtain ⟨o, e, _⟩ := T.obj _ _ st7 b hb
        exact (pn b hb o e).2
      cases b
      · exact fin I9.unwish q9
      · refine thn (pe.run _ s9 σ8 H9 _ I9 q9) fun z s10 ⟨yv, H10, I10, r10, acc, hD10, hz10, nx⟩ => ?_
        exact app_ok (X := (X.blk s3 H3 scope ce fp)) I10.unwish hD10 hz10 r10 fun s11 I11 => fin I11 nx
  exact codeAny_compStart_list loop (T.self X.A 0 _ _ _ st4 loop)
/-- as a value -/
theorem pe_lcX {elt tg iter : Expr} {ifs : List Expr} {scope : Scope} {own : List (Str × Nat)} {pos : Pos} {wi : TI} {g : TG} {tt : TT} {te : TE} (hc : X.calm = true) (es : X.stack = X.env :: X.outer) (ef : X.env.frame = some X.env.locals) (tk : Takes X fun c d _ H => E c d H) (nd : X.N.Nodup) (hi : PI X tg iter wi) (ok : BlkOk X.N X.env.scope scope own)
    (hg : ∀ s H C cl fp xe, PG (bX X scope s H C cl fp xe) tg g) (ht : ∀ s H C cl fp xe, Takes (bX X scope s H C cl fp xe) (fun c d _ H => E c d H) → PTs (bX X scope s H C cl fp xe) ifs tt)
    (he : ∀ s H C cl fp xe, Takes (bX X scope s H C cl fp xe) (fun c d _ H => E c d H) → PE (bX X scope s H C cl fp xe) elt te) (hs : ∀ x, foldedSetIterable iter X.env x = pure x := by intro _; rfl) :
    PE X (.ListComp elt [⟨tg, iter, ifs, 0⟩] scope pos) (tLc wi g tt te (own.map (·.2))) := by
  refine ⟨fun pins s σ H Q I h => ?_⟩
  rw [eval_ListComp]
  refine lc_coreX hc es ef tk nd I hi ok hg ht he hs h fun D C s' m H' I' q hn f => ⟨m, hn, fun h'' sb => ?_⟩
  exact ⟨.ref D, H', I'.turned (t' := s'.toks) (fun b o hb e => (sb.2 b hb).trans e) f.1 f.2.1 f.2.2.2.1 f.2.2.2.2.1 f.2.2.2.2.2, rfl, q⟩
/-- name = [..] on one line, the name a local -/
theorem ps_setLcX {i : Nat} {y : Str} {py : Pos} {elt tg iter : Expr} {ifs : List Expr} {scope : Scope} {own : List (Str × Nat)} {pos spos : Pos} {wi : TI} {g : TG} {tt : TT} {te : TE} (hc : X.calm = true) (es : X.stack = X.env :: X.outer) (ef : X.env.frame = some X.env.locals) (tk : Takes X fun c d _ H => E c d H) (nd : X.N.Nodup) (hy : X.N[i]? = some y) (yl : X.env.scope.names.lookup y = some .local)
    (sw : swapsWith (.ListComp elt [⟨tg, iter, ifs, 0⟩] scope pos) (some (.Name y py)) spos.line X.env = pure true) (hi : PI X tg iter wi) (ok : BlkOk X.N X.env.scope scope own)
    (hg : ∀ s H C cl fp xe, PG (bX X scope s H C cl fp xe) tg g) (ht : ∀ s H C cl fp xe, Takes (bX X scope s H C cl fp xe) (fun c d _ H => E c d H) → PTs (bX X scope s H C cl fp xe) ifs tt)
    (he : ∀ s H C cl fp xe, Takes (bX X scope s H C cl fp xe) (fun c d _ H => E c d H) → PE (bX X scope s H C cl fp xe) elt te) (hs : ∀ x, foldedSetIterable iter X.env x = pure x := by intro _; rfl) :
    PS X (.Assign [.Name y py] (.ListComp elt [⟨tg, iter, ifs, 0⟩] scope pos) spos) (tAsg (tLc wi g tt te (own.map (·.2))) (gName i)) := by
  refine ⟨fun pins s σ H D I h => ?_⟩
  rw [exec_Assign_Name_used _ _ _ _ sw]
  refine wpAny_bind (wpAny_standAt (wpAny_bind ?_))
  have h : tLc wi g tt te (own.map (·.2)) σ H (fun x H1 => gName i x σ H1 D.nx) := h
  refine wpAny_bind (thn (lc_coreX (Qf := fun _ s' => SP X pins D .next s') (use := some (assign (.Name y py) X.env)) hc es ef tk nd I hi ok hg ht he hs h fun L C s' m H' I' q hn f => ?_) fun _ s' hq => wpAny_pure (wpAny_pure hq))
  show wpAny _ _ (assign (.Name y py) X.env (.ref L)) _ _ _
  refine wpAny_assign_Name (store_ok2 (v := V.ref L) I' nd hy (.inl yl) rfl (fun s2 I2 ⟨a, sb, ha⟩ => ?_) (.inr yl))
  have nC : C ≠ a := ha.elim (fun z => by rw [z]; exact f.2.1) fun z e => f.2.2.2.2.1 y a z e.symm
  exact ⟨m, hn.sameBut sb nC, fun h3 sb3 => ⟨_, H', I2.turned (t' := s2.toks) (fun b o hb e => (sb3.2 b hb).trans e) f.1 f.2.1 f.2.2.2.1 f.2.2.2.2.1 f.2.2.2.2.2, q⟩⟩
end
end Kn

set_option Elab.async false
set_option maxRecDepth 100000
set_option linter.all false
/-! ### an exception class of the text whose __init__ says super().__init__(..) and then keeps its arguments -/
namespace Kn
open PySem L2 PySem.Spec
/-- the context of such an __init__: its closure holds the class -/
def cxS (CX : CXT) (P : Program) (w : World) (K : PySem.W.Frag) (mg : Str → Option Value) (base : Heap) (N : List Str) (qual : Str) (scope : Scope) (f : Addr) (cd : Value) (cc : Addr) (A : Around) (outer : List Env) (s : Shared) (H : Hp) (E : XK) : Cx :=
  let env := PySem.W.ksEnv qual scope s.heap.objs.size f cd cc
  { prog := P, w := w, K := K, mg := mg, base := base, A := A.deeper env, N := N, s_0 := s, H_0 := H, env := env, outer := outer, stack := env :: outer, ex := [], calm := true, fn := fun _ => false, pn := [],
    xe := fun e s' => wpAny (model P w) (A.deeper env) (leaving env e) (fun _ s'' => CX outer H s E e s'') (fun e' s'' => CX outer H s E e' s'') s' }
structure FsS (ps : List Str) (scope : Scope) : Prop where
  kind : scope.kind = .function
  co : scope.isCoroutine = false
  gen : scope.isGenerator = false
  nd : ps.Nodup
  par : ∀ x ∈ ps, scope.names.lookup x = some .local
  nocell : ∀ y ∈ scope.names, y.2 ≠ .cell
  free : ∀ y ∈ scope.names, y.2 = .free → y.1 = "__class__"
theorem lookup_mem {α : Type} : ∀ {l : List (Str × α)} {x : Str} {u : α}, (l.map (·.1)).Nodup → (x, u) ∈ l → l.lookup x = some u
  | (k, v) :: l, x, u, hn, h => by
    rw [List.map_cons, List.nodup_cons] at hn
    rcases List.mem_cons.mp h with e | h
    · cases e; rw [List.lookup_cons_self]
    · have : x ≠ k := fun z => hn.1 (z ▸ List.mem_map.mpr ⟨(x, u), h, rfl⟩)
      rw [List.lookup_cons, beq_eq_false_iff_ne.mpr this]
      exact lookup_mem hn.2 h
theorem inv_startS {CX : CXT} {P : Program} {w : World} {K : PySem.W.Frag} {mg : Str → Option Value} {base : Heap} {ps : List Str} {qual : Str} {scope : Scope} {f cc D : Addr} {cd : Value} {A : Around} {outer : List Env} {s : Shared} {H : Hp} {E : XK} {us : List Value} {vs : List V} {h1 : Heap} {tk : Nat} {cl : Value} {cld : Option Addr} {csl : Array (Option Value)}
    (S : FsS ps scope) (hd : A.handled = none) (e0 : Env0 P w K mg base A outer s H) (hl : vs.length = ps.length) (r : Vals vs us) (hc : K.lookup cc = some ⟨cl, cld, .cell (some (.ref D)), csl⟩)
    (ns : h1.Ns s.heap.objs.size fun x => (ps.zip us).reverse.lookup x) (hk : ∀ b o, s.heap.get? b = some o → h1.get? b = some o) :
    Inv (cxS CX P w K mg base ps qual scope f cd cc A outer s H E) [] (start ps vs) H { s with heap := h1, toks := tk } := by
  have bc : base.get? cc = some ⟨cl, cld, .cell (some (.ref D)), csl⟩ := e0.mod.kin _ _ hc
  have one : ∀ {y c}, ([(("__class__" : Str), cc)] : List (Str × Addr)).lookup y = some c → y = "__class__" ∧ c = cc := fun {y c} h => by
    rw [List.lookup_cons] at h
    cases q : y == ("__class__" : Str) with
    | true => rw [q] at h; cases h; exact ⟨by simpa using q, rfl⟩
    | false => rw [q] at h; cases h
  have noA : ∀ b : Addr, b ∉ (cxS CX P w K mg base ps qual scope f cd cc A outer s H E).ex := fun b z => absurd (show b ∈ ([] : List Addr) from z) (by simp)
  refine ⟨⟨e0.mod, S.kind, rfl, rfl, Nat.le_refl _, fun y z c h1 h2 => ?_, fun y hy => ?_, fun y c z h => ?_, fun _ => hd, Around.frames_deeper e0.frames, .inr ⟨rfl, rfl⟩, fun b z => absurd z (noA b), e0.bs, e0.bsz, fun b _ _ => noA b, fun b z => absurd z (noA b), e0.funs, e0.frf⟩,
    rfl, e0.bare, Un.kept hk, ⟨_, ns, fun i y v h1 h2 h3 => ?_⟩, fun y c h => ?_, e0.hok.fresh (Nat.le_refl _), fun y c h => ?_, fun p hp => absurd (show p ∈ ([] : List (Addr × Obj)) from hp) (by simp), e0.hok.kept hk, ?_⟩
  · exact (one h1).1.trans (one h2).1.symm
  · have hy : scope.names.lookup y = some .cell ∨ scope.names.lookup y = some .free := hy
    rcases hy with hy | hy
    · exact absurd rfl (S.nocell _ (PySem.mem_of_lookup hy))
    · have := S.free _ (PySem.mem_of_lookup hy) rfl
      have this : y = "__class__" := this
      subst this
      exact ⟨cc, rfl⟩
  · cases z
  · have hi : i < vs.length := by
      by_cases hi : i < vs.length
      · exact hi
      · unfold L2.start at h2
        rw [List.getElem?_append_right (by simpa using hi), List.getElem?_replicate] at h2
        split at h2 <;> cases h2
    have ha : vs[i]? = some v := by
      unfold L2.start at h2
      rw [List.getElem?_append_left (by simpa using hi), List.getElem?_map] at h2
      cases e : vs[i]? with
      | none => rw [e] at h2; cases h2
      | some a => rw [e] at h2; cases h2; rfl
    obtain ⟨u, hu, rv⟩ := r.get ha
    have h1 : ps[i]? = some y := h1
    refine ⟨u, rv, .inl ⟨S.par y (List.mem_of_getElem? h1), ?_⟩⟩
    have lu : us.length = ps.length := by rw [← r.length]; exact hl
    refine lookup_mem ?_ (List.mem_reverse.mpr (List.mem_of_getElem? (i := i) (by rw [List.getElem?_zip_eq_some]; exact ⟨h1, hu⟩)))
    rw [List.map_reverse, List.map_fst_zip (by omega)]
    exact (List.reverse_perm ps).nodup_iff.mpr S.nd
  · obtain ⟨_, rfl⟩ := one h
    exact ⟨_, _, hk _ _ (e0.bs _ _ bc).1, rfl⟩
  · obtain ⟨_, rfl⟩ := one h
    exact (e0.bs _ _ bc).2
  · show (start ps vs).length = ps.length
    unfold L2.start
    rw [List.length_append, List.length_map, List.length_replicate]; omega
/-- the built-in __init__, bound -/
theorem call_mw {prog : Program} {w : World} {A : Around} {E : Value → Shared → Prop} {h : Heap} {g : Array GenState} {d : Drawn} {t : Nat} {os : OsState} {nm q : Str} {C N : Addr} {bs bm : List Value} {hdct : Bool} {sn : List Str} {sub : List Value} {ab : Bool} {col : Option Bool} {dd : Option Addr} {k0 k1 k2 k3 k5 : Option Value} {u e t0 : Addr} {rest : List Value} {Q : Value → Shared → Prop}
    (hC : h.get? C = some (excClassObj nm q C N bs bm hdct sn sub ab col dd k0 k1 k2 k3 k5 "ValueError.__new__")) (he : h.get? e = some (HandSPX.excO C t0)) (hu : h.get? u = some (PySem.W.kxs_mw "ValueError.__init__" e)) (hr : rest.length ≤ sizeLine)
    (hq : ∀ h' t1, (∀ b o, b ≠ e → h.get? b = some o → h'.get? b = some o) → h'.get? e = some (HandSPX.excO C t1) → Q .none ⟨h', g, d, t, os⟩) :
    wpAny (model prog w) A (call (.ref u) rest) Q E ⟨h, g, d, t, os⟩ := by
  refine wpAny_call (codeAny_of_tree ?_)
  show wpAny _ A.in1 (callAny (.ref u) ⟨rest, []⟩) _ _ _
  simp only [callAny]
  refine wpAny_bind (wpAny_load hu ?_)
  have c1 : (Value.type "method-wrapper" == Value.type "method" || Value.type "method-wrapper" == Value.type "builtin_function_or_method" || Value.type "method-wrapper" == Value.type "method-wrapper") = true := by decide
  simp only [PySem.W.kxs_mw, c1, if_true]
  refine PySem.W.KFB.if_so (by decide) ?_
  refine wpAny_bind (PySem.ESX.check_bound F.excBase_ValueError hC he rfl ?_)
  refine wpAny_bind (wpAny_pure (wpAny_pure ?_))
  refine ⟨Code.quiet_builtin _ (by decide +kernel), codeAny_builtin F.excBase_ValueError.initEntry ?_⟩
  rw [Around.under_plainId F.excBase_ValueError.init.plain _]
  wp_walk
  refine hq _ h.objs.size (fun b o hb ho => ?_) ?_
  · rw [Heap.get?_update_other _ _ (Ne.symm hb)]; exact Heap.get?_push_of_some _ ho
  · rw [Heap.get?_update_self _ (Heap.get?_push_of_some _ he) rfl]; rfl
/-- what the text says of the class at C and of its __init__ at f -/
structure SupT (P : Program) (K : PySem.W.Frag) (mg : Str → Option Value) (C : Addr) : Prop where
  oex : OexC K C
  cls : ∃ cd, PySem.W.clsIn K C = some cd
  self : PySem.W.mroIn K C (.ref C) = some true
  ve : PySem.W.subIn K (.ref C) (.type "ValueError") = some true
  sup : PySem.W.ks_superIn K C C "__init__" = some (some (.builtin "ValueError.__init__"))
  nosup : mg "super" = none
  opq : PySem.W.nsIn K cStatics "thirdparty.any" = some none
  top : (P.main.scope.names.lookup ("super" : Str)).isSome = false
/-- the promise of such an __init__: te the message, tr the rest of the body -/
def spS (ps : List Str) (C : Addr) (ta : TA) (tr : TS) : Sp := fun vs H Q _ => vs.length = ps.length ∧ ∃ a ws, vs = .ref a :: ws ∧ H a = some (exo a C none) ∧
  ta (start ps vs) H fun us H1 => us.length ≤ 1000 ∧ H1 a = some (exo a C none) ∧ tr { nx := fun _ H' => Q .non H', rt := fun _ _ => False } (start ps vs) H1
theorem fn_super {CX : CXT} {P : Program} {w : World} {K : PySem.W.Frag} {mg : Str → Option Value} {base : Heap} {k : Nat} {f C cc cda : Addr} {name qual : Str} {params : Arguments} {rest : List Stmt} {scope : Scope} {dV kV doc pm ct oc cl ccl : Value} {an od cld cdd : Option Addr} {osl csl ccs : Array (Option Value)} {vs0 : Array Value} {file : Str} {tf : Tok} {ps : List Str} {p0 p1 ap pos ep : Pos} {e : Expr} {es : List Expr} {ar : Arg} {ta : TA} {tr : TS}
    (T : SupT P K mg C)
    (lk : K.lookup f = some ⟨oc, od, .func (PySem.W.ksFn name qual params (.Expr (.Call (.Attribute (.Call (.Name "super" p0) [] [] p1) "__init__" ap) (e :: es) [] pos) ep :: rest) scope dV kV doc pm an (.ref cda) ct cc), osl⟩) (hcd : PySem.W.codeIn K (.ref cda) qual = true)
    (hcode : K.lookup cda = some ⟨ccl, cdd, .fields vs0, ccs⟩) (hvs : vs0[2]? = some (.str file tf)) (hfile : ((P.main.file : Str) == file) = true) (hcell : K.lookup cc = some ⟨cl, cld, .cell (some (.ref C)), csl⟩)
    (S : FsS ps scope) (hp : (params.posonlyargs ++ params.args).head? = some ar) (har : ps[0]? = some ar.arg) (hks : scope.names.lookup ("super" : Str) = some .globalImplicit) (hkc : scope.names.lookup ("__class__" : Str) = some .free)
    (hta : ∀ A outer s H E, PA (cxS CX P w K mg base ps qual scope f (.ref cda) cc A outer s H E) (e :: es) ta) (htr : ∀ A outer s H E, PSs (cxS CX P w K mg base ps qual scope f (.ref cda) cc A outer s H E) rest tr)
    (hst : ∀ env, starEach (e :: es) env = (false, eval e env) :: starEach es env := by intro env; rfl) (hpl : ∀ env, (backTo pos (starEach es env)).any (·.1) = false := by intro env; rfl) (hsw : ∀ env, swapsWith (.Call (.Attribute (.Call (.Name "super" p0) [] [] p1) "__init__" ap) (e :: es) [] pos) none ep.line env = pure false := by intro env; rfl)
    {pl : Sem Bool} (hev : ∀ env, eval (.Call (.Attribute (.Call (.Name "super" p0) [] [] p1) "__init__" ap) (e :: es) [] pos) env = (do
      let ov ← attributeBase (.Call (.Name "super" p0) [] [] p1) "__init__" env (eval (.Call (.Name "super" p0) [] [] p1) env)
      standAt ap.atName
      let (f, first) ← holding [ov] (getMethod ov "__init__" pl)
      callWith pos f first (backTo pos (starEach (e :: es) env)) []) := by intro env; rfl) :
    FnOk P w K mg base CX (k + 1) f (PySem.W.ksFn name qual params (.Expr (.Call (.Attribute (.Call (.Name "super" p0) [] [] p1) "__init__" ap) (e :: es) [] pos) ep :: rest) scope dV kV doc pm an (.ref cda) ct cc) ps (spS ps C ta tr) := by
  refine ⟨fun vs H Q E h => h.1, fun A outer s H args us vs Q E hr e0 hb r hsp => ?_⟩
  obtain ⟨hl, a, ws, rfl, ea, hsp⟩ := hsp
  have KX : K.In s.heap := e0.mod.kin.keeps fun b o e => (e0.bs b o e).1
  refine PySem.ks_codeAny_call_defAt (binds := ps.zip us) hr.depth (KX _ _ lk) rfl (e0.mod.nolimit.keeps fun b o e => (e0.bs b o e).1) (PySem.W.codeRec_of KX hcd) rfl hb S.nocell (fun y hy => S.par y.1 (List.of_mem_zip (a := y.1) (b := y.2) hy).1) (fun h1 ns hk => ?_) S.co S.gen S.kind
  have I0 : Inv (cxS CX P w K mg base ps qual scope f (.ref cda) cc A outer s H E) [] (start ps (.ref a :: ws)) H { s with heap := h1, toks := s.toks + (ps.zip us).length } := inv_startS S hr.hd e0 hl r hcell ns hk
  have hA := hta A outer s H E
  have hR := htr A outer s H E
  have hx : (cxS CX P w K mg base ps qual scope f (.ref cda) cc A outer s H E).xe = fun e s' => wpAny (model P w) (A.deeper (PySem.W.ksEnv qual scope s.heap.objs.size f (.ref cda) cc)) (leaving (PySem.W.ksEnv qual scope s.heap.objs.size f (.ref cda) cc) e) (fun _ s'' => CX outer H s E e s'') (fun e' s'' => CX outer H s E e' s'') s' := rfl
  generalize hXX : cxS CX P w K mg base ps qual scope f (.ref cda) cc A outer s H E = X at I0 hA hR hx
  have eK : X.K = K := by rw [← hXX]; rfl
  have eP : X.prog = P := by rw [← hXX]; rfl
  have eW : X.w = w := by rw [← hXX]; rfl
  have eA : X.A = A.deeper (PySem.W.ksEnv qual scope s.heap.objs.size f (.ref cda) cc) := by rw [← hXX]; rfl
  have eE : X.env = PySem.W.ksEnv qual scope s.heap.objs.size f (.ref cda) cc := by rw [← hXX]; rfl
  have eN : X.N = ps := by rw [← hXX]; rfl
  have eM : X.mg = mg := by rw [← hXX]; rfl
  have fin : ∀ {σ' : St} {H' : Hp} {s' : Shared}, Inv X [] σ' H' s' → Q .non H' → CE outer P w H s Q .none s' := fun {σ' H' s'} J q => by
    subst hXX
    exact ⟨.non, H', J.os, J.bare, J.base, J.hok, rfl, q⟩
  show wpAt (model P w) (A.deeper (PySem.W.ksEnv qual scope s.heap.objs.size f (.ref cda) cc)) (.func _ (PySem.W.ksEnv qual scope s.heap.objs.size f (.ref cda) cc)) (execs _ (PySem.W.ksEnv qual scope s.heap.objs.size f (.ref cda) cc)) _ _ _
  have ka : scope.names.lookup ar.arg = some .local := S.par _ (List.mem_of_getElem? har)
  have f1 : interactive X.env = false := by rw [eE]; unfold interactive; simp [S.kind]
  have f2 : X.env.kindOf "super" = some .globalImplicit := by rw [eE]; exact hks
  have f3 : X.env.kindOf "__class__" = some .free := by rw [eE]; exact hkc
  have f4 : X.env.func = some f := by rw [eE]
  have f5 : X.env.code = .ref cda := by rw [eE]
  have f6 : X.env.cells.lookup ("__class__" : Str) = some cc := by rw [eE]; rfl
  have f7 : X.env.kindOf ar.arg = some .local := by rw [eE]; exact ka
  rw [← eA, ← eE] at hx ⊢
  refine PySem.ks_wpAt_mono (E := X.xe) ?_ (fun _ _ z => z) fun e' s' z => by rw [hx, eA, eE] at z; exact z
  subst eP eW eK eM
  refine PySem.ks_wpAt_execs_cons (PySem.ks_wpAt_Expr_any ?_ f1 (hsw _))
  refine PySem.ks_wpAt_MethodCall ?_ (hev _)
  obtain ⟨cdC, hcC⟩ := T.cls
  obtain ⟨nm, q, NN, bs, bm, sn, sub, ab, col, dd, k0, k1, k2, k3, k5, hC, hbm⟩ := T.oex.cls
  obtain ⟨hh, g, d, t, os⟩ := s
  obtain ⟨t1, ho⟩ := exo_at I0.hok ea
  have XI := I0.kIn
  obtain ⟨mb, b1, b2⟩ := I0.mod.blt
  refine PySem.ks_wpAt_super_base f2 f3 (by decide) f4 (XI _ _ lk) rfl hp f5 (XI _ _ hcode) rfl hvs hfile T.top ?_
  refine PySem.W.ks_loadName_global I0.ok.kind f2 (Calls.loadGlobal_builtin (by rw [I0.ok.glob]; exact I0.mod.glob.keeps I0.bk) T.nosup (by rw [I0.ok.blt]; exact b1.keeps I0.bk) ((b2 "super" (by decide)).trans (show bootBuiltins "super" = some (.type "super") by decide +kernel)) ⟨rfl, ?_⟩)
  refine wpAny_loadName_free I0.ok.kind f3 f6 ⟨_, XI _ _ hcell, rfl⟩ ?_
  obtain ⟨m, hn, hloc⟩ := I0.loc
  obtain ⟨u, ru, lk0⟩ := hloc 0 ar.arg (.ref a) (by rw [eN]; exact har) rfl (.inl f7)
  have ru : u = Value.ref a := ru
  subst ru
  have lk0 : m ar.arg = some (.ref a) := by
    rcases lk0 with ⟨_, z⟩ | ⟨z, _⟩
    · exact z
    · rw [f7] at z
      rcases z with z | z <;> cases z
  refine wpAny_loadName_local I0.ok.kind f7 hn lk0 ?_
  have hC' := XI _ _ hC
  refine PySem.ks_wpAny_isType_cls hC' rfl ⟨rfl, ?_⟩
  refine PySem.ks_wpAny_call_super hC' rfl ho rfl (fun c z => by cases z) (PySem.W.looks_mroIn XI T.self) (fun h2 e2 kk2 => ?_)
  have I2 := I0.kept (t' := t + (ps.zip us).length) (h' := h2) kk2
  have XI2 := I2.kIn
  have ne : a ≠ C := fun z => by rw [z, hC'] at ho; cases ho
  have sup := T.sup
  unfold PySem.W.ks_superIn at sup
  rw [hcC, Option.bind_some] at sup
  refine PySem.W.kxs_getMethod PySem.W.kxs_ValueError e2 (PySem.W.looks_opaque XI2 T.opq) (l₀ := cdC.mro) (fun A Q E s k q => wpAny_bind ((PySem.W.looks_clsIn XI2 hcC) A _ E s k (wpAny_pure q))) rfl XI2 sup ?_ ne (by decide) ?_
  · have LT : PySem.W.Looks (model X.prog X.w) h2 (typeOf (.ref a)) (.ref C) := fun A Q E s k q => wpAny_typeOf_ref (k _ _ (kk2 _ _ ho)) q
    exact LT.andThen (PySem.W.looks_subIn XI2 T.ve)
  have kk3 : ∀ b o, h2.get? b = some o → (h2.push (PySem.W.kxs_mw "ValueError.__init__" a)).get? b = some o := fun b o q => Heap.get?_push_of_some _ q
  have I3 := I2.kept (t' := t + (ps.zip us).length + 1) (h' := h2.push (PySem.W.kxs_mw "ValueError.__init__" a)) kk3
  have hu3 : (h2.push (PySem.W.kxs_mw "ValueError.__init__" a)).get? h2.objs.size = some (PySem.W.kxs_mw "ValueError.__init__" a) := Heap.get?_push_at rfl rfl
  have fpu : FpOk X [] H h2.objs.size := I2.fpOk (Nat.le_refl _) (I2.hok.fresh (Nat.le_refl _))
  have I4 : Inv X [(h2.objs.size, PySem.W.kxs_mw "ValueError.__init__" a)] (start ps (.ref a :: ws)) H _ := I3.pins_of fun p hp => by
    have := List.mem_singleton.mp hp
    subst this
    exact ⟨hu3, fpu.1, fpu.2.1, fpu.2.2.1, fun v z => by cases z⟩
  show wpAny _ _ (callWith pos (.ref h2.objs.size) [] (backTo pos (starEach (e :: es) X.env)) []) _ _ _
  have hc := hA.run pos _ _ _ H _ I4 hsp
  refine PySem.W.kxs_callWith1 (h₀ := X.base) (L := X.env.locals) (news := [(h2.objs.size, PySem.W.kxs_mw "ValueError.__init__" a)]) (i := "ValueError.__init__") (x := a) ?_ (by simp) (thn hc fun vs1 s5 ⟨xs, H5, I5, r5, z5, ea5, q5⟩ => ?_) (hst _) (hpl _)
  · intro p hp
    have := List.mem_singleton.mp hp
    subst this
    refine ⟨hu3, fpu.2.1, ?_⟩
    cases z : X.base.get? h2.objs.size with
    | none => rfl
    | some o => exact absurd (Heap.lt_size (I2.bk _ _ z)) (Nat.lt_irrefl _)
  have pin5 := (I5.pin (h2.objs.size, PySem.W.kxs_mw "ValueError.__init__" a) (by simp)).1
  refine ⟨pin5, ?_⟩
  have I6 : Inv X [] (start ps (.ref a :: ws)) H5 s5 := I5.pins_of fun p hp => by cases hp
  obtain ⟨h5, g5, d5, t5, os5⟩ := s5
  obtain ⟨t6, ho6⟩ := exo_at I6.hok ea5
  refine call_mw (I6.kIn _ _ hC) ho6 pin5 (by rw [← r5.length, sizeLine_eq]; omega) fun h7 t7 k7 e7 => ?_
  have J := I6.write (t' := t5) (x := a) (e := a) (o := exo a C none) (by rw [ea5]; exact True.intro) (.inl rfl) k7 ⟨_, e7⟩ (exo_ok e7)
  have eu : upd H5 a (exo a C none) = H5 := by
    funext b
    by_cases hb : b = a
    · rw [hb, upd_same, ea5]
    · rw [upd_ne hb]
  rw [eu] at J
  refine wpAt_of_wpAny (wpAny_mono (hR.run [] _ _ H5 _ J q5) (fun fl s' hs => ?_) fun e' s' hs => hs)
  cases fl with
  | ret u =>
    obtain ⟨v, σ', H', J', rv, q⟩ := hs
    exact False.elim q
  | next =>
    obtain ⟨σ', H', J', q⟩ := hs
    exact fin J' q
  | brk =>
    obtain ⟨_, _, _, q⟩ := hs
    exact False.elim q
  | cont =>
    obtain ⟨_, _, _, q⟩ := hs
    exact False.elim q
end Kn
namespace Kn
open PySem L2 PySem.Spec
def okV (m : Bool) (vs : List V) : Prop := m = true → ∃ y, vs = [.str y] ∧ y.length ≤ 1000
/-- C(..) of such a class, as it is raised -/
def tMkS (C : Addr) (fs : List Str) (m : Bool) (ta : TA) : L2.St → Hp → XK → Prop := fun σ H Q => ta σ H fun vs H1 => vs.length = fs.length ∧ okV m vs ∧ ∀ d, H1 d = none → Q (.ref C) (some d) (upd H1 d (.xd (fs.zip vs).reverse))
/-- what is wanted of the class x to raise it; its fields are fs, m: its message is made of the argument -/
structure RaiseT (P : Program) (w : World) (K : PySem.W.Frag) (mg : Str → Option Value) (base : Heap) (x : Str) (fs : List Str) (m : Bool) : Prop where
  ex : ∃ fI fd sp, mg x = some (.ref (clsA mg x)) ∧ OexC K (clsA mg x) ∧ PySem.W.findIn K (.ref (clsA mg x)) "__init__" = some (some (.ref fI)) ∧ PySem.W.typeIn K (.ref fI) = some (.type "function") ∧ FnOk P w K mg base CX0 1 fI fd ("self" :: fs) sp ∧ Binds K fd ("self" :: fs) [] ∧
    ∀ vs H1 (Q : XK), vs.length = fs.length → okV m vs → (∀ d, H1 d = none → Q (.ref (clsA mg x)) (some d) (upd H1 d (.xd (fs.zip vs).reverse))) → ∀ a, H1 a = none → sp (.ref a :: (vs ++ [])) (upd H1 a (exo a (clsA mg x) none))
      (fun v H2 => v = .non ∧ ∃ (d : Addr) (fs : List (Str × V)), H2 a = some (exo a (clsA mg x) (some d)) ∧ H2 d = some (exd d fs) ∧ H1 d = none ∧ Q (.ref (clsA mg x)) (some d) (upd (del H2 a) d (.xd fs))) (fun _ _ _ => False)
theorem pmkS {X : Cx} {x : Str} {fs : List Str} {m : Bool} {p pos : Pos} {e : Expr} {es : List Expr} {ta : TA} (R : RaiseT X.prog X.w X.K X.mg X.base x fs m) (hr : Room 2 X.A) (hfs : fs.length ≤ 1000) (hg : Gl X x) (ha : PA X (e :: es) ta)
    (hdb : (x == ("__debug__" : Str)) = false := by decide) (he : starEach (e :: es) X.env = (false, eval e X.env) :: starEach es X.env := by rfl) (hpl : (backTo pos (starEach es X.env)).any (·.1) = false := by rfl) : PMk X (.Call (.Name x p) (e :: es) [] pos) (tMkS (clsA X.mg x) fs m ta) := by
  obtain ⟨fI, fd, sp, hm, T, iC, tI, F1, hb, imp⟩ := R.ex
  have h0 : PA X (e :: es) fun σ H Q => ∃ P : List V → Hp → Prop, ta σ H P ∧ ∀ vs H1, P vs H1 → Q vs H1 :=
    ⟨fun pos pins s σ H Q I ⟨P, h, k⟩ => thn (ha.run pos pins s σ H _ I h) fun us s1 ⟨vs, H1, I1, r, q⟩ => ⟨vs, H1, I1, r, k vs H1 q⟩⟩
  have key := pmk_oex (p := p) (pos := pos) (dvs := []) T iC tI F1 hr hb .nil pass0 hg hm h0 hdb he hpl
  intro pins s σ H Q I h
  exact key pins s σ H Q I ⟨_, h, fun vs H1 ⟨l, o, q⟩ => ⟨by rw [l]; exact hfs, fun a ha => imp vs H1 Q l o q a ha⟩⟩
theorem big_add {z m : Str} (h : z.length ≤ 1000) (hm : m.length ≤ 1000 := by decide +kernel) : m.length + z.length ≤ sizeLine := by rw [sizeLine_eq]; omega
/-- the class with one field -/
theorem raise1 {P : Program} {w : World} {K : PySem.W.Frag} {mg : Str → Option Value} {base : Heap} {x f : Str} {m : Bool} {fI : Addr} {fd : FuncData} {ta : TA} (hm : mg x = some (.ref (clsA mg x))) (T : OexC K (clsA mg x)) (iC : PySem.W.findIn K (.ref (clsA mg x)) "__init__" = some (some (.ref fI))) (tI : PySem.W.typeIn K (.ref fI) = some (.type "function"))
    (nf : PySem.W.findIn K (.ref (clsA mg x)) f = some none) (F1 : FnOk P w K mg base CX0 1 fI fd ["self", f] (spS ["self", f] (clsA mg x) ta (tOst K f (tVar 0) (tVar 1)))) (hb : Binds K fd ["self", f] [])
    (hta : ∀ a y H (Q : List V → Hp → Prop), okV m [y] → (∀ us, us.length ≤ 1000 → Q us H) → ta [some (.ref a), some y] H Q) : RaiseT P w K mg base x [f] m := by
  refine ⟨fI, fd, _, hm, T, iC, tI, F1, hb, fun vs H1 Q hl ho q a ha => ?_⟩
  obtain ⟨y, rfl⟩ : ∃ y, vs = [y] := by
    match vs, hl with
    | [y], _ => exact ⟨y, rfl⟩
  refine ⟨rfl, a, [y], rfl, upd_same, hta a y _ _ ho fun us hu => ⟨hu, upd_same, y, rfl, .ref a, rfl, a, clsA mg x, rfl, T, nf, .inl ⟨upd_same, fun dx hd hne => ⟨rfl, dx, [(f, y)], upd_same, ?_, ?_, ?_⟩⟩⟩⟩
  · rw [upd_ne hne, upd_same]
  · rw [upd_ne hne] at hd; exact hd
  · rw [upd_ne hne] at hd
    have e : upd (del (upd (upd (upd H1 a (exo a (clsA mg x) none)) dx (exd dx [(f, y)])) a (exo a (clsA mg x) (some dx))) a) dx (.xd [(f, y)]) = upd H1 dx (.xd [(f, y)]) := by
      funext b
      by_cases c : b = dx
      · rw [c, upd_same, upd_same]
      · rw [upd_ne c, upd_ne c]
        by_cases c2 : b = a
        · rw [c2, del_same, ha]
        · rw [del_ne c2, upd_ne c2, upd_ne c, upd_ne c2]
    rw [e]
    exact q dx hd
end Kn

set_option Elab.async false
set_option maxRecDepth 100000
set_option linter.all false
/-! ### isinstance of a caught error, with or without fields -/
namespace Kn
open PySem L2 PySem.Spec
section
variable {prog : Program} {w : World} {A : Around} {E : Value → Shared → Prop} {s : Shared} {K : PySem.W.Frag} {x D : Addr} {ox : Obj} {od : Option Obj}
theorem find_class (C : ExcC K D) : PySem.W.findObj K D od "__class__" = some (.bind (.builtin "getset_descriptor.__get__") (.builtin "object.__class__")) := by
  obtain ⟨cd, hc, _⟩ := PySem.W.any_some C.hd
  unfold PySem.W.findObj
  rw [hc, Option.bind_some, C.ha, Option.bind_some]
  simp [C.hn, C.ht]
theorem class_of {Q : Option Value → Shared → Prop} (C : ExcC K D) (X : K.In s.heap) (I : PySem.W.InstAt s.heap x ox D od) (h : Q (some (.ref D)) { s with toks := s.toks + 1 }) : wpAny (model prog w) A (getAttr? (.ref x) "__class__") Q E s := by
  obtain ⟨hp, g, d, t, os⟩ := s
  have L0 := I.type (M := model prog w)
  have L1 := PySem.W.looks_findIn (M := model prog w) X C.hg
  have L2 := PySem.W.looks_findIn (M := model prog w) X C.hk
  have L3 := PySem.W.looks_find (M := model prog w) X I (find_class C)
  have hb : PySem.W.Looks (model prog w) hp (isInstance (.ref x) (.type "BaseException")) true := L0.andThen (PySem.W.looks_subIn X C.hs)
  have q2 : (Value.builtin "BaseException.__getattribute__" == Value.builtin "object.__getattribute__") = false := by decide +kernel
  have q1 : (onTheHeap (Value.ref D) && Value.builtin "BaseException.__getattribute__" == Value.builtin "object.__getattribute__") = false := by rw [q2]; rfl
  have q0 : (false && onTheHeap (Value.builtin "BaseException.__getattribute__")) = false := rfl
  unfold getAttr? getAttrBy? getAttrBy
  refine wpAny_bind (wpAny_mkText (wpAny_bind (wpAny_attempt (wpAny_holding (wpAny_bind (L0.at (wpAny_bind (L1.at ?k))))))))
  show wpAny _ _ (if (onTheHeap (Value.ref D) && Value.builtin "BaseException.__getattribute__" == Value.builtin "object.__getattribute__") = true then _ else _) _ _ _
  rw [q1, if_neg Bool.false_ne_true]
  unfold getAttrByItsOwn hookBefore
  have q3 : onTheHeap (Value.ref D) = true := rfl
  refine wpAny_bind ?_
  rw [if_pos q3]
  refine L2.at (wpAny_bind (wpAny_attempt (wpAny_holding ?_)))
  unfold callGetattribute; rw [q0, if_neg Bool.false_ne_true]
  unfold boundAndCalled; rw [PySem.F.excAttr_ValueError.ga.bind (.ref x)]
  refine wpAny_bind (wpAny_pure ?_)
  show wpAny _ _ (call (.builtin "BaseException.__getattribute__") [.ref x, .str "__class__" t]) _ _ _
  refine wpAny_call (codeAny_call_builtin PySem.F.excAttr_ValueError.ga.plain PySem.F.entry_bexc_ga ?_)
  refine @PySem.W.check_slot (model prog w) _ _ ⟨hp, g, d, t + 1, os⟩ "BaseException.__getattribute__" "BaseException" "__getattribute__" (.ref x) [.str "__class__" t] [] _ (by decide +kernel) (by decide +kernel) hb (PySem.F.args_bexc_ga (.ref x) (.str "__class__" t)) ?_
  unfold Builtin.«object.__getattribute__»
  refine wpAny_bind (wpAny_of_eq (a := ((Value.ref x : Value), [Value.str "__class__" t])) (by first | rfl | (simp only [slotArgs]; rfl)) (wpAny_bind (wpAny_pure (wpAny_bind (L0.at (wpAny_bind (L3.at ?_)))))))
  show wpAny _ _ (holding [Value.builtin "object.__class__"] (call (.builtin "getset_descriptor.__get__") [.builtin "object.__class__", .ref x, .ref D]) >>= ret) _ _ _
  refine wpAny_bind (wpAny_holding (wpAny_call (PySem.W.class_get (s := ⟨hp, g, d, t + 1, os⟩) (ox := ox) (od := od) X I C.hm (wpAny_pure ?_))))
  show wpAny _ _ (handedOut (.ref D)) _ _ _
  rw [PySem.W.handedOut_of (v := .ref D) rfl]
  first
    | exact wpAny_pure (wpAny_pure h)
    | exact wpAny_pure h
    | exact wpAny_pure (wpAny_bind (wpAny_pure (wpAny_pure h)))
theorem kit_exc (C : ExcC K D) : PySem.W.KitX K (.ref x) (.ref D) (fun h => PySem.W.InstAt h x ox D od) where
  ty := fun _ _ _ I => I.type
  it := fun _ _ X _ => by
    obtain ⟨cdD, hc, _⟩ := PySem.W.any_some C.hd
    unfold PySem.W.clsIn at hc
    split at hc
    · rename_i ho
      intro A' Q' E' s' k q
      unfold isType loadHead
      exact wpAny_bind (wpAny_loadPart (k _ _ (X _ _ ho)) (wpAny_pure q))
    · cases hc
  ne := fun h tp dd its n sl X htp => by
    obtain ⟨cdD, hc, _⟩ := PySem.W.any_some C.hd
    refine Bool.eq_false_iff.mpr fun q => ?_
    have e : D = tp := Value.ref.inj (beq_iff_eq.mp q)
    subst e
    unfold PySem.W.clsIn at hc
    split at hc
    · rename_i ho
      have z := (X _ _ ho).symm.trans htp
      cases z
    · cases hc
  ca := fun X I k => class_of C X I k
end
def rIsY (K : PySem.W.Frag) (cls : Value) (d : Option Addr) (a : Addr) : List V → Hp → VK → Prop := fun xs H Q => ∃ (D : Addr) (c : V) (cv : Value) (b : Bool), cls = .ref D ∧ (d = none ∨ ∃ dd fs, d = some dd ∧ H dd = some (.xd fs)) ∧ ExcC K D ∧ xs = [.ref a, c] ∧ (∀ u, RelV c u → u = cv) ∧ PySem.W.kitOne K (.ref D) cv = some b ∧ Q (.bl b) H
theorem call_isY {X : Cx} {a : Addr} {cls : Value} {d : Option Addr} {oe : Obj} {pn : List (Addr × Obj)} (K : PySem.W.Frag) (hz : Zc cls d oe) (hf : ∃ vs, oe.data = .fields vs) (hK : X.K = K := by rfl) : CallR (X.suite a ((a, oe) :: pn)) (.builtin "isinstance") (rIsY K cls d a) := by
  subst hK
  intro pins s σ H xs us Q I r h
  obtain ⟨D, c, cv, b, rfl, hd, C, rfl, hcv, e, q⟩ := h
  cases r with
  | cons rx rr =>
    cases rr with
    | cons rt rr =>
      cases rr
      cases rx
      have ec := hcv _ rt
      subst ec
      obtain ⟨hget, _⟩ := I.pin (a, oe) (List.mem_append.mpr (.inl List.mem_cons_self))
      obtain ⟨vs, hv⟩ := hf
      have nc : PySem.W.notCls oe = true := by unfold PySem.W.notCls; rw [hv] <;> rfl
      have J : ∃ od, PySem.W.InstAt s.heap a oe D od := by
        rcases hd with rfl | ⟨dd, fs, rfl, hx⟩
        · refine ⟨none, hget, hz.1, nc, ?_⟩
          rw [hz.2]; trivial
        · obtain ⟨mA, hns, hr⟩ : ObjOk X.prog X.w H s.heap dd (.xd fs) := I.hok dd _ hx
          obtain ⟨od, ho, hl⟩ := lookIn_ns hns
          refine ⟨some od, hget, hz.1, nc, ?_⟩
          rw [hz.2]; exact ho
      obtain ⟨od, J⟩ := J
      exact PySem.W.kia_one (kit_exc C) I.kIn J e (fun z => nomatch z) fun tk => ⟨.bl b, H, I.kept (t' := tk) fun _ _ z => z, rfl, q⟩
end Kn

set_option Elab.async false
set_option maxRecDepth 100000
set_option linter.all false
namespace Kn
open PySem L2
/-! ### x * n of a text -/
def repS (x : Str) (n : Nat) : Str := ⟨((List.replicate n x.cps.toList).flatten).toArray⟩
theorem foldl_app (l : List (Array Nat)) : ∀ a : Array Nat, (l.foldl (· ++ ·) a).toList = a.toList ++ (l.map Array.toList).flatten := by
  induction l with
  | nil => intro a; simp
  | cons b l ih => intro a; rw [List.foldl_cons, ih]; simp
theorem repS_fold (x : Str) (n : Nat) : (⟨(List.replicate n x.cps).foldl (· ++ ·) #[]⟩ : Str) = repS x n := by
  unfold repS
  congr 1
  apply Array.ext'
  rw [foldl_app, List.map_replicate]
  simp
def rMulS : V → V → Hp → VK → Prop := fun x y H Q => ∃ (z : Str) (n : Nat), x = .str z ∧ y = .int (n : Int) ∧ z.length ≤ 1000 ∧ n ≤ 1000 ∧ Q (.str (repS z n)) H
theorem op_mul_str {X : Cx} : OpR X (binaryOp .Mult) rMulS := by
  intro pins s σ H x y v u Q I rx ry h
  obtain ⟨z, n, rfl, rfl, h1, h2, q⟩ := h
  obtain ⟨t, rfl⟩ := rx
  obtain ⟨t', rfl⟩ := ry
  have hz : z.length * n ≤ 1000 * 1000 := Nat.mul_le_mul h1 h2
  refine PySem.P.mul_str ?_ ?_ ?_ ?_
  · rw [decide_eq_false (by omega), decide_eq_false (by omega)]; rfl
  · intro c _
    have c : 1 ≤ n := by omega
    have : (1 : Int) ≤ n := by omega
    have h3 : (1000 : Int) ≤ (2 ^ 63 - 1) / n := by
      rw [Int.le_ediv_iff_mul_le (by omega)]
      omega
    omega
  · intro _ _
    show decide (z.length * ((n : Int)).toNat > sizeLine) = false
    rw [Int.toNat_natCast, decide_eq_false]
    have : (1000000 : Nat) ≤ sizeLine := by decide
    omega
  · have fin : ∀ t, EP X pins σ Q (.str (repS z n) t) { s with toks := s.toks + 1 } := fun t => ⟨.str (repS z n), H, I.tok _, ⟨_, rfl⟩, q⟩
    by_cases c : (n : Int) < 1
    · have e : n = 0 := by omega
      subst e
      rw [if_pos c]
      exact ⟨by decide, fin _⟩
    · rw [if_neg c]
      by_cases c2 : ((n : Int) == 1 || z.length == 0) = true
      · rw [if_pos c2]
        have e : repS z n = z := by
          rw [Bool.or_eq_true] at c2
          rcases c2 with c2 | c2
          · have e : n = 1 := by have := beq_iff_eq.mp c2; omega
            subst e
            unfold repS
            simp
          · have e : z.length = 0 := beq_iff_eq.mp c2
            obtain ⟨arr⟩ := z
            have e : arr.size = 0 := e
            have e : arr = #[] := Array.size_eq_zero_iff.mp e
            subst e
            unfold repS
            simp
        rw [e] at q
        exact ⟨.str z, H, I, ⟨_, rfl⟩, q⟩
      · rw [if_neg c2, Int.toNat_natCast, repS_fold]
        have sz : (repS z n).length = n * z.length := by
          show ((List.replicate n z.cps.toList).flatten).toArray.size = _
          rw [List.size_toArray, List.length_flatten, List.map_replicate, List.sum_replicate_nat]
          rfl
        refine ⟨?_, fin _⟩
        rw [sz, Nat.mul_comm]
        have : (1000000 : Nat) ≤ sizeLine := by decide
        omega
end Kn

set_option Elab.async false
set_option maxRecDepth 100000
set_option linter.all false
/-! The D layer: data without a heap. D: data; Dv: a value is that data in the heap; R: the slots of a def as data. -/
namespace Kn
open PySem L2
inductive D where
  | non | bl (b : Bool) | int (i : Int) | str (x : Str) | ty (n : String)
  | tup (ds : List D) | lst (ds : List D) | dct (ks : List (Key × D)) | obj (C : Addr) (fs : List (Str × D))
  | ref (a : Addr) | tape | scr | exc (a C : Addr) (d : Option Addr) (fs : List (Str × D))
mutual
inductive Dv (K : PySem.W.Frag) (Tp : Addr → Prop) (H : Hp) : V → D → Prop
  | non : Dv K Tp H .non .non
  | bl (b : Bool) : Dv K Tp H (.bl b) (.bl b)
  | int (i : Int) : Dv K Tp H (.int i) (.int i)
  | str (x : Str) : Dv K Tp H (.str x) (.str x)
  | ty (n : String) : Dv K Tp H (.ty n) (.ty n)
  | tup {a : Addr} {xs : List V} {ds : List D} (h : SqT K H a xs) (t : DvL K Tp H xs ds) : Dv K Tp H (.ref a) (.tup ds)
  | lst {a : Addr} {xs : List V} {ds : List D} (h : H a = some (.lst xs)) (t : DvL K Tp H xs ds) : Dv K Tp H (.ref a) (.lst ds)
  | dct {a : Addr} {xs : List (Key × V)} {ks : List (Key × D)} (h : Rd H a (.dK xs)) (t : DvK K Tp H xs ks) : Dv K Tp H (.ref a) (.dct ks)
  | obj {a C dx : Addr} {xs : List (Str × V)} {fs : List (Str × D)} (h : H a = some (.ins C dx xs)) (t : DvF K Tp H xs fs) : Dv K Tp H (.ref a) (.obj C fs)
  | ref (a : Addr) : Dv K Tp H (.ref a) (.ref a)
  | tape {t : Addr} (h : Tp t) : Dv K Tp H (.ref t) .tape
  | scr {a : Addr} {ns : List Int} (h : SqL K H a (ns.map V.int)) (hl : ns.length ≤ 63) : Dv K Tp H (.ref a) .scr
  | exc0 (a C : Addr) : Dv K Tp H (.ref a) (.exc a C none [])
  | exc1 {a C b : Addr} {vs : List (Str × V)} {fs : List (Str × D)} (h : H b = some (.xd vs)) (t : DvF K Tp H vs fs) : Dv K Tp H (.ref a) (.exc a C (some b) fs)
inductive DvL (K : PySem.W.Frag) (Tp : Addr → Prop) (H : Hp) : List V → List D → Prop
  | nil : DvL K Tp H [] []
  | cons {v : V} {d : D} {vs : List V} {ds : List D} (h : Dv K Tp H v d) (t : DvL K Tp H vs ds) : DvL K Tp H (v :: vs) (d :: ds)
inductive DvK (K : PySem.W.Frag) (Tp : Addr → Prop) (H : Hp) : List (Key × V) → List (Key × D) → Prop
  | nil : DvK K Tp H [] []
  | cons {k : Key} {v : V} {d : D} {vs : List (Key × V)} {ds : List (Key × D)} (h : Dv K Tp H v d) (t : DvK K Tp H vs ds) : DvK K Tp H ((k, v) :: vs) ((k, d) :: ds)
inductive DvF (K : PySem.W.Frag) (Tp : Addr → Prop) (H : Hp) : List (Str × V) → List (Str × D) → Prop
  | nil : DvF K Tp H [] []
  | cons {k : Str} {v : V} {d : D} {vs : List (Str × V)} {ds : List (Str × D)} (h : Dv K Tp H v d) (t : DvF K Tp H vs ds) : DvF K Tp H ((k, v) :: vs) ((k, d) :: ds)
end
/-- all that stood stands; a dict may be locked or unlocked -/
def Lq (H H' : Hp) : Prop := ∀ b o, H b = some o → H' b = some o ∨ ∃ kvs, (o = .dK kvs ∨ ∃ od, o = .frz od (.dK kvs)) ∧ Rd H' b (.dK kvs)
theorem Same.lq {H H' : Hp} (e : Same H H') : Lq H H' := fun b o h => .inl (e b o h)
theorem Lq.refl (H : Hp) : Lq H H := fun b o h => .inl h
theorem Lq.tup {H H' : Hp} (e : Lq H H') {a : Addr} {xs : List V} (h : Rd H a (.tup xs)) : Rd H' a (.tup xs) := by
  rcases h with h | ⟨o, h⟩
  · rcases e _ _ h with h | ⟨k, h | ⟨_, h⟩, _⟩
    · exact .inl h
    · cases h
    · cases h
  · rcases e _ _ h with h | ⟨k, h | ⟨_, h⟩, _⟩
    · exact .inr ⟨o, h⟩
    · cases h
    · cases h
theorem Lq.dct {H H' : Hp} (e : Lq H H') {a : Addr} {xs : List (Key × V)} (h : Rd H a (.dK xs)) : Rd H' a (.dK xs) := by
  rcases h with h | ⟨o, h⟩
  · rcases e _ _ h with h | ⟨k, h | ⟨_, h⟩, r⟩
    · exact .inl h
    · cases h; exact r
    · cases h
  · rcases e _ _ h with h | ⟨k, h | ⟨_, h⟩, r⟩
    · exact .inr ⟨o, h⟩
    · cases h
    · cases h; exact r
theorem Lq.lst {H H' : Hp} (e : Lq H H') {a : Addr} {xs : List V} (h : H a = some (.lst xs)) : H' a = some (.lst xs) := by
  rcases e _ _ h with h | ⟨k, h | ⟨_, h⟩, r⟩
  · exact h
  · cases h
  · cases h
theorem Lq.lstR {H H' : Hp} (e : Lq H H') {a : Addr} {xs : List V} (h : Rd H a (.lst xs)) : Rd H' a (.lst xs) := by
  rcases h with h | ⟨o, h⟩
  · rcases e _ _ h with h | ⟨k, h | ⟨_, h⟩, _⟩
    · exact .inl h
    · cases h
    · cases h
  · rcases e _ _ h with h | ⟨k, h | ⟨_, h⟩, _⟩
    · exact .inr ⟨o, h⟩
    · cases h
    · cases h
theorem Lq.ins {H H' : Hp} (e : Lq H H') {a C dx : Addr} {xs : List (Str × V)} (h : H a = some (.ins C dx xs)) : H' a = some (.ins C dx xs) := by
  rcases e _ _ h with h | ⟨k, h | ⟨_, h⟩, r⟩
  · exact h
  · cases h
  · cases h
theorem Lq.xd {H H' : Hp} (e : Lq H H') {a : Addr} {xs : List (Str × V)} (h : H a = some (.xd xs)) : H' a = some (.xd xs) := by
  rcases e _ _ h with h | ⟨k, h | ⟨_, h⟩, r⟩
  · exact h
  · cases h
  · cases h
section
variable {K : PySem.W.Frag} {Tp Tp' : Addr → Prop} {H H' : Hp}
mutual
theorem Dv.le (e : Lq H H') (et : ∀ t, Tp t → Tp' t) : ∀ {v : V} {d : D}, Dv K Tp H v d → Dv K Tp' H' v d
  | _, _, .non => .non
  | _, _, .bl b => .bl b
  | _, _, .int i => .int i
  | _, _, .str x => .str x
  | _, _, .ty n => .ty n
  | _, _, .tup h t => .tup (match h with | .inl h => .inl (e.tup h) | .inr h => .inr h) (DvL.le e et t)
  | _, _, .lst h t => .lst (e.lst h) (DvL.le e et t)
  | _, _, .dct h t => .dct (e.dct h) (DvK.le e et t)
  | _, _, .obj h t => .obj (e.ins h) (DvF.le e et t)
  | _, _, .ref a => .ref a
  | _, _, .tape h => .tape (et _ h)
  | _, _, .scr h hl => .scr (match h with | .inl h => .inl (e.lstR h) | .inr h => .inr h) hl
  | _, _, .exc0 a C => .exc0 a C
  | _, _, .exc1 h t => .exc1 (e.xd h) (DvF.le e et t)
theorem DvL.le (e : Lq H H') (et : ∀ t, Tp t → Tp' t) : ∀ {v : List V} {d : List D}, DvL K Tp H v d → DvL K Tp' H' v d
  | _, _, .nil => .nil
  | _, _, .cons h t => .cons (Dv.le e et h) (DvL.le e et t)
theorem DvK.le (e : Lq H H') (et : ∀ t, Tp t → Tp' t) : ∀ {v : List (Key × V)} {d : List (Key × D)}, DvK K Tp H v d → DvK K Tp' H' v d
  | _, _, .nil => .nil
  | _, _, .cons h t => .cons (Dv.le e et h) (DvK.le e et t)
theorem DvF.le (e : Lq H H') (et : ∀ t, Tp t → Tp' t) : ∀ {v : List (Str × V)} {d : List (Str × D)}, DvF K Tp H v d → DvF K Tp' H' v d
  | _, _, .nil => .nil
  | _, _, .cons h t => .cons (Dv.le e et h) (DvF.le e et t)
end
theorem DvL.len : ∀ {vs : List V} {ds : List D}, DvL K Tp H vs ds → vs.length = ds.length
  | _, _, .nil => rfl
  | _, _, .cons _ t => by simp [DvL.len t]
theorem DvK.len : ∀ {vs : List (Key × V)} {ds : List (Key × D)}, DvK K Tp H vs ds → vs.length = ds.length
  | _, _, .nil => rfl
  | _, _, .cons _ t => by simp [DvK.len t]
theorem DvF.len : ∀ {vs : List (Str × V)} {ds : List (Str × D)}, DvF K Tp H vs ds → vs.length = ds.length
  | _, _, .nil => rfl
  | _, _, .cons _ t => by simp [DvF.len t]
theorem DvL.get : ∀ {vs : List V} {ds : List D} {i : Nat} {d : D}, DvL K Tp H vs ds → ds[i]? = some d → ∃ v, vs[i]? = some v ∧ Dv K Tp H v d
  | _, _, _, _, .nil, e => by simp at e
  | _, _, 0, _, .cons h _, e => by simp at e; subst e; exact ⟨_, rfl, h⟩
  | _, _, i + 1, d, .cons _ a, e => by
    obtain ⟨v, h1, h2⟩ := DvL.get (i := i) (d := d) a (by simpa using e)
    exact ⟨v, by simpa using h1, h2⟩
theorem DvL.getV : ∀ {vs : List V} {ds : List D} {i : Nat} {v : V}, DvL K Tp H vs ds → vs[i]? = some v → ∃ d, ds[i]? = some d ∧ Dv K Tp H v d
  | _, _, _, _, .nil, e => by simp at e
  | _, _, 0, _, .cons h _, e => by simp at e; subst e; exact ⟨_, rfl, h⟩
  | _, _, i + 1, d, .cons _ a, e => by
    obtain ⟨v, h1, h2⟩ := DvL.getV (i := i) (v := d) a (by simpa using e)
    exact ⟨v, by simpa using h1, h2⟩
theorem DvL.app : ∀ {vs ws : List V} {ds es : List D}, DvL K Tp H vs ds → DvL K Tp H ws es → DvL K Tp H (vs ++ ws) (ds ++ es)
  | _, _, _, _, .nil, h => h
  | _, _, _, _, .cons g a, h => .cons g (DvL.app a h)
theorem DvL.take : ∀ (n : Nat) {vs : List V} {ds : List D}, DvL K Tp H vs ds → DvL K Tp H (vs.take n) (ds.take n)
  | 0, _, _, _ => by simp; exact .nil
  | _ + 1, _, _, .nil => .nil
  | n + 1, _, _, .cons h a => .cons h (DvL.take n a)
theorem DvL.drop : ∀ (n : Nat) {vs : List V} {ds : List D}, DvL K Tp H vs ds → DvL K Tp H (vs.drop n) (ds.drop n)
  | 0, _, _, a => a
  | _ + 1, _, _, .nil => .nil
  | n + 1, _, _, .cons _ a => DvL.drop n a
theorem DvL.rev : ∀ {vs : List V} {ds : List D}, DvL K Tp H vs ds → DvL K Tp H vs.reverse ds.reverse
  | _, _, .nil => .nil
  | _, _, .cons h a => by
    rw [List.reverse_cons, List.reverse_cons]
    exact DvL.app (DvL.rev a) (.cons h .nil)
theorem DvL.ints_inv : ∀ {ns : List Int} {vs : List V}, DvL K Tp H vs (ns.map D.int) → vs = ns.map V.int
  | [], _, .nil => rfl
  | n :: ns, _, .cons (.int _) a => by rw [DvL.ints_inv a]; rfl
theorem DvL.ints : ∀ (ns : List Int), DvL K Tp H (ns.map V.int) (ns.map D.int)
  | [] => .nil
  | n :: ns => .cons (.int n) (DvL.ints ns)
theorem DvL.bls_inv : ∀ {ns : List Bool} {vs : List V}, DvL K Tp H vs (ns.map D.bl) → vs = ns.map V.bl
  | [], _, .nil => rfl
  | n :: ns, _, .cons (.bl _) a => by rw [DvL.bls_inv a]; rfl
theorem DvL.strs_inv : ∀ {ns : List Str} {vs : List V}, DvL K Tp H vs (ns.map D.str) → vs = ns.map V.str
  | [], _, .nil => rfl
  | n :: ns, _, .cons (.str _) a => by rw [DvL.strs_inv a]; rfl
theorem DvL.strs : ∀ (ns : List Str), DvL K Tp H (ns.map V.str) (ns.map D.str)
  | [] => .nil
  | n :: ns => .cons (.str n) (DvL.strs ns)
def look {κ : Type} [DecidableEq κ] : List (κ × D) → κ → Option D
  | [], _ => none
  | p :: l, k => if p.1 = k then some p.2 else look l k
theorem DvK.look_some : ∀ {vs : List (Key × V)} {ds : List (Key × D)} {k : Key} {d : D}, DvK K Tp H vs ds → look ds k = some d → ∃ v, valV vs k = some v ∧ Dv K Tp H v d
  | _, _, _, _, .nil, e => by simp [look] at e
  | (k', v) :: vs, _, k, d, .cons h a, e => by
    by_cases c : k' = k
    · rw [look, if_pos c] at e; cases e
      exact ⟨v, valV_pos (p := (k', v)) c, h⟩
    · rw [look, if_neg c] at e
      obtain ⟨w, h1, h2⟩ := DvK.look_some a e
      exact ⟨w, by rw [valV_neg (p := (k', v)) c]; exact h1, h2⟩
theorem DvK.look_none : ∀ {vs : List (Key × V)} {ds : List (Key × D)} {k : Key}, DvK K Tp H vs ds → look ds k = none → valV vs k = none
  | _, _, _, .nil, e => rfl
  | (k', v) :: vs, _, k, .cons h a, e => by
    by_cases c : k' = k
    · rw [look, if_pos c] at e; cases e
    · rw [look, if_neg c] at e
      rw [valV_neg (p := (k', v)) c]; exact DvK.look_none a e
/-- d[k] = x -/
def put (ks : List (Key × D)) (k : Key) (x : D) : List (Key × D) := if (ks.any fun p => decide (p.1 = k)) = true then ks.map fun p => if p.1 = k then (p.1, x) else p else ks ++ [(k, x)]
theorem DvK.any : ∀ {vs : List (Key × V)} {ds : List (Key × D)} (k : Key), DvK K Tp H vs ds → (vs.any fun p => decide (p.1 = k)) = ds.any fun p => decide (p.1 = k)
  | _, _, _, .nil => rfl
  | _, _, k, .cons _ a => by rw [List.any_cons, List.any_cons, DvK.any k a]
theorem DvK.mapPut : ∀ {vs : List (Key × V)} {ds : List (Key × D)} {k : Key} {v : V} {d : D}, DvK K Tp H vs ds → Dv K Tp H v d → DvK K Tp H (vs.map fun p => if p.1 = k then (p.1, v) else p) (ds.map fun p => if p.1 = k then (p.1, d) else p)
  | _, _, _, _, _, .nil, _ => .nil
  | (k', v') :: vs, (_, d') :: ds, k, v, d, .cons h a, g => by
    rw [List.map_cons, List.map_cons]
    by_cases c : k' = k
    · rw [if_pos c, if_pos c]; exact .cons g (DvK.mapPut a g)
    · rw [if_neg c, if_neg c]; exact .cons h (DvK.mapPut a g)
theorem DvK.snoc : ∀ {vs : List (Key × V)} {ds : List (Key × D)} {k : Key} {v : V} {d : D}, DvK K Tp H vs ds → Dv K Tp H v d → DvK K Tp H (vs ++ [(k, v)]) (ds ++ [(k, d)])
  | _, _, _, _, _, .nil, g => .cons g .nil
  | _, _, _, _, _, .cons h a, g => .cons h (DvK.snoc a g)
theorem DvK.put {vs : List (Key × V)} {ds : List (Key × D)} {k : Key} {v : V} {d : D} (a : DvK K Tp H vs ds) (g : Dv K Tp H v d) : DvK K Tp H (putK vs k v) (put ds k d) := by
  unfold putK Kn.put
  rw [a.any k]
  split
  · exact a.mapPut g
  · exact a.snoc g
def putFd (f : Str) (x : D) : List (Str × D) → List (Str × D)
  | [] => [(f, x)]
  | p :: r => if p.1 = f then (p.1, x) :: r else p :: putFd f x r
theorem DvF.put {f : Str} {v : V} {d : D} (g : Dv K Tp H v d) : ∀ {vs : List (Str × V)} {ds : List (Str × D)}, DvF K Tp H vs ds → DvF K Tp H (putF f v vs) (putFd f d ds)
  | _, _, .nil => .cons g .nil
  | (k, x) :: vs, _, .cons (d := y) (ds := es) h a => by
    show DvF K Tp H (if k = f then (k, v) :: vs else (k, x) :: putF f v vs) (if k = f then (k, d) :: es else (k, y) :: putFd f d es)
    by_cases c : k = f
    · rw [if_pos c, if_pos c]; exact .cons g a
    · rw [if_neg c, if_neg c]; exact .cons h (DvF.put g a)
theorem valV_look : ∀ {vs : List (Key × V)} {ds : List (Key × D)} {k : Key}, DvK K Tp H vs ds → (valV vs k).isSome = (look ds k).isSome
  | vs, ds, k, h => by
    cases e : look ds k with
    | none => rw [DvK.look_none h e]; rfl
    | some d => obtain ⟨v, h1, _⟩ := DvK.look_some h e; rw [h1]; rfl
theorem DvF.look_some : ∀ {vs : List (Str × V)} {ds : List (Str × D)} {k : Str} {d : D}, DvF K Tp H vs ds → look ds k = some d → ∃ v, vs.lookup k = some v ∧ Dv K Tp H v d
  | _, _, _, _, .nil, e => by simp [look] at e
  | (k', v) :: vs, _, k, d, .cons h a, e => by
    by_cases c : k' = k
    · rw [look, if_pos c] at e; cases e
      subst c
      exact ⟨v, by rw [List.lookup_cons_self], h⟩
    · rw [look, if_neg c] at e
      obtain ⟨w, h1, h2⟩ := DvF.look_some a e
      refine ⟨w, ?_, h2⟩
      rw [List.lookup_cons, beq_eq_false_iff_ne.mpr (fun z => c z.symm)]; exact h1
theorem DvF.look_none : ∀ {vs : List (Str × V)} {ds : List (Str × D)} {k : Str}, DvF K Tp H vs ds → look ds k = none → vs.lookup k = none
  | _, _, _, .nil, e => rfl
  | (k', v) :: vs, _, k, .cons h a, e => by
    by_cases c : k' = k
    · rw [look, if_pos c] at e; cases e
    · rw [look, if_neg c] at e
      rw [List.lookup_cons, beq_eq_false_iff_ne.mpr (fun z => c z.symm)]; exact DvF.look_none a e
end
end Kn

set_option Elab.async false
set_option maxRecDepth 100000
set_option linter.all false
set_option autoImplicit false
namespace Kn
open PySem L2
open Classical in
/-- the heap without the addresses that may change -/
noncomputable def Hd (U : Addr → Prop) (H : Hp) : Hp := fun b => if U b then none else H b
theorem Hd.get {U : Addr → Prop} {H : Hp} {b : Addr} {o : HO} (h : H b = some o) (n : ¬ U b) : Hd U H b = some o := by unfold Hd; rw [if_neg n]; exact h
theorem Hd.of {U : Addr → Prop} {H : Hp} {b : Addr} {o : HO} (h : Hd U H b = some o) : H b = some o ∧ ¬ U b := by
  unfold Hd at h
  by_cases c : U b
  · rw [if_pos c] at h; cases h
  · rw [if_neg c] at h; exact ⟨h, c⟩
theorem Hd.sub {U : Addr → Prop} {H : Hp} : Same (Hd U H) H := fun b o h => (Hd.of h).1
/-- a thing that may change, shared -/
inductive Cell where
  | ins (C : Addr) (fs : List (Str × D)) | lst (ds : List D) | dct (ks : List (Key × D)) | lk (od : Obj) (vs : List (Key × V)) (ks : List (Key × D))
structure Wd where
  Tp : Addr → Prop
  ω : Addr → Option Cell
def Cell.isMut : Cell → Prop
  | .lk _ _ _ => False
  | _ => True
/-- what a callee may change -/
def Wd.mt (W : Wd) (b : Addr) : Prop := W.Tp b ∨ ∃ c, W.ω b = some c ∧ c.isMut
def CellOk (K : PySem.W.Frag) (Tp U : Addr → Prop) (H : Hp) (a : Addr) : Cell → Prop
  | .ins C fs => ∃ dx vs, H a = some (.ins C dx vs) ∧ DvF K Tp (Hd U H) vs fs
  | .lst ds => ∃ vs, H a = some (.lst vs) ∧ DvL K Tp (Hd U H) vs ds
  | .dct ks => ∃ vs, H a = some (.dK vs) ∧ DvK K Tp (Hd U H) vs ks
  | .lk od vs ks => H a = some (.frz od (.dK vs)) ∧ DvK K Tp (Hd U H) vs ks
structure Rw (K : PySem.W.Frag) (U : Addr → Prop) (W : Wd) (H : Hp) : Prop where
  dom : ∀ b, U b → H b ≠ none
  tape : ∀ t, W.Tp t → U t ∧ Tape H t ∧ W.ω t = none
  cell : ∀ a c, W.ω a = some c → U a ∧ CellOk K W.Tp U H a c
structure Ent where
  U : Addr → Prop
  W : Wd
  H : Hp
/-- kept; a frozen dict may be locked -/
def Kp (U : Addr → Prop) (b : Addr) (o : HO) (x : Option HO) : Prop := x = some o ∨ (¬ U b ∧ ∃ kvs od, o = .dK kvs ∧ x = some (.frz od (.dK kvs)))
theorem Kp.hid {U : Addr → Prop} {b : Addr} {o : HO} {x : Option HO} (h : Kp U b o x) (u : U b) : x = some o := h.resolve_right fun z => z.1 u
theorem Kp.frz {U : Addr → Prop} {b : Addr} {od : Obj} {w : HO} {x : Option HO} (h : Kp U b (.frz od w) x) : x = some (.frz od w) := h.resolve_right fun ⟨_, _, _, z, _⟩ => by cases z
/-- from the entry to now -/
structure Fr (e : Ent) (U : Addr → Prop) (W : Wd) (H : Hp) : Prop where
  keep : ∀ b o, e.H b = some o → ¬ e.W.mt b → Kp e.U b o (H b)
  up : ∀ b, e.U b → U b
  new : ∀ b, U b → e.U b ∨ e.H b = none
  wnew : ∀ b, W.Tp b ∨ (∃ c, W.ω b = some c) → (e.W.Tp b ∨ ∃ c, e.W.ω b = some c) ∨ e.H b = none
  tp : ∀ b, e.W.Tp b → W.Tp b
  there : ∀ b, e.H b ≠ none → H b ≠ none
  lk : ∀ b c, e.W.ω b = some c → ¬ c.isMut → W.ω b = some c
theorem Wd.mt_w {W : Wd} {b : Addr} (h : W.mt b) : W.Tp b ∨ ∃ c, W.ω b = some c := by
  rcases h with h | ⟨c, h, _⟩
  · exact .inl h
  · exact .inr ⟨c, h⟩
theorem Rw.hid {K : PySem.W.Frag} {U : Addr → Prop} {W : Wd} {H : Hp} (r : Rw K U W H) {b : Addr} (h : W.Tp b ∨ ∃ c, W.ω b = some c) : U b := by
  rcases h with h | ⟨c, h⟩
  · exact (r.tape b h).1
  · exact (r.cell b c h).1
theorem Fr.refl (U : Addr → Prop) (W : Wd) (H : Hp) : Fr ⟨U, W, H⟩ U W H := ⟨fun _ _ h _ => .inl h, fun _ h => h, fun _ h => .inl h, fun _ h => .inl h, fun _ h => h, fun _ h => h, fun _ _ h _ => h⟩
/-- the frozen part stays -/
theorem Fr.lq {K : PySem.W.Frag} {U U' : Addr → Prop} {W W' : Wd} {H H' : Hp} (r : Rw K U W H) (f : Fr ⟨U, W, H⟩ U' W' H') : Lq (Hd U H) (Hd U' H') := fun b o h => by
  obtain ⟨h, n⟩ := Hd.of h
  have nu : ¬ U' b := fun u => by
    rcases f.new b u with z | z
    · exact n z
    · have z : H b = none := z
      rw [h] at z; cases z
  rcases f.keep b o h fun m => n (r.hid (Wd.mt_w m)) with q | ⟨_, kvs, od, rfl, q⟩
  · exact .inl (Hd.get q nu)
  · exact .inr ⟨kvs, .inl rfl, .inr ⟨od, Hd.get q nu⟩⟩
theorem Fr.trans {K : PySem.W.Frag} {e : Ent} {U U' : Addr → Prop} {W W' : Wd} {H H' : Hp} (f : Fr e U W H) (g : Fr ⟨U, W, H⟩ U' W' H') (r : Rw K U W H) : Fr e U' W' H' where
  keep := fun b o h n => by
    have nm : ¬ W.mt b := fun m => by
      rcases f.wnew b (Wd.mt_w m) with z | z
      · rcases z with z | ⟨c, z⟩
        · exact n (.inl z)
        · by_cases q : c.isMut
          · exact n (.inr ⟨c, z, q⟩)
          · have := f.lk b c z q
            rcases m with m | ⟨c', m, q'⟩
            · rw [(r.tape b m).2.2] at this; cases this
            · rw [this] at m; cases m; exact q q'
      · rw [h] at z; cases z
    rcases f.keep b o h n with q | ⟨nu, kvs, od, rfl, q⟩
    · rcases g.keep b o q nm with z | ⟨nu, z⟩
      · exact .inl z
      · exact .inr ⟨fun u => nu (f.up b u), z⟩
    · exact .inr ⟨nu, kvs, od, rfl, (g.keep b _ q nm).frz⟩
  up := fun b h => g.up b (f.up b h)
  new := fun b h => by
    rcases g.new b h with z | z
    · exact f.new b z
    · refine .inr ?_
      cases e1 : e.H b with
      | none => rfl
      | some o => exact absurd z (f.there b (by rw [e1]; intro q; cases q))
  wnew := fun b h => by
    rcases g.wnew b h with z | z
    · exact f.wnew b z
    · refine .inr ?_
      cases e1 : e.H b with
      | none => rfl
      | some o => exact absurd z (f.there b (by rw [e1]; intro q; cases q))
  tp := fun b h => g.tp b (f.tp b h)
  there := fun b h => g.there b (f.there b h)
  lk := fun b c h n => g.lk b c (f.lk b c h n) n
/-! ### the slots -/
inductive PC where
  | val (d : D) | ownL (ds : List D) | ownD (ks : List (Key × D))
structure PSt where
  ρ : List (Option PC)
  W : Wd
/-- what an expression gives: data, or the thing that slot j owns -/
inductive Rv where
  | d (d : D) | own (j : Nat)
inductive Tm where
  | v (v : V) (r : Rv) | pin (b : Addr) (o : Obj) (w : HO) | nw (l : Addr) (ds : List D)
/-- the thing at l is a def's own -/
structure Ow (e : Ent) (U : Addr → Prop) (W : Wd) (l : Addr) : Prop where
  u : U l
  e0 : e.H l = none
  tp : ¬ W.Tp l
  w : W.ω l = none
def SlotOk (K : PySem.W.Frag) (e : Ent) (U : Addr → Prop) (W : Wd) (H : Hp) (v : V) : PC → Prop
  | .val d => Dv K W.Tp (Hd U H) v d
  | .ownL ds => ∃ l vs, v = .ref l ∧ Ow e U W l ∧ H l = some (.lst vs) ∧ DvL K W.Tp (Hd U H) vs ds
  | .ownD ks => ∃ l vs, v = .ref l ∧ Ow e U W l ∧ H l = some (.dK vs) ∧ DvK K W.Tp (Hd U H) vs ks
def PC.isOwn : PC → Prop
  | .val _ => False
  | _ => True
/-- l is no own thing of a slot -/
def NoSlot (σ : St) (S : PSt) (l : Addr) : Prop := ∀ (i : Nat) (c : PC), S.ρ[i]? = some (some c) → c.isOwn → σ[i]? ≠ some (some (.ref l))
def NoTm (T : List Tm) (l : Addr) : Prop := ∀ ds, Tm.nw l ds ∉ T
def TmOk (K : PySem.W.Frag) (e : Ent) (U : Addr → Prop) (S : PSt) (H : Hp) (σ : St) : Tm → Prop
  | .v v (.d d) => Dv K S.W.Tp (Hd U H) v d
  | .v v (.own j) => σ[j]? = some (some v)
  | .pin b o w => ¬ U b ∧ H b = some (.frz o w)
  | .nw l ds => Ow e U S.W l ∧ NoSlot σ S l ∧ ∃ vs, H l = some (.lst vs) ∧ DvL K S.W.Tp (Hd U H) vs ds
structure RU (K : PySem.W.Frag) (e : Ent) (σ : St) (H : Hp) (S : PSt) (T : List Tm) (U : Addr → Prop) : Prop where
  wo : Rw K U S.W H
  fr : Fr e U S.W H
  ed : ∀ b, e.U b → e.H b ≠ none
  len : σ.length = S.ρ.length
  slot : ∀ (i : Nat) (c : PC), S.ρ[i]? = some (some c) → ∃ v, σ[i]? = some (some v) ∧ SlotOk K e U S.W H v c
  sep : ∀ (i j : Nat) (c c' : PC) (l : Addr), i ≠ j → S.ρ[i]? = some (some c) → c.isOwn → S.ρ[j]? = some (some c') → c'.isOwn → σ[i]? = some (some (.ref l)) → σ[j]? = some (some (.ref l)) → False
  tmp : ∀ p ∈ T, TmOk K e U S H σ p
def R (K : PySem.W.Frag) (e : Ent) (σ : St) (H : Hp) (S : PSt) (T : List Tm) : Prop := ∃ U, RU K e σ H S T U
section
variable {K : PySem.W.Frag} {e : Ent} {σ : St} {H H' : Hp} {S : PSt} {T : List Tm} {U U' : Addr → Prop} {W' : Wd}
theorem Ow.to (g : Fr ⟨U, S.W, H⟩ U' W' H') {l : Addr} {u : HO} (o : Ow e U S.W l) (h2 : H l = some u) : Ow e U' W' l ∧ H' l = some u := by
  have nm : ¬ S.W.mt l := fun m => by
    rcases m with m | ⟨c, m, _⟩
    · exact o.tp m
    · rw [o.w] at m; cases m
  have nw : ¬ (W'.Tp l ∨ ∃ c, W'.ω l = some c) := fun m => by
    rcases g.wnew l m with z | z
    · rcases z with z | ⟨c, z⟩
      · exact o.tp z
      · have z : S.W.ω l = some c := z
        rw [o.w] at z; cases z
    · have z : H l = none := z
      rw [h2] at z; cases z
  refine ⟨⟨g.up l o.u, o.e0, fun z => nw (.inl z), ?_⟩, (g.keep l _ h2 nm).hid o.u⟩
  cases q : W'.ω l with
  | none => rfl
  | some c => exact (nw (.inr ⟨c, q⟩)).elim
theorem SlotOk.to (r : Rw K U S.W H) (g : Fr ⟨U, S.W, H⟩ U' W' H') {v : V} : ∀ {c : PC}, SlotOk K e U S.W H v c → SlotOk K e U' W' H' v c
  | .val d, h => Dv.le (g.lq r) g.tp h
  | .ownL ds, ⟨l, vs, h1, o, h2, h3⟩ => let ⟨a, b⟩ := Ow.to g o h2; ⟨l, vs, h1, a, b, DvL.le (g.lq r) g.tp h3⟩
  | .ownD ks, ⟨l, vs, h1, o, h2, h3⟩ => let ⟨a, b⟩ := Ow.to g o h2; ⟨l, vs, h1, a, b, DvK.le (g.lq r) g.tp h3⟩
theorem TmOk.to (r : Rw K U S.W H) (g : Fr ⟨U, S.W, H⟩ U' W' H') : ∀ {p : Tm}, TmOk K e U S H σ p → TmOk K e U' ⟨S.ρ, W'⟩ H' σ p
  | .v v (.d d), h => Dv.le (g.lq r) g.tp h
  | .v v (.own j), h => h
  | .pin b o w, ⟨n, h⟩ => by
      refine ⟨fun u => ?_, (g.keep b _ h fun m => n (r.hid (Wd.mt_w m))).frz⟩
      rcases g.new b u with z | z
      · exact n z
      · have z : H b = none := z
        rw [h] at z; cases z
  | .nw l ds, ⟨o, ns, vs, h2, h3⟩ => let ⟨a, b⟩ := Ow.to g o h2; ⟨a, ns, vs, b, DvL.le (g.lq r) g.tp h3⟩
/-- the world goes on -/
theorem RU.to (x : RU K e σ H S T U) (r' : Rw K U' W' H') (g : Fr ⟨U, S.W, H⟩ U' W' H') : RU K e σ H' ⟨S.ρ, W'⟩ T U' where
  wo := r'
  fr := x.fr.trans g x.wo
  ed := x.ed
  len := x.len
  slot := fun i c h => let ⟨v, h1, h2⟩ := x.slot i c h; ⟨v, h1, h2.to x.wo g⟩
  sep := x.sep
  tmp := fun p hp => (x.tmp p hp).to x.wo g
theorem RU.less {T' : List Tm} (x : RU K e σ H S T U) (h : ∀ p ∈ T', p ∈ T) : RU K e σ H S T' U := { x with tmp := fun p hp => x.tmp p (h p hp) }
theorem R.less {T' : List Tm} (x : R K e σ H S T) (h : ∀ p ∈ T', p ∈ T) : R K e σ H S T' := let ⟨U, x⟩ := x; ⟨U, x.less h⟩
theorem R.pop {p : Tm} (x : R K e σ H S (p :: T)) : R K e σ H S T := x.less fun _ h => List.mem_cons_of_mem _ h
theorem RU.push (x : RU K e σ H S T U) {p : Tm} (h : TmOk K e U S H σ p) : RU K e σ H S (p :: T) U := by
  refine { x with tmp := fun q hq => ?_ }
  rcases List.mem_cons.mp hq with rfl | hq
  · exact h
  · exact x.tmp q hq
theorem same_upd {U : Addr → Prop} {H : Hp} {p : Addr} {o : HO} (hp : H p = none) : Same (Hd U H) (Hd U (upd H p o)) := fun b u h => by
  obtain ⟨h, n⟩ := Hd.of h
  exact Hd.get (by rw [upd_ne (ne_of_none h hp)]; exact h) n
theorem CellOk.le {Tp Tp' : Addr → Prop} {a : Addr} (e1 : Lq (Hd U H) (Hd U' H')) (et : ∀ t, Tp t → Tp' t) (ha : ∀ o, H a = some o → H' a = some o) : ∀ {c : Cell}, CellOk K Tp U H a c → CellOk K Tp' U' H' a c
  | .ins C fs, ⟨dx, vs, h1, h2⟩ => ⟨dx, vs, ha _ h1, DvF.le e1 et h2⟩
  | .lst ds, ⟨vs, h1, h2⟩ => ⟨vs, ha _ h1, DvL.le e1 et h2⟩
  | .dct ks, ⟨vs, h1, h2⟩ => ⟨vs, ha _ h1, DvK.le e1 et h2⟩
  | .lk od vs ks, ⟨h1, h2⟩ => ⟨ha _ h1, DvK.le e1 et h2⟩
theorem Tape.le {t : Addr} (ha : ∀ o, H t = some o → H' t = some o) (h : Tape H t) : Tape H' t := let ⟨ns, h⟩ := h; ⟨ns, ha _ h⟩
theorem Rw.alloc {W : Wd} {p : Addr} {o : HO} (r : Rw K U W H) (hp : H p = none) : Rw K U W (upd H p o) where
  dom := fun b u => by
    by_cases c : b = p
    · subst c; exact absurd hp (r.dom b u)
    · rw [upd_ne c]; exact r.dom b u
  tape := fun t h => let ⟨a, b, c⟩ := r.tape t h; ⟨a, b.le fun o q => by rw [upd_ne (ne_of_none q hp)]; exact q, c⟩
  cell := fun a c h => let ⟨u, q⟩ := r.cell a c h; ⟨u, q.le (Same.lq (same_upd hp)) (fun _ z => z) fun o q => by rw [upd_ne (ne_of_none q hp)]; exact q⟩
theorem Fr.alloc {W : Wd} {p : Addr} {o : HO} (hp : H p = none) : Fr ⟨U, W, H⟩ U W (upd H p o) where
  keep := fun b u h _ => by rw [upd_ne (ne_of_none h hp)]; exact .inl h
  up := fun _ h => h
  new := fun _ h => .inl h
  wnew := fun _ h => .inl h
  tp := fun _ h => h
  there := fun b h => by
    by_cases c : b = p
    · subst c; exact absurd hp h
    · rw [upd_ne c]; exact h
  lk := fun _ _ h _ => h
/-- a new frozen object -/
theorem RU.alloc (x : RU K e σ H S T U) {p : Addr} {o : HO} (hp : H p = none) : RU K e σ (upd H p o) S T U := x.to (x.wo.alloc hp) (Fr.alloc hp)
theorem RU.fresh (x : RU K e σ H S T U) {p : Addr} (hp : H p = none) : ¬ U p := fun u => x.wo.dom p u hp
theorem RU.free0 (x : RU K e σ H S T U) {p : Addr} (hp : H p = none) : e.H p = none := by
  cases q : e.H p with
  | none => rfl
  | some o => exact absurd hp (x.fr.there p (by rw [q]; intro z; cases z))
/-- slot i holds frozen data -/
theorem RU.setVal (x : RU K e σ H S T U) {i : Nat} {v : V} {d : D} (h : Dv K S.W.Tp (Hd U H) v d) (ht : ∀ p ∈ T, ∀ w, p ≠ .v w (.own i)) : RU K e (σ.set i (some v)) H ⟨S.ρ.set i (some (.val d)), S.W⟩ T U where
  wo := x.wo
  fr := x.fr
  ed := x.ed
  len := by simp [x.len]
  slot := fun j c hj => by
    rw [List.getElem?_set] at hj ⊢
    by_cases q : i = j
    · subst q
      rw [if_pos rfl] at hj ⊢
      by_cases z : i < S.ρ.length
      · rw [if_pos z] at hj
        cases hj
        rw [if_pos (by rw [x.len]; exact z)]
        exact ⟨v, rfl, h⟩
      · rw [if_neg z] at hj; cases hj
    · rw [if_neg q] at hj ⊢
      exact x.slot j c hj
  sep := fun j k c c' l n hj oj hk ok sj sk => by
    rw [List.getElem?_set] at hj hk sj sk
    by_cases q : i = j
    · subst q
      rw [if_pos rfl] at hj
      split at hj
      · cases hj; exact oj
      · cases hj
    · by_cases q2 : i = k
      · subst q2
        rw [if_pos rfl] at hk
        split at hk
        · cases hk; exact ok
        · cases hk
      · rw [if_neg q] at hj sj
        rw [if_neg q2] at hk sk
        exact x.sep j k c c' l n hj oj hk ok sj sk
  tmp := fun p hp => by
    have := x.tmp p hp
    match p, this, ht p hp with
    | .v w (.d d), h, _ => exact h
    | .v w (.own j), h, n =>
      show (σ.set i (some v))[j]? = some (some w)
      have z : i ≠ j := fun z => n w (by rw [z])
      rw [List.getElem?_set, if_neg z]; exact h
    | .pin b o w, h, _ => exact h
    | .nw l ds, ⟨o, ns, h⟩, _ =>
      refine ⟨o, fun j c hj oc => ?_, h⟩
      have hj : (S.ρ.set i (some (.val d)))[j]? = some (some c) := hj
      show (σ.set i (some v))[j]? ≠ _
      rw [List.getElem?_set] at hj ⊢
      by_cases q : i = j
      · rw [if_pos q] at hj
        split at hj
        · cases hj; exact oc.elim
        · cases hj
      · rw [if_neg q] at hj ⊢
        exact ns j c hj oc
/-- a frozen dict is locked -/
theorem Hd.lock {a : Addr} {od : Obj} {xs : List (Key × V)} (h : H a = some (.dK xs)) (n : ¬ U a) : Lq (Hd U H) (Hd U (upd H a (.frz od (.dK xs)))) := fun b o q => by
  obtain ⟨q, nb⟩ := Hd.of q
  by_cases c : b = a
  · subst c
    rw [h] at q; cases q
    exact .inr ⟨xs, .inl rfl, .inr ⟨od, Hd.get upd_same nb⟩⟩
  · exact .inl (Hd.get (by rw [upd_ne c]; exact q) nb)
theorem Rw.lock {W : Wd} {a : Addr} {od : Obj} {xs : List (Key × V)} (r : Rw K U W H) (h : H a = some (.dK xs)) (n : ¬ U a) : Rw K U W (upd H a (.frz od (.dK xs))) where
  dom := fun b u => by
    by_cases c : b = a
    · subst c; rw [upd_same]; intro z; cases z
    · rw [upd_ne c]; exact r.dom b u
  tape := fun t ht => let ⟨a1, b, c⟩ := r.tape t ht; ⟨a1, b.le fun o q => by rw [upd_ne (show t ≠ a from fun z => n (z ▸ a1))]; exact q, c⟩
  cell := fun b c hc => let ⟨u, q⟩ := r.cell b c hc; ⟨u, q.le (Hd.lock h n) (fun _ z => z) fun o q => by rw [upd_ne (show b ≠ a from fun z => n (z ▸ u))]; exact q⟩
theorem Fr.lock {W : Wd} {a : Addr} {od : Obj} {xs : List (Key × V)} (h : H a = some (.dK xs)) (n : ¬ U a) : Fr ⟨U, W, H⟩ U W (upd H a (.frz od (.dK xs))) where
  keep := fun b o q _ => by
    by_cases c : b = a
    · subst c
      have q : H b = some o := q
      rw [h] at q; cases q
      exact .inr ⟨n, xs, od, rfl, upd_same⟩
    · exact .inl (by rw [upd_ne c]; exact q)
  up := fun _ h => h
  new := fun _ h => .inl h
  wnew := fun _ h => .inl h
  tp := fun _ h => h
  there := fun b q => by
    by_cases c : b = a
    · subst c; rw [upd_same]; intro z; cases z
    · rw [upd_ne c]; exact q
  lk := fun _ _ h _ => h
theorem RU.lock (x : RU K e σ H S T U) {a : Addr} {od : Obj} {xs : List (Key × V)} (h : H a = some (.dK xs)) (n : ¬ U a) : RU K e σ (upd H a (.frz od (.dK xs))) S (.pin a od (.dK xs) :: T) U := (x.to (x.wo.lock h n) (Fr.lock h n)).push ⟨n, upd_same⟩
end
end Kn

set_option Elab.async false
set_option maxRecDepth 100000
set_option linter.all false
set_option autoImplicit false
namespace Kn
open PySem L2
section
variable {K : PySem.W.Frag} {e : Ent} {σ : St} {H H' : Hp} {S : PSt} {T : List Tm} {U U' : Addr → Prop} {W' : Wd}
/-- behind a removal of an own address from the hidden ones -/
theorem Hd.less {l : Addr} : Same (Hd U H) (Hd (fun b => U b ∧ b ≠ l) H) := fun b o h => by
  obtain ⟨h, n⟩ := Hd.of h
  exact Hd.get h fun z => n z.1
theorem Rw.less {W : Wd} {l : Addr} (r : Rw K U W H) (tp : ¬ W.Tp l) (w : W.ω l = none) : Rw K (fun b => U b ∧ b ≠ l) W H where
  dom := fun b u => r.dom b u.1
  tape := fun t h => let ⟨a, b, c⟩ := r.tape t h; ⟨⟨a, fun z => tp (z ▸ h)⟩, b, c⟩
  cell := fun a c h => let ⟨u, q⟩ := r.cell a c h; ⟨⟨u, fun z => by rw [z, w] at h; cases h⟩, q.le (Same.lq Hd.less) (fun _ z => z) fun o q => q⟩
theorem SlotOk.less {W : Wd} {l : Addr} {v : V} : ∀ {c : PC}, (c.isOwn → v ≠ .ref l) → SlotOk K e U W H v c → SlotOk K e (fun b => U b ∧ b ≠ l) W H v c
  | .val d, _, h => Dv.le (Same.lq Hd.less) (fun _ z => z) h
  | .ownL ds, n, ⟨m, vs, h1, o, h2, h3⟩ => ⟨m, vs, h1, ⟨⟨o.u, fun z => n trivial (by rw [h1, z])⟩, o.e0, o.tp, o.w⟩, h2, DvL.le (Same.lq Hd.less) (fun _ z => z) h3⟩
  | .ownD ds, n, ⟨m, vs, h1, o, h2, h3⟩ => ⟨m, vs, h1, ⟨⟨o.u, fun z => n trivial (by rw [h1, z])⟩, o.e0, o.tp, o.w⟩, h2, DvK.le (Same.lq Hd.less) (fun _ z => z) h3⟩
theorem TmOk.less {l : Addr} : ∀ {p : Tm}, (∀ ds, p ≠ .nw l ds) → TmOk K e U S H σ p → TmOk K e (fun b => U b ∧ b ≠ l) S H σ p
  | .v v (.d d), _, h => Dv.le (Same.lq Hd.less) (fun _ z => z) h
  | .v v (.own j), _, h => h
  | .pin b o w, _, ⟨n, h⟩ => ⟨fun z => n z.1, h⟩
  | .nw m ds, n, ⟨o, ns, vs, h, h2⟩ => ⟨⟨⟨o.u, fun z => n ds (by rw [z])⟩, o.e0, o.tp, o.w⟩, ns, vs, h, DvL.le (Same.lq Hd.less) (fun _ z => z) h2⟩
theorem NoTm.ne {l : Addr} (h : NoTm T l) : ∀ p ∈ T, ∀ ds, p ≠ .nw l ds := fun p hp ds z => h ds (z ▸ hp)
/-- an own thing of no slot is frozen -/
theorem RU.thaw (x : RU K e σ H S T U) {l : Addr} (o : Ow e U S.W l) (ns : NoSlot σ S l) (nt : NoTm T l) : RU K e σ H S T (fun b => U b ∧ b ≠ l) where
  wo := x.wo.less o.tp o.w
  fr := { x.fr with
    up := fun b h => ⟨x.fr.up b h, fun z => x.ed b h (z ▸ o.e0)⟩
    new := fun b h => x.fr.new b h.1 }
  ed := x.ed
  len := x.len
  slot := fun i c h => by
    obtain ⟨v, h1, h2⟩ := x.slot i c h
    exact ⟨v, h1, h2.less fun q z => ns i c h q (by rw [h1, z])⟩
  sep := x.sep
  tmp := fun p hp => (x.tmp p hp).less (nt.ne p hp)
/-- a list of nobody yet -/
structure RN (K : PySem.W.Frag) (e : Ent) (σ : St) (H : Hp) (S : PSt) (T : List Tm) (l : Addr) (ds : List D) : Prop where
  ex : ∃ U vs, RU K e σ H S T U ∧ Ow e U S.W l ∧ NoSlot σ S l ∧ NoTm T l ∧ H l = some (.lst vs) ∧ DvL K S.W.Tp (Hd U H) vs ds
structure RNd (K : PySem.W.Frag) (e : Ent) (σ : St) (H : Hp) (S : PSt) (T : List Tm) (l : Addr) (ks : List (Key × D)) : Prop where
  ex : ∃ U vs, RU K e σ H S T U ∧ Ow e U S.W l ∧ NoSlot σ S l ∧ NoTm T l ∧ H l = some (.dK vs) ∧ DvK K S.W.Tp (Hd U H) vs ks
theorem RN.frozen {l : Addr} {ds : List D} (x : RN K e σ H S T l ds) : R K e σ H S (.v (.ref l) (.d (.lst ds)) :: T) := by
  obtain ⟨U, vs, x, o, ns, nt, h, hv⟩ := x.ex
  exact ⟨_, (x.thaw o ns nt).push (.lst (Hd.get h fun z => z.2 rfl) (DvL.le (Same.lq Hd.less) (fun _ z => z) hv))⟩
theorem RNd.frozen {l : Addr} {ks : List (Key × D)} (x : RNd K e σ H S T l ks) : R K e σ H S (.v (.ref l) (.d (.dct ks)) :: T) := by
  obtain ⟨U, vs, x, o, ns, nt, h, hv⟩ := x.ex
  exact ⟨_, (x.thaw o ns nt).push (.dct (.inl (Hd.get h fun z => z.2 rfl)) (DvK.le (Same.lq Hd.less) (fun _ z => z) hv))⟩
/-- more is hidden: a new address -/
theorem Hd.more {p : Addr} {o : HO} (hp : H p = none) : Same (Hd U H) (Hd (fun b => U b ∨ b = p) (upd H p o)) := fun b u h => by
  obtain ⟨h, n⟩ := Hd.of h
  have nb := ne_of_none h hp
  exact Hd.get (by rw [upd_ne nb]; exact h) fun z => z.elim n nb
theorem Rw.more {W : Wd} {p : Addr} {o : HO} (r : Rw K U W H) (hp : H p = none) : Rw K (fun b => U b ∨ b = p) W (upd H p o) where
  dom := fun b u => by
    by_cases c : b = p
    · subst c; rw [upd_same]; intro z; cases z
    · rw [upd_ne c]; exact r.dom b (u.resolve_right c)
  tape := fun t h => let ⟨a, b, c⟩ := r.tape t h; ⟨.inl a, b.le fun o q => by rw [upd_ne (ne_of_none q hp)]; exact q, c⟩
  cell := fun a c h => let ⟨u, q⟩ := r.cell a c h; ⟨.inl u, q.le (Same.lq (Hd.more hp)) (fun _ z => z) fun o q => by rw [upd_ne (ne_of_none q hp)]; exact q⟩
theorem Fr.more {W : Wd} {p : Addr} {o : HO} (hp : H p = none) : Fr ⟨U, W, H⟩ (fun b => U b ∨ b = p) W (upd H p o) where
  keep := fun b u h _ => by rw [upd_ne (ne_of_none h hp)]; exact .inl h
  up := fun _ h => .inl h
  new := fun b h => h.elim .inl fun z => .inr (z ▸ hp)
  wnew := fun _ h => .inl h
  tp := fun _ h => h
  there := fun b h => by
    by_cases c : b = p
    · subst c; exact absurd hp h
    · rw [upd_ne c]; exact h
  lk := fun _ _ h _ => h
theorem RU.moreU (x : RU K e σ H S T U) {p : Addr} {o : HO} (hp : H p = none) : RU K e σ (upd H p o) S T (fun b => U b ∨ b = p) ∧ Ow e (fun b => U b ∨ b = p) S.W p ∧ NoSlot σ S p ∧ NoTm T p := by
  have nU := x.fresh hp
  have ntp : ¬ S.W.Tp p := fun h => nU (x.wo.hid (.inl h))
  have nw : S.W.ω p = none := by
    cases q : S.W.ω p with
    | none => rfl
    | some c => exact (nU (x.wo.hid (.inr ⟨c, q⟩))).elim
  refine ⟨x.to (x.wo.more hp) (Fr.more hp), ⟨.inr rfl, x.free0 hp, ntp, nw⟩, fun i c h oc z => ?_, fun ds hm => ?_⟩
  rotate_left
  · obtain ⟨o, _⟩ := x.tmp _ hm
    exact nU o.u
  obtain ⟨v, h1, h2⟩ := x.slot i c h
  rw [h1] at z; cases z
  match c, oc, h2 with
  | .ownL ds, _, ⟨l, vs, e1, o1, _⟩ => cases e1; exact nU o1.u
  | .ownD ds, _, ⟨l, vs, e1, o1, _⟩ => cases e1; exact nU o1.u
/-- a new list -/
theorem RU.newL (x : RU K e σ H S T U) {p : Addr} {vs : List V} {ds : List D} (hp : H p = none) (hv : DvL K S.W.Tp (Hd U H) vs ds) : RN K e σ (upd H p (.lst vs)) S T p ds := by
  obtain ⟨a, b, c, f⟩ := x.moreU (o := .lst vs) hp
  exact ⟨_, vs, a, b, c, f, upd_same, DvL.le (Same.lq (Hd.more hp)) (fun _ z => z) hv⟩
theorem RU.newD (x : RU K e σ H S T U) {p : Addr} {vs : List (Key × V)} {ks : List (Key × D)} (hp : H p = none) (hv : DvK K S.W.Tp (Hd U H) vs ks) : RNd K e σ (upd H p (.dK vs)) S T p ks := by
  obtain ⟨a, b, c, f⟩ := x.moreU (o := .dK vs) hp
  exact ⟨_, vs, a, b, c, f, upd_same, DvK.le (Same.lq (Hd.more hp)) (fun _ z => z) hv⟩
def NoOwn (T : List Tm) : Prop := ∀ p ∈ T, ∀ w j, p ≠ .v w (.own j)
theorem RU.setOwn (x : RU K e σ H S T U) {i : Nat} {l : Addr} {c : PC} (h : SlotOk K e U S.W H (.ref l) c) (ns : NoSlot σ S l) (nt : NoTm T l) (ht : NoOwn T) : RU K e (σ.set i (some (.ref l))) H ⟨S.ρ.set i (some c), S.W⟩ T U where
  wo := x.wo
  fr := x.fr
  ed := x.ed
  len := by simp [x.len]
  slot := fun j c' hj => by
    rw [List.getElem?_set] at hj ⊢
    by_cases q : i = j
    · subst q
      rw [if_pos rfl] at hj ⊢
      by_cases z : i < S.ρ.length
      · rw [if_pos z] at hj
        cases hj
        rw [if_pos (by rw [x.len]; exact z)]
        exact ⟨_, rfl, h⟩
      · rw [if_neg z] at hj; cases hj
    · rw [if_neg q] at hj ⊢
      exact x.slot j c' hj
  sep := fun j k c1 c2 m n hj oj hk ok sj sk => by
    rw [List.getElem?_set] at hj hk sj sk
    by_cases q : i = j
    · subst q
      rw [if_neg n] at hk sk
      rw [if_pos rfl] at sj
      split at sj
      · cases sj; exact ns k c2 hk ok sk
      · cases sj
    · rw [if_neg q] at hj sj
      by_cases q2 : i = k
      · subst q2
        rw [if_pos rfl] at sk
        split at sk
        · cases sk; exact ns j c1 hj oj sj
        · cases sk
      · rw [if_neg q2] at hk sk
        exact x.sep j k c1 c2 m n hj oj hk ok sj sk
  tmp := fun p hp => by
    have := x.tmp p hp
    match p, this, ht p hp with
    | .v w (.d d), h, _ => exact h
    | .v w (.own j), h, n => exact (n w j rfl).elim
    | .pin b o w, h, _ => exact h
    | .nw m ds, ⟨o, ms, h⟩, _ =>
      refine ⟨o, fun j c' hj oc => ?_, h⟩
      have hj : (S.ρ.set i (some c))[j]? = some (some c') := hj
      show (σ.set i (some (.ref l)))[j]? ≠ _
      rw [List.getElem?_set] at hj ⊢
      by_cases q : i = j
      · rw [if_pos q]
        split
        · intro z; cases z; exact nt ds hp
        · intro z; cases z
      · rw [if_neg q] at hj ⊢
        exact ms j c' hj oc
theorem RN.slot {l : Addr} {ds : List D} (x : RN K e σ H S T l ds) (i : Nat) (ht : NoOwn T) : R K e (σ.set i (some (.ref l))) H ⟨S.ρ.set i (some (.ownL ds)), S.W⟩ T := by
  obtain ⟨U, vs, x, o, ns, nt, h, hv⟩ := x.ex
  exact ⟨U, x.setOwn ⟨l, vs, rfl, o, h, hv⟩ ns nt ht⟩
theorem RNd.slot {l : Addr} {ks : List (Key × D)} (x : RNd K e σ H S T l ks) (i : Nat) (ht : NoOwn T) : R K e (σ.set i (some (.ref l))) H ⟨S.ρ.set i (some (.ownD ks)), S.W⟩ T := by
  obtain ⟨U, vs, x, o, ns, nt, h, hv⟩ := x.ex
  exact ⟨U, x.setOwn ⟨l, vs, rfl, o, h, hv⟩ ns nt ht⟩
/-- the thing that slot j owns is frozen -/
theorem RU.freeze (x : RU K e σ H S T U) {j : Nat} {l : Addr} {c : PC} (hc : S.ρ[j]? = some (some c)) (oc : c.isOwn) (hs : σ[j]? = some (some (.ref l))) (o : Ow e U S.W l) {d : D} (hd : Dv K S.W.Tp (Hd (fun b => U b ∧ b ≠ l) H) (.ref l) d) :
    RU K e σ H ⟨S.ρ.set j (some (.val d)), S.W⟩ T (fun b => U b ∧ b ≠ l) where
  wo := x.wo.less o.tp o.w
  fr := { x.fr with
    up := fun b h => ⟨x.fr.up b h, fun z => x.ed b h (z ▸ o.e0)⟩
    new := fun b h => x.fr.new b h.1 }
  ed := x.ed
  len := by simp [x.len]
  slot := fun i c' h => by
    rw [List.getElem?_set] at h
    by_cases q : j = i
    · subst q
      rw [if_pos rfl] at h
      split at h
      · cases h; exact ⟨_, hs, hd⟩
      · cases h
    · rw [if_neg q] at h
      obtain ⟨v, h1, h2⟩ := x.slot i c' h
      exact ⟨v, h1, h2.less fun oc' z => x.sep j i c c' l q hc oc h oc' hs (by rw [h1, z])⟩
  sep := fun i k c1 c2 m n hi oi hk ok si sk => by
    rw [List.getElem?_set] at hi hk
    by_cases q : j = i
    · rw [if_pos q] at hi
      split at hi
      · cases hi; exact oi
      · cases hi
    · rw [if_neg q] at hi
      by_cases q2 : j = k
      · rw [if_pos q2] at hk
        split at hk
        · cases hk; exact ok
        · cases hk
      · rw [if_neg q2] at hk
        exact x.sep i k c1 c2 m n hi oi hk ok si sk
  tmp := fun p hp => by
    have h := x.tmp p hp
    have n : ∀ ds, p ≠ .nw l ds := fun ds z => by
      subst z
      exact h.2.1 j c hc oc hs
    have h := h.less n
    match p, h with
    | .v v (.d d), h => exact h
    | .v v (.own j), h => exact h
    | .pin b o w, h => exact h
    | .nw m ds, ⟨o, ms, h⟩ =>
      refine ⟨o, fun i c' hi oc' => ?_, h⟩
      have hi : (S.ρ.set j (some (.val d)))[i]? = some (some c') := hi
      rw [List.getElem?_set] at hi
      by_cases q : j = i
      · rw [if_pos q] at hi
        split at hi
        · cases hi; exact oc'.elim
        · cases hi
      · rw [if_neg q] at hi
        exact ms i c' hi oc'
end
end Kn

set_option Elab.async false
set_option maxRecDepth 100000
set_option linter.all false
set_option autoImplicit false
namespace Kn
open PySem L2
section
variable {K : PySem.W.Frag} {e : Ent} {σ : St} {H H' : Hp} {S : PSt} {T : List Tm} {U U' : Addr → Prop} {W' : Wd}
theorem Hd.upd {l : Addr} {o : HO} (u : U l) : Same (Hd U H) (Hd U (L2.upd H l o)) := fun b q h => by
  obtain ⟨h, n⟩ := Hd.of h
  exact Hd.get (by rw [upd_ne (show b ≠ _ from fun z => n (z ▸ u))]; exact h) n
theorem Hd.upd' {l : Addr} {o : HO} (u : U l) : Same (Hd U (L2.upd H l o)) (Hd U H) := fun b q h => by
  obtain ⟨h, n⟩ := Hd.of h
  exact Hd.get (by rw [upd_ne (show b ≠ _ from fun z => n (z ▸ u))] at h; exact h) n
/-- a change at a hidden address that is neither tape nor cell -/
theorem Rw.upd {W : Wd} {l : Addr} {o : HO} (r : Rw K U W H) (u : U l) (tp : ¬ W.Tp l) (w : W.ω l = none) : Rw K U W (L2.upd H l o) where
  dom := fun b h => by
    by_cases c : b = l
    · subst c; rw [upd_same]; intro z; cases z
    · rw [upd_ne c]; exact r.dom b h
  tape := fun t h => let ⟨a, b, c⟩ := r.tape t h; ⟨a, b.le fun o q => by rw [upd_ne (show t ≠ l from fun z => tp (z ▸ h))]; exact q, c⟩
  cell := fun a c h => let ⟨u', q⟩ := r.cell a c h; ⟨u', q.le (Same.lq (Hd.upd u)) (fun _ z => z) fun o q => by rw [upd_ne (show a ≠ l from fun z => by rw [z, w] at h; cases h)]; exact q⟩
theorem Fr.upd (x : Fr e U S.W H) {l : Addr} {o : HO} (h0 : e.H l = none ∨ e.W.mt l) : Fr e U S.W (L2.upd H l o) := { x with
  keep := fun b q h n => by
    have nb : b ≠ l := fun z => by
      rcases h0 with h0 | h0
      · rw [z, h0] at h; cases h
      · exact n (z ▸ h0)
    rw [upd_ne nb]; exact x.keep b q h n
  there := fun b h => by
    by_cases c : b = l
    · subst c; rw [upd_same]; intro z; cases z
    · rw [upd_ne c]; exact x.there b h }
theorem SlotOk.upd {W : Wd} {l : Addr} {o : HO} {v : V} (u : U l) : ∀ {c : PC}, (c.isOwn → v ≠ .ref l) → SlotOk K e U W H v c → SlotOk K e U W (L2.upd H l o) v c
  | .val d, _, h => Dv.le (Same.lq (Hd.upd u)) (fun _ z => z) h
  | .ownL ds, n, ⟨m, vs, h1, ow, h2, h3⟩ => ⟨m, vs, h1, ow, by rw [upd_ne (show m ≠ l from fun z => n trivial (by rw [h1, z]))]; exact h2, DvL.le (Same.lq (Hd.upd u)) (fun _ z => z) h3⟩
  | .ownD ds, n, ⟨m, vs, h1, ow, h2, h3⟩ => ⟨m, vs, h1, ow, by rw [upd_ne (show m ≠ l from fun z => n trivial (by rw [h1, z]))]; exact h2, DvK.le (Same.lq (Hd.upd u)) (fun _ z => z) h3⟩
theorem TmOk.upd {l : Addr} {o : HO} (u : U l) : ∀ {p : Tm}, (∀ ds, p ≠ .nw l ds) → TmOk K e U S H σ p → TmOk K e U S (L2.upd H l o) σ p
  | .v v (.d d), _, h => Dv.le (Same.lq (Hd.upd u)) (fun _ z => z) h
  | .v v (.own j), _, h => h
  | .nw m ds, n, ⟨ow, ns, vs, h, h2⟩ => ⟨ow, ns, vs, by rw [upd_ne (show m ≠ l from fun z => n ds (by rw [z]))]; exact h, DvL.le (Same.lq (Hd.upd u)) (fun _ z => z) h2⟩
  | .pin b o w, _, ⟨n, h⟩ => ⟨n, by rw [upd_ne (show b ≠ _ from fun z => n (z ▸ u))]; exact h⟩
/-- a change of an own thing of no slot -/
theorem RU.updN (x : RU K e σ H S T U) {l : Addr} {o : HO} (ow : Ow e U S.W l) (ns : NoSlot σ S l) (nt : NoTm T l) : RU K e σ (L2.upd H l o) S T U where
  wo := x.wo.upd ow.u ow.tp ow.w
  fr := x.fr.upd (.inl ow.e0)
  ed := x.ed
  len := x.len
  slot := fun i c h => let ⟨v, h1, h2⟩ := x.slot i c h; ⟨v, h1, h2.upd ow.u fun q z => ns i c h q (by rw [h1, z])⟩
  sep := x.sep
  tmp := fun p hp => (x.tmp p hp).upd ow.u (nt.ne p hp)
theorem RN.tail {T1 : List Tm} {l : Addr} {ds : List D} (x : RN K e σ H S (T1 ++ T) l ds) : RN K e σ H S T l ds := by
  obtain ⟨U, vs, x, ow, ns, nt, h, hv⟩ := x.ex
  exact ⟨U, vs, x.less fun p hp => List.mem_append_right _ hp, ow, ns, fun ds hm => nt ds (List.mem_append_right _ hm), h, hv⟩
theorem RN.app {l : Addr} {ds : List D} {v : V} {d : D} (x : RN K e σ H S (.v v (.d d) :: T) l ds) : ∃ vs, H l = some (.lst vs) ∧ vs.length = ds.length ∧ RN K e σ (L2.upd H l (.lst (vs ++ [v]))) S T l (ds ++ [d]) := by
  obtain ⟨U, vs, x, ow, ns, nt, h, hv⟩ := x.ex
  have nt' : NoTm T l := fun ds hm => nt ds (List.mem_cons_of_mem _ hm)
  refine ⟨vs, h, hv.len, U, vs ++ [v], (x.less fun p hp => List.mem_cons_of_mem _ hp).updN ow ns nt', ow, ns, nt', upd_same, ?_⟩
  refine DvL.le (Same.lq (Hd.upd ow.u)) (fun _ z => z) (hv.app (.cons ?_ .nil))
  exact x.tmp (.v v (.d d)) (by simp)
/-- a change of what slot j owns -/
theorem RU.updO (x : RU K e σ H S T U) {j : Nat} {l : Addr} {o : HO} {c c' : PC} (hc : S.ρ[j]? = some (some c)) (oc : c.isOwn) (oc' : c'.isOwn) (hs : σ[j]? = some (some (.ref l))) (ow : Ow e U S.W l) (hn : SlotOk K e U S.W (L2.upd H l o) (.ref l) c') :
    RU K e σ (L2.upd H l o) ⟨S.ρ.set j (some c'), S.W⟩ T U where
  wo := x.wo.upd ow.u ow.tp ow.w
  fr := x.fr.upd (.inl ow.e0)
  ed := x.ed
  len := by simp [x.len]
  slot := fun i k h => by
    rw [List.getElem?_set] at h
    by_cases q : j = i
    · subst q
      rw [if_pos rfl] at h
      split at h
      · cases h; exact ⟨_, hs, hn⟩
      · cases h
    · rw [if_neg q] at h
      obtain ⟨v, h1, h2⟩ := x.slot i k h
      exact ⟨v, h1, h2.upd ow.u fun ok z => x.sep j i c k l q hc oc h ok hs (by rw [h1, z])⟩
  sep := fun i k c1 c2 m n hi oi hk ok si sk => by
    rw [List.getElem?_set] at hi hk
    by_cases q : j = i
    · subst q
      rw [if_neg n] at hk
      exact x.sep j k c c2 m n hc oc hk ok si sk
    · rw [if_neg q] at hi
      by_cases q2 : j = k
      · subst q2
        exact x.sep i j c1 c m n hi oi hc oc si sk
      · rw [if_neg q2] at hk
        exact x.sep i k c1 c2 m n hi oi hk ok si sk
  tmp := fun p hp => by
    have h := x.tmp p hp
    have n : ∀ ds, p ≠ .nw l ds := fun ds z => by
      subst z
      exact h.2.1 j c hc oc hs
    have h := h.upd (o := o) ow.u n
    match p, h with
    | .v v (.d d), h => exact h
    | .v v (.own j), h => exact h
    | .pin b o w, h => exact h
    | .nw m ds, ⟨om, ms, h⟩ =>
      refine ⟨om, fun i c1 hi oc1 => ?_, h⟩
      have hi : (S.ρ.set j (some c'))[i]? = some (some c1) := hi
      rw [List.getElem?_set] at hi
      by_cases q : j = i
      · subst q
        exact ms j c hc oc
      · rw [if_neg q] at hi
        exact ms i c1 hi oc1
/-- what the slot j owns -/
theorem RU.ownL (x : RU K e σ H S T U) {j : Nat} {ds : List D} (hc : S.ρ[j]? = some (some (.ownL ds))) : ∃ l vs, σ[j]? = some (some (.ref l)) ∧ Ow e U S.W l ∧ H l = some (.lst vs) ∧ DvL K S.W.Tp (Hd U H) vs ds := by
  obtain ⟨v, h1, l, vs, rfl, h2⟩ := x.slot j _ hc
  exact ⟨l, vs, h1, h2⟩
theorem RU.ownD (x : RU K e σ H S T U) {j : Nat} {ds : List (Key × D)} (hc : S.ρ[j]? = some (some (.ownD ds))) : ∃ l vs, σ[j]? = some (some (.ref l)) ∧ Ow e U S.W l ∧ H l = some (.dK vs) ∧ DvK K S.W.Tp (Hd U H) vs ds := by
  obtain ⟨v, h1, l, vs, rfl, h2⟩ := x.slot j _ hc
  exact ⟨l, vs, h1, h2⟩
open Classical in
noncomputable def Wd.put (W : Wd) (a : Addr) (c : Cell) : Wd := ⟨W.Tp, fun b => if b = a then some c else W.ω b⟩
theorem Wd.put_same {W : Wd} {a : Addr} {c : Cell} : (W.put a c).ω a = some c := by unfold Wd.put; simp
theorem Wd.put_ne {W : Wd} {a b : Addr} {c : Cell} (h : b ≠ a) : (W.put a c).ω b = W.ω b := by unfold Wd.put; simp [h]
/-- a shared thing changes -/
theorem RU.updC (x : RU K e σ H S T U) {a : Addr} {o : HO} {c c' : Cell} (hc : S.W.ω a = some c) (mc : c.isMut) (hn : CellOk K S.W.Tp U (L2.upd H a o) a c') : RU K e σ (L2.upd H a o) ⟨S.ρ, S.W.put a c'⟩ T U := by
  have u := (x.wo.cell a c hc).1
  have h0 : e.H a = none ∨ e.W.mt a := by
    rcases x.fr.wnew a (.inr ⟨c, hc⟩) with (z | ⟨c0, z⟩) | z
    · exact .inr (.inl z)
    · by_cases q : c0.isMut
      · exact .inr (.inr ⟨c0, z, q⟩)
      · have := x.fr.lk a c0 z q
        rw [hc] at this; cases this; exact (q mc).elim
    · exact .inl z
  have f1 : Fr e U (S.W.put a c') (L2.upd H a o) := by
    have f := x.fr.upd (o := o) h0
    exact { f with
      wnew := fun b h => by
        by_cases q : b = a
        · subst q; exact x.fr.wnew b (.inr ⟨c, hc⟩)
        · refine x.fr.wnew b ?_
          rcases h with h | ⟨c1, h⟩
          · exact .inl h
          · rw [Wd.put_ne q] at h; exact .inr ⟨c1, h⟩
      lk := fun b c1 h n => by
        by_cases q : b = a
        · subst q
          have := x.fr.lk b c1 h n
          rw [hc] at this; cases this; exact (n mc).elim
        · rw [Wd.put_ne q]; exact x.fr.lk b c1 h n }
  exact {
    wo := {
      dom := fun b h => by
        by_cases q : b = a
        · subst q; rw [upd_same]; intro z; cases z
        · rw [upd_ne q]; exact x.wo.dom b h
      tape := fun t h => by
        obtain ⟨a1, b1, c1⟩ := x.wo.tape t h
        have nt : t ≠ a := fun z => by rw [z, hc] at c1; cases c1
        exact ⟨a1, b1.le fun o q => by rw [upd_ne nt]; exact q, by rw [Wd.put_ne nt]; exact c1⟩
      cell := fun b c1 h => by
        by_cases q : b = a
        · subst q
          rw [Wd.put_same] at h; cases h
          exact ⟨u, hn⟩
        · rw [Wd.put_ne q] at h
          obtain ⟨u', k⟩ := x.wo.cell b c1 h
          exact ⟨u', k.le (Same.lq (Hd.upd u)) (fun _ z => z) fun o k => by rw [upd_ne q]; exact k⟩ }
    fr := f1
    ed := x.ed
    len := x.len
    slot := fun i c1 h => by
      obtain ⟨v, h1, h2⟩ := x.slot i c1 h
      refine ⟨v, h1, ?_⟩
      have nv : ∀ m, Ow e U S.W m → m ≠ a := fun m ow z => by rw [← z, ow.w] at hc; cases hc
      match c1, h2 with
      | .val d, h2 => exact Dv.le (Same.lq (Hd.upd u)) (fun _ z => z) h2
      | .ownL ds, ⟨m, vs, e1, ow, e2, e3⟩ => exact ⟨m, vs, e1, ⟨ow.u, ow.e0, ow.tp, by rw [Wd.put_ne (nv m ow)]; exact ow.w⟩, by rw [upd_ne (nv m ow)]; exact e2, DvL.le (Same.lq (Hd.upd u)) (fun _ z => z) e3⟩
      | .ownD ds, ⟨m, vs, e1, ow, e2, e3⟩ => exact ⟨m, vs, e1, ⟨ow.u, ow.e0, ow.tp, by rw [Wd.put_ne (nv m ow)]; exact ow.w⟩, by rw [upd_ne (nv m ow)]; exact e2, DvK.le (Same.lq (Hd.upd u)) (fun _ z => z) e3⟩
    sep := x.sep
    tmp := fun p hp => by
      have := x.tmp p hp
      match p, this with
      | .v v (.d d), h => exact Dv.le (Same.lq (Hd.upd u)) (fun _ z => z) h
      | .v v (.own j), h => exact h
      | .nw m ds, ⟨om, ms, vs, h, h2⟩ =>
        have nv : m ≠ a := fun z => by rw [← z, om.w] at hc; cases hc
        exact ⟨⟨om.u, om.e0, om.tp, by rw [Wd.put_ne nv]; exact om.w⟩, ms, vs, by rw [upd_ne nv]; exact h, DvL.le (Same.lq (Hd.upd u)) (fun _ z => z) h2⟩
      | .pin b o w, ⟨n, h⟩ => exact ⟨n, by rw [upd_ne (show b ≠ _ from fun z => n (z ▸ u))]; exact h⟩ }
end
end Kn

set_option Elab.async false
set_option maxRecDepth 100000
set_option linter.all false
set_option autoImplicit false
namespace Kn
open PySem L2
mutual
def beqD : D → D → Bool
  | .non, .non => true
  | .bl a, .bl b => decide (a = b)
  | .int a, .int b => decide (a = b)
  | .str a, .str b => decide (a = b)
  | .ty a, .ty b => decide (a = b)
  | .tup a, .tup b => beqL a b
  | .lst a, .lst b => beqL a b
  | .dct a, .dct b => beqK a b
  | .obj c a, .obj d b => decide (c = d) && beqF a b
  | .ref a, .ref b => decide (a = b)
  | .tape, .tape => true
  | .scr, .scr => true
  | .exc a C d fs, .exc a' C' d' fs' => decide (a = a') && decide (C = C') && decide (d = d') && beqF fs fs'
  | _, _ => false
def beqL : List D → List D → Bool
  | [], [] => true
  | a :: as, b :: bs => beqD a b && beqL as bs
  | _, _ => false
def beqK : List (Key × D) → List (Key × D) → Bool
  | [], [] => true
  | (k, a) :: as, (l, b) :: bs => decide (k = l) && beqD a b && beqK as bs
  | _, _ => false
def beqF : List (Str × D) → List (Str × D) → Bool
  | [], [] => true
  | (k, a) :: as, (l, b) :: bs => decide (k = l) && beqD a b && beqF as bs
  | _, _ => false
end
mutual
theorem beqD_iff : ∀ a b : D, beqD a b = true ↔ a = b
  | .non, b => by cases b <;> simp [beqD]
  | .bl a, b => by cases b <;> simp [beqD]
  | .int a, b => by cases b <;> simp [beqD]
  | .str a, b => by cases b <;> simp [beqD]
  | .ty a, b => by cases b <;> simp [beqD]
  | .tup a, b => by cases b <;> simp [beqD, beqL_iff a]
  | .lst a, b => by cases b <;> simp [beqD, beqL_iff a]
  | .dct a, b => by cases b <;> simp [beqD, beqK_iff a]
  | .obj c a, b => by cases b <;> simp [beqD, beqF_iff a]
  | .ref a, b => by cases b <;> simp [beqD]
  | .tape, b => by cases b <;> simp [beqD]
  | .scr, b => by cases b <;> simp [beqD]
  | .exc a C d fs, b => by cases b <;> simp [beqD, beqF_iff fs, and_assoc]
theorem beqL_iff : ∀ a b : List D, beqL a b = true ↔ a = b
  | [], b => by cases b <;> simp [beqL]
  | a :: as, b => by cases b <;> simp [beqL, beqD_iff a, beqL_iff as]
theorem beqK_iff : ∀ a b : List (Key × D), beqK a b = true ↔ a = b
  | [], b => by cases b <;> simp [beqK]
  | (k, a) :: as, b => by
    cases b with
    | nil => simp [beqK]
    | cons p bs => obtain ⟨l, b⟩ := p; simp [beqK, beqD_iff a, beqK_iff as, and_assoc]
theorem beqF_iff : ∀ a b : List (Str × D), beqF a b = true ↔ a = b
  | [], b => by cases b <;> simp [beqF]
  | (k, a) :: as, b => by
    cases b with
    | nil => simp [beqF]
    | cons p bs => obtain ⟨l, b⟩ := p; simp [beqF, beqD_iff a, beqF_iff as, and_assoc]
end
instance : DecidableEq D := fun a b => decidable_of_iff _ (beqD_iff a b)
/-! ### data that the deep == speaks of: no bools, no objects -/
mutual
def toP : D → PyData
  | .non => .none
  | .int i => .int i
  | .str x => .str x
  | .bl b => .bool b
  | .tup ds => .tuple (toPs ds)
  | .lst ds => .list (toPs ds)
  | _ => .none
def toPs : List D → List PyData
  | [] => []
  | d :: ds => toP d :: toPs ds
end
mutual
/-- plain data; b: bools are in it, no ints; else ints and no bools -/
def okD (b : Bool) : D → Bool
  | .non => true
  | .int _ => !b
  | .bl _ => b
  | .str x => PyData.strOk x
  | .tup ds => okL b ds
  | .lst ds => okL b ds
  | _ => false
def okL (b : Bool) : List D → Bool
  | [] => true
  | d :: ds => okD b d && okL b ds
end
mutual
def dpD : D → Nat
  | .tup ds => dpL ds + 1
  | .lst ds => dpL ds + 1
  | _ => 0
def dpL : List D → Nat
  | [] => 0
  | d :: ds => max (dpD d) (dpL ds)
end
section
variable {K : PySem.W.Frag} {Tp : Addr → Prop} {H H' : Hp} {b : Bool}
mutual
theorem Dv.dp (e : Same H H') : ∀ {v : V} {d : D}, Dv K Tp H v d → okD b d = true → Dp K H' v (toP d)
  | _, _, .non, _ => by rw [toP]; exact .non
  | _, _, .bl b, _ => by rw [toP]; exact .bl b
  | _, _, .int i, _ => by rw [toP]; exact .int i
  | _, _, .str x, _ => by rw [toP]; exact .str x
  | _, _, .ty n, h => by simp [okD] at h
  | _, _, .tup h t, g => by rw [okD] at g; rw [toP]; exact .tup (SqT.same e h) (DvL.dp e t g)
  | _, _, .lst h t, g => by rw [okD] at g; rw [toP]; exact .lst (SqL.of (e _ _ h)) (DvL.dp e t g)
  | _, _, .dct h t, g => by simp [okD] at g
  | _, _, .obj h t, g => by simp [okD] at g
  | _, _, .ref a, g => by simp [okD] at g
  | _, _, .tape h, g => by simp [okD] at g
  | _, _, .scr h _, g => by simp [okD] at g
  | _, _, .exc0 a C, g => by simp [okD] at g
  | _, _, .exc1 h t, g => by simp [okD] at g
theorem DvL.dp (e : Same H H') : ∀ {v : List V} {d : List D}, DvL K Tp H v d → okL b d = true → DpAll K H' v (toPs d)
  | _, _, .nil, _ => by rw [toPs]; exact .nil
  | _, _, .cons h t, g => by
    rw [okL, Bool.and_eq_true] at g
    rw [toPs]
    exact .cons (Dv.dp e h g.1) (DvL.dp e t g.2)
end
mutual
theorem toP_lay : ∀ d : D, okD b d = true → (toP d).canLay0 = true
  | .non, _ => by simp [toP, PyData.canLay0]
  | .bl _, _ => by simp [toP, PyData.canLay0]
  | .int _, _ => by simp [toP, PyData.canLay0]
  | .str x, h => by rw [okD] at h; rw [toP, PyData.canLay0]; exact h
  | .ty _, h => by simp [okD] at h
  | .tup ds, h => by rw [okD] at h; rw [toP, PyData.canLay0]; exact toPs_lay ds h
  | .lst ds, h => by rw [okD] at h; rw [toP, PyData.canLay0]; exact toPs_lay ds h
  | .dct _, h => by simp [okD] at h
  | .obj _ _, h => by simp [okD] at h
  | .ref _, h => by simp [okD] at h
  | .tape, h => by simp [okD] at h
  | .scr, h => by simp [okD] at h
  | .exc _ _ _ _, h => by simp [okD] at h
theorem toPs_lay : ∀ d : List D, okL b d = true → PyData.canLayAll0 (toPs d) = true
  | [], _ => by simp [toPs, PyData.canLayAll0]
  | d :: ds, h => by
    rw [okL, Bool.and_eq_true] at h
    rw [toPs, PyData.canLayAll0, toP_lay d h.1, toPs_lay ds h.2]; rfl
end
mutual
theorem toP_depth : ∀ d : D, (toP d).depth ≤ dpD d
  | .non => by simp [toP, PyData.depth]
  | .bl _ => by simp [toP, PyData.depth]
  | .int _ => by simp [toP, PyData.depth]
  | .str x => by simp [toP, PyData.depth]
  | .ty _ => by simp [toP, PyData.depth]
  | .tup ds => by rw [toP, dpD, PyData.depth]; have := toPs_depth ds; omega
  | .lst ds => by rw [toP, dpD, PyData.depth]; have := toPs_depth ds; omega
  | .dct _ => by simp [toP, PyData.depth]
  | .obj _ _ => by simp [toP, PyData.depth]
  | .ref _ => by simp [toP, PyData.depth]
  | .tape => by simp [toP, PyData.depth]
  | .scr => by simp [toP, PyData.depth]
  | .exc _ _ _ _ => by simp [toP, PyData.depth]
theorem toPs_depth : ∀ d : List D, PyData.depthAll (toPs d) ≤ dpL d
  | [] => by simp [toPs, PyData.depthAll]
  | d :: ds => by
    rw [toPs, PyData.depthAll, dpL]
    have := toP_depth d
    have := toPs_depth ds
    omega
end
theorem toP_shaped {d : D} (h : okD b d = true) (hd : dpD d ≤ 64) : SeqAt.shaped (toP d) = true := by
  unfold SeqAt.shaped
  rw [toP_lay d h, decide_eq_true (Nat.le_trans (toP_depth d) hd)]; rfl
mutual
theorem eqv_toP : ∀ a c : D, okD b a = true → okD b c = true → PyData.eqv (toP a) (toP c) = beqD a c
  | .non, c, _, h => by cases c <;> simp [okD] at h <;> simp [toP, PyData.eqv, beqD]
  | .bl x, c, g, h => by cases c <;> simp [okD] at g h <;> simp_all [toP, PyData.eqv, beqD] <;> rfl
  | .int x, c, g, h => by cases c <;> simp [okD] at g h <;> simp_all [toP, PyData.eqv, beqD] <;> rfl
  | .str x, c, g, h => by cases c <;> simp [okD] at g h <;> simp_all [toP, PyData.eqv, beqD] <;> rfl
  | .ty x, c, g, h => by simp [okD] at g
  | .tup x, c, g, h => by cases c <;> simp [okD] at g h <;> simp [toP, PyData.eqv, beqD] <;> exact eqv_toPs x _ g h
  | .lst x, c, g, h => by cases c <;> simp [okD] at g h <;> simp [toP, PyData.eqv, beqD] <;> exact eqv_toPs x _ g h
  | .dct _, c, g, h => by simp [okD] at g
  | .obj _ _, c, g, h => by simp [okD] at g
  | .ref _, c, g, h => by simp [okD] at g
  | .tape, c, g, h => by simp [okD] at g
  | .scr, c, g, h => by simp [okD] at g
  | .exc _ _ _ _, c, g, h => by simp [okD] at g
theorem eqv_toPs : ∀ a c : List D, okL b a = true → okL b c = true → PyData.eqvAll (toPs a) (toPs c) = beqL a c
  | [], [], _, _ => by simp [toPs, PyData.eqvAll, beqL]
  | [], c :: cs, _, _ => by simp [toPs, PyData.eqvAll, beqL]
  | a :: as, [], _, _ => by simp [toPs, PyData.eqvAll, beqL]
  | a :: as, c :: cs, g, h => by
    rw [okL, Bool.and_eq_true] at g h
    rw [toPs, toPs, PyData.eqvAll, beqL, eqv_toP a c g.1 h.1, eqv_toPs as cs g.2 h.2]
end
theorem beqD_dec (a c : D) : beqD a c = decide (a = c) := by
  by_cases h : a = c
  · rw [decide_eq_true h]; exact (beqD_iff a c).mpr h
  · rw [decide_eq_false h]
    cases q : beqD a c with
    | false => rfl
    | true => exact absurd ((beqD_iff a c).mp q) h
end
end Kn

set_option Elab.async false
set_option maxRecDepth 100000
set_option linter.all false
set_option autoImplicit false
/-! rules for a construct whatever the types: unions of the hand layer's rules -/
namespace Kn
open PySem L2
section
variable {X : Cx}
theorem OpR.or {f : Value → Value → Sem Value} {r r' : R2} (h : OpR X f r) (h' : OpR X f r') : OpR X f (fun x y H Q => r x y H Q ∨ r' x y H Q) := by
  intro pins s σ H x y v u Q I rx ry q
  rcases q with q | q
  · exact h pins s σ H x y v u Q I rx ry q
  · exact h' pins s σ H x y v u Q I rx ry q
theorem CallR.or {f : Value} {r r' : List V → Hp → VK → Prop} (h : CallR X f r) (h' : CallR X f r') : CallR X f (fun xs H Q => r xs H Q ∨ r' xs H Q) := by
  intro pins s σ H xs us Q I rx q
  rcases q with q | q
  · exact h pins s σ H xs us Q I rx q
  · exact h' pins s σ H xs us Q I rx q
theorem SlR.or {r r' : V → Option Int → Option Int → Hp → VK → Prop} (h : SlR X r) (h' : SlR X r') : SlR X (fun x l u H Q => r x l u H Q ∨ r' x l u H Q) := by
  intro pins s σ H x v vl vu lo hi sl Q I rx hs pl pu q
  rcases q with q | q
  · exact h pins s σ H x v vl vu lo hi sl Q I rx hs pl pu q
  · exact h' pins s σ H x v vl vu lo hi sl Q I rx hs pl pu q
def rAddS : R2 := fun x y H Q => ∃ i j, x = .str i ∧ y = .str j ∧ i.length + j.length ≤ sizeLine ∧ Q (.str (i ++ j)) H
def rAddU (K : PySem.W.Frag) : R2 := fun x y H Q => rI0 (fun i j => .int (i + j)) x y H Q ∨ rAddS x y H Q ∨ rCat x y H Q ∨ rCatA K x y H Q
theorem op_addU (K : PySem.W.Frag) (h : X.K = K := by rfl) : OpR X (binaryOp .Add) (rAddU K) := OpR.or op_add (OpR.or op_add_str (OpR.or op_cat (op_catAK K h)))
def rMulU : R2 := fun x y H Q => rI CMul (fun i j => .int (i * j)) x y H Q ∨ rMulS x y H Q ∨ rRep x y H Q
theorem op_mulU : OpR X (binaryOp .Mult) rMulU := OpR.or op_mul (OpR.or op_mul_str op_rep)
def rEqU (K : PySem.W.Frag) : R2 := fun x y H Q => rEq x y H Q ∨ rEqD K x y H Q
def rNeU (K : PySem.W.Frag) : R2 := fun x y H Q => rNe x y H Q ∨ rNeD K x y H Q
theorem op_eqU (K : PySem.W.Frag) (hu : X.A.units + 64 < cLine) (h : X.K = K := by rfl) : OpR X (compareOp .Eq) (rEqU K) := OpR.or op_eq (op_eqDK K hu h)
theorem op_neU (K : PySem.W.Frag) (hu : X.A.units + 64 < cLine) (h : X.K = K := by rfl) : OpR X (compareOp .NotEq) (rNeU K) := OpR.or op_ne (op_neDK K hu h)
def rDIn (neg : Bool) : R2 := fun y x H Q => ∃ a o, x = .ref a ∧ DGet H a y o ∧ Q (.bl (if neg then !o.isSome else o.isSome)) H
theorem op_dIn (hu : X.A.units + 1 < cLine) : OpR X (compareOp .In) (rDIn false) := by
  intro pins s σ H x y v u Q I rx ry h
  obtain ⟨a, o, rfl, g, q⟩ := h
  cases ry
  exact d_in hu I g rx fun s' I' => ⟨.bl o.isSome, H, I', rfl, q⟩
theorem op_dNotIn (hu : X.A.units + 1 < cLine) : OpR X (compareOp .NotIn) (rDIn true) := by
  intro pins s σ H x y v u Q I rx ry h
  obtain ⟨a, o, rfl, g, q⟩ := h
  cases ry
  exact d_notIn hu I g rx fun s' I' => ⟨.bl (!o.isSome), H, I', rfl, q⟩
def rInS (neg : Bool) : R2 := fun x y H Q => ∃ i j, x = .str i ∧ y = .str j ∧ Q (.bl (if neg then !!(Builtin.Str.occurrences j i 0 j.length 1).isEmpty else !(Builtin.Str.occurrences j i 0 j.length 1).isEmpty)) H
def rInU (K : PySem.W.Frag) : R2 := fun x y H Q => rIn K false x y H Q ∨ rInS false x y H Q ∨ rDIn false x y H Q ∨ rInD K x y H Q
def rNotInU (K : PySem.W.Frag) : R2 := fun x y H Q => rIn K true x y H Q ∨ rInS true x y H Q ∨ rDIn true x y H Q ∨ rNotInD K x y H Q
theorem op_inU (K : PySem.W.Frag) (hu : X.A.units + 65 < cLine) (h : X.K = K := by rfl) : OpR X (compareOp .In) (rInU K) :=
  OpR.or (op_in_seqK K h) (OpR.or op_in_str (OpR.or (op_dIn (by omega)) (op_inDK K hu h)))
theorem op_notInU (K : PySem.W.Frag) (hu : X.A.units + 65 < cLine) (h : X.K = K := by rfl) : OpR X (compareOp .NotIn) (rNotInU K) := 
  OpR.or (op_notIn_seqK K h) (OpR.or op_notin_str (OpR.or (op_dNotIn (by omega)) (op_notInDK K hu h)))
def rIsN : R2 := fun x y H Q => y = .non ∧ Q (.bl (decide (x = .non))) H
def rNotN : R2 := fun x y H Q => y = .non ∧ Q (.bl (!decide (x = .non))) H
theorem op_isNU : OpR X (compareOp .Is) rIsN := op_isN
theorem op_notNU : OpR X (compareOp .IsNot) rNotN := op_notN
/-- d[k] -/
def rIxDc : R2 := fun x y H Q => ∃ a v, x = .ref a ∧ DGet H a y (some v) ∧ Q v H
theorem ix_dict (hu : X.A.units + 1 < cLine) : IxR X rIxDc := by
  intro value slice pins s σ H x y v u Q I rx ry h hs
  obtain ⟨a, z, rfl, g, q⟩ := h
  cases rx
  exact PyProof.Rows.tail_any (ops := [.ref a, u]) (dict_typeIs I g) PySem.F.slot_dict_getitem.lookup (d_getItem hu I g ry fun w' s' I' rw' => ⟨z, H, I', rw', q⟩) hs
def rIxU (K : PySem.W.Frag) : R2 := fun x y H Q => rIx K x y H Q ∨ rIxDc x y H Q
theorem ix_U (K : PySem.W.Frag) (hu : X.A.units + 1 < cLine) (h : X.K = K := by rfl) : IxR X (rIxU K) := IxR.or (ix_seqK K h) (ix_dict hu)
def rSlU (K : PySem.W.Frag) : V → Option Int → Option Int → Hp → VK → Prop := fun x lo hi H Q => rSlL K x lo hi H Q ∨ rSlA K x lo hi H Q ∨ rSlS x lo hi H Q
theorem sl_U (K : PySem.W.Frag) (h : X.K = K := by rfl) : SlR X (rSlU K) := SlR.or (sl_listK K h) (SlR.or (sl_tupAK K h) sl_str)
def rLenD : List V → Hp → VK → Prop := fun xs H Q => ∃ a kvs, xs = [V.ref a] ∧ Rd H a (.dK kvs) ∧ Q (.int kvs.length) H
theorem call_lenDR : CallR X (.builtin "len") rLenD := by
  intro pins s σ H xs us Q I r h
  obtain ⟨a, kvs, rfl, ha, q⟩ := h
  obtain ⟨u, rfl, ru⟩ := vals1 r
  cases ru
  exact d_len I ha fun t s' I' => ⟨.int kvs.length, H, I', ⟨t, rfl⟩, q⟩
def rLenS : List V → Hp → VK → Prop := fun xs H Q => ∃ z, xs = [.str z] ∧ z.length ≤ sizeLine ∧ Q (.int z.length) H
def rLenU (K : PySem.W.Frag) : List V → Hp → VK → Prop := fun xs H Q => rLenSq K xs H Q ∨ rLenS xs H Q ∨ rLenD xs H Q
theorem call_lenU (K : PySem.W.Frag) (h : X.K = K := by rfl) : CallR X (.builtin "len") (rLenU K) := CallR.or (call_len_seqK K h) (CallR.or call_len_str call_lenDR)
end
end Kn

set_option Elab.async false
set_option maxRecDepth 100000
set_option linter.all false
set_option autoImplicit false
/-! what the readings say over data -/
namespace Kn
open PySem L2
abbrev TDE := PSt → (Rv → PSt → Prop) → Prop
abbrev TDT := PSt → (Bool → PSt → Prop) → Prop
abbrev TDA := PSt → (List Rv → PSt → Prop) → Prop
abbrev TDN := PSt → (List D → PSt → Prop) → Prop
abbrev TDK := PSt → (List (Key × D) → PSt → Prop) → Prop
structure DEnds where
  nx : PSt → Prop
  rt : D → Wd → Prop
  bk : PSt → Prop := fun _ => False
  ct : PSt → Prop := fun _ => False
  rn : List D → Wd → Prop := fun _ _ => False
abbrev TDS := DEnds → PSt → Prop
abbrev TDG := D → PSt → (PSt → Prop) → Prop
abbrev TDGs := List D → PSt → (PSt → Prop) → Prop
def tms : List V → List Rv → List Tm
  | v :: vs, r :: rs => .v v r :: tms vs rs
  | _, _ => []
structure Lnk (K : PySem.W.Frag) (e : Ent) (T : List Tm) (Ed : DEnds) (E : Ends) : Prop where
  nx : ∀ S σ H, Ed.nx S → R K e σ H S T → E.nx σ H
  rt : ∀ d S σ v H, Ed.rt d S.W → R K e σ H S (.v v (.d d) :: T) → E.rt v H
  bk : ∀ S σ H, Ed.bk S → R K e σ H S T → E.bk σ H
  ct : ∀ S σ H, Ed.ct S → R K e σ H S T → E.ct σ H
  rn : ∀ ds S σ l H, Ed.rn ds S.W → RN K e σ H S T l ds → E.rt (.ref l) H
class SimE (K : PySem.W.Frag) (e : Ent) (te : TE) (t : outParam TDE) : Prop where
  run : ∀ (σ : St) (H : Hp) (S : PSt) (T : List Tm) (Qd : Rv → PSt → Prop) (Q : VK), R K e σ H S T → t S Qd → (∀ r S' v H', Qd r S' → R K e σ H' S' (.v v r :: T) → Q v H') → te σ H Q
class SimT (K : PySem.W.Frag) (e : Ent) (te : TT) (t : outParam TDT) : Prop where
  run : ∀ (σ : St) (H : Hp) (S : PSt) (T : List Tm) (Qd : Bool → PSt → Prop) (Q : Bool → Hp → Prop), R K e σ H S T → t S Qd → (∀ b S' H', Qd b S' → R K e σ H' S' T → Q b H') → te σ H Q
class SimA (K : PySem.W.Frag) (e : Ent) (ta : TA) (t : outParam TDA) : Prop where
  run : ∀ (σ : St) (H : Hp) (S : PSt) (T : List Tm) (Qd : List Rv → PSt → Prop) (Q : List V → Hp → Prop), R K e σ H S T → t S Qd → (∀ rs S' vs H', Qd rs S' → vs.length = rs.length → R K e σ H' S' (tms vs rs ++ T) → Q vs H') → ta σ H Q
/-- a new list -/
class SimN (K : PySem.W.Frag) (e : Ent) (te : TE) (t : outParam TDN) : Prop where
  run : ∀ (σ : St) (H : Hp) (S : PSt) (T : List Tm) (Qd : List D → PSt → Prop) (Q : VK), R K e σ H S T → t S Qd → (∀ ds S' l H', Qd ds S' → RN K e σ H' S' T l ds → Q (.ref l) H') → te σ H Q
/-- a new dict -/
class SimK (K : PySem.W.Frag) (e : Ent) (te : TE) (t : outParam TDK) : Prop where
  run : ∀ (σ : St) (H : Hp) (S : PSt) (T : List Tm) (Qd : List (Key × D) → PSt → Prop) (Q : VK), R K e σ H S T → t S Qd → (∀ ds S' l H', Qd ds S' → RNd K e σ H' S' T l ds → Q (.ref l) H') → te σ H Q
class SimS (K : PySem.W.Frag) (e : Ent) (ts : TS) (t : outParam TDS) : Prop where
  run : ∀ (σ : St) (H : Hp) (S : PSt) (T : List Tm) (Ed : DEnds) (E : Ends), NoOwn T → R K e σ H S T → t Ed S → Lnk K e T Ed E → ts E σ H
class SimG (K : PySem.W.Frag) (e : Ent) (g : TG) (t : outParam TDG) : Prop where
  run : ∀ (v : V) (d : D) (σ : St) (H : Hp) (S : PSt) (T : List Tm) (Qd : PSt → Prop) (Q : St → Hp → Prop), NoOwn T → R K e σ H S (.v v (.d d) :: T) → t d S Qd → (∀ S' σ' H', Qd S' → R K e σ' H' S' T → Q σ' H') → g v σ H Q
class SimGs (K : PySem.W.Frag) (e : Ent) (g : TGs) (t : outParam TDGs) : Prop where
  run : ∀ (vs : List V) (ds : List D) (σ : St) (H : Hp) (S : PSt) (T : List Tm) (Qd : PSt → Prop) (Q : St → Hp → Prop), NoOwn T → vs.length = ds.length → R K e σ H S (tms vs (ds.map .d) ++ T) → t ds S Qd → (∀ S' σ' H', Qd S' → R K e σ' H' S' T → Q σ' H') → g vs σ H Q
/-- a two-place operation by values -/
class SimO (K : PySem.W.Frag) (e : Ent) (r : R2) (o : outParam (PSt → Rv → Rv → (D → PSt → Prop) → Prop)) : Prop where
  run : ∀ (σ : St) (H : Hp) (S : PSt) (T : List Tm) (x y : V) (rx ry : Rv) (Qd : D → PSt → Prop) (Q : VK), R K e σ H S (.v y ry :: .v x rx :: T) → o S rx ry Qd → (∀ d S' v H', Qd d S' → R K e σ H' S' (.v v (.d d) :: T) → Q v H') → r x y H Q
/-- a call of a builtin by values -/
class SimC (K : PySem.W.Frag) (e : Ent) (r : List V → Hp → VK → Prop) (o : outParam (PSt → List Rv → (D → PSt → Prop) → Prop)) : Prop where
  run : ∀ (σ : St) (H : Hp) (S : PSt) (T : List Tm) (vs : List V) (rs : List Rv) (Qd : D → PSt → Prop) (Q : VK), vs.length = rs.length → R K e σ H S (tms vs rs ++ T) → o S rs Qd → (∀ d S' v H', Qd d S' → R K e σ H' S' (.v v (.d d) :: T) → Q v H') → r vs H Q
/-- .. that makes a new list -/
class SimCN (K : PySem.W.Frag) (e : Ent) (r : List V → Hp → VK → Prop) (o : outParam (PSt → List Rv → (List D → PSt → Prop) → Prop)) : Prop where
  run : ∀ (σ : St) (H : Hp) (S : PSt) (T : List Tm) (vs : List V) (rs : List Rv) (Qd : List D → PSt → Prop) (Q : VK), vs.length = rs.length → R K e σ H S (tms vs rs ++ T) → o S rs Qd → (∀ ds S' l H', Qd ds S' → RN K e σ H' S' T l ds → Q (.ref l) H') → r vs H Q
def PSt.set (S : PSt) (i : Nat) (c : PC) : PSt := ⟨S.ρ.set i (some c), S.W⟩
/-! ### what is read -/
def derefD (S : PSt) : Rv → Option D
  | .d (.ref a) => match S.W.ω a with
    | some (.lst ds) => some (.lst ds)
    | some (.dct ks) => some (.dct ks)
    | some (.lk _ _ ks) => some (.dct ks)
    | some (.ins C fs) => some (.obj C fs)
    | none => some (.ref a)
  | .d d => some d
  | .own j => match S.ρ[j]? with
    | some (some (.val (.ref _))) => none
    | some (some (.val d)) => some d
    | some (some (.ownL ds)) => some (.lst ds)
    | some (some (.ownD ks)) => some (.dct ks)
    | _ => none
def Vw (K : PySem.W.Frag) (Tp U : Addr → Prop) (H : Hp) (v : V) : D → Prop
  | .tup ds => ∃ a xs, v = .ref a ∧ SqT K (Hd U H) a xs ∧ DvL K Tp (Hd U H) xs ds
  | .lst ds => ∃ a xs, v = .ref a ∧ H a = some (.lst xs) ∧ DvL K Tp (Hd U H) xs ds
  | .dct ks => ∃ a xs, v = .ref a ∧ Rd H a (.dK xs) ∧ DvK K Tp (Hd U H) xs ks
  | .obj C fs => ∃ a dx xs, v = .ref a ∧ H a = some (.ins C dx xs) ∧ DvF K Tp (Hd U H) xs fs
  | d => Dv K Tp (Hd U H) v d
section
variable {K : PySem.W.Frag} {e : Ent} {σ : St} {H H' : Hp} {S : PSt} {T : List Tm} {U U' : Addr → Prop} {W' : Wd}
theorem Dv.vw {Tp : Addr → Prop} {v : V} : ∀ {d : D}, Dv K Tp (Hd U H) v d → Vw K Tp U H v d
  | .non, h => h
  | .bl _, h => h
  | .int _, h => h
  | .str _, h => h
  | .ty _, h => h
  | .tup _, .tup h t => ⟨_, _, rfl, h, t⟩
  | .lst _, .lst h t => ⟨_, _, rfl, Hd.sub _ _ h, t⟩
  | .dct _, .dct h t => ⟨_, _, rfl, Rd.same Hd.sub h, t⟩
  | .obj _ _, .obj h t => ⟨_, _, _, rfl, Hd.sub _ _ h, t⟩
  | .ref _, h => h
  | .tape, h => h
  | .scr, h => h
  | .exc _ _ _ _, h => h
theorem RU.vw (x : RU K e σ H S T U) {v : V} {r : Rv} {d : D} (h : TmOk K e U S H σ (.v v r)) (hd : derefD S r = some d) : Vw K S.W.Tp U H v d := by
  match r, h, hd with
  | .d (.ref a), h, hd =>
    have h : Dv K S.W.Tp (Hd U H) v (.ref a) := h
    cases h
    rw [derefD] at hd
    cases q : S.W.ω a with
    | none => rw [q] at hd; cases hd; exact .ref a
    | some c =>
      rw [q] at hd
      obtain ⟨_, k⟩ := x.wo.cell a c q
      match c, k, hd with
      | .lst ds, ⟨vs, h1, h2⟩, hd => cases hd; exact ⟨a, vs, rfl, h1, h2⟩
      | .dct ds, ⟨vs, h1, h2⟩, hd => cases hd; exact ⟨a, vs, rfl, .inl h1, h2⟩
      | .lk od vs ds, ⟨h1, h2⟩, hd => cases hd; exact ⟨a, vs, rfl, .inr ⟨od, h1⟩, h2⟩
      | .ins C fs, ⟨dx, vs, h1, h2⟩, hd => cases hd; exact ⟨a, dx, vs, rfl, h1, h2⟩
  | .d .non, h, hd => cases hd; exact Dv.vw h
  | .d (.bl _), h, hd => cases hd; exact Dv.vw h
  | .d (.int _), h, hd => cases hd; exact Dv.vw h
  | .d (.str _), h, hd => cases hd; exact Dv.vw h
  | .d (.ty _), h, hd => cases hd; exact Dv.vw h
  | .d (.tup _), h, hd => cases hd; exact Dv.vw h
  | .d (.lst _), h, hd => cases hd; exact Dv.vw h
  | .d (.dct _), h, hd => cases hd; exact Dv.vw h
  | .d (.obj _ _), h, hd => cases hd; exact Dv.vw h
  | .d .tape, h, hd => cases hd; exact Dv.vw h
  | .d .scr, h, hd => cases hd; exact Dv.vw h
  | .d (.exc _ _ _ _), h, hd => cases hd; exact Dv.vw h
  | .own j, h, hd =>
    have h : σ[j]? = some (some v) := h
    rw [derefD] at hd
    cases q : S.ρ[j]? with
    | none => rw [q] at hd; cases hd
    | some c =>
      cases c with
      | none => rw [q] at hd; cases hd
      | some c =>
        obtain ⟨v', h1, h2⟩ := x.slot j c q
        rw [h] at h1; cases h1
        rw [q] at hd
        match c, h2, hd with
        | .val d', h2, hd =>
          have e1 : d = d' := by
            cases d' <;> simp at hd <;> first | exact hd.symm | exact absurd hd (by intro z; cases z)
          subst e1
          exact Dv.vw h2
        | .ownL ds, ⟨l, vs, e1, _, h1, h2⟩, hd => cases hd; exact ⟨l, vs, e1, h1, h2⟩
        | .ownD ds, ⟨l, vs, e1, _, h1, h2⟩, hd => cases hd; exact ⟨l, vs, e1, .inl h1, h2⟩
/-! ### what is stored is frozen -/
def frc : Rv → PSt → (D → PSt → Prop) → Prop
  | .d d, S, Q => Q d S
  | .own j, S, Q => match S.ρ[j]? with
    | some (some (.val d)) => Q d S
    | some (some (.ownL ds)) => Q (.lst ds) (S.set j (.val (.lst ds)))
    | some (some (.ownD ks)) => Q (.dct ks) (S.set j (.val (.dct ks)))
    | _ => False
def frcL : List Rv → PSt → (List D → PSt → Prop) → Prop
  | [], S, Q => Q [] S
  | r :: rs, S, Q => frc r S fun d S1 => frcL rs S1 fun ds S2 => Q (d :: ds) S2
theorem R.frc {v : V} {r : Rv} {Qd : D → PSt → Prop} {C : Prop} (x : R K e σ H S (.v v r :: T)) (h : Kn.frc r S Qd) (k : ∀ d S', Qd d S' → R K e σ H S' (.v v (.d d) :: T) → C) : C := by
  match r, x, h with
  | .d d, x, h => exact k d S h x
  | .own j, ⟨U, x⟩, h =>
    have hs : σ[j]? = some (some v) := x.tmp (.v v (.own j)) (by simp)
    have xt := x.less (T' := T) fun p hp => List.mem_cons_of_mem _ hp
    rw [Kn.frc] at h
    cases q : S.ρ[j]? with
    | none => rw [q] at h; exact h.elim
    | some c =>
      cases c with
      | none => rw [q] at h; exact h.elim
      | some c =>
        obtain ⟨v', h1, h2⟩ := x.slot j c q
        rw [hs] at h1; cases h1
        rw [q] at h
        match c, h2, h with
        | .val d, h2, h => exact k d S h ⟨U, xt.push h2⟩
        | .ownL ds, ⟨l, vs, e1, ow, h1, h3⟩, h =>
          subst e1
          have hd : Dv K S.W.Tp (Hd (fun b => U b ∧ b ≠ l) H) (.ref l) (.lst ds) := .lst (Hd.get h1 fun z => z.2 rfl) (DvL.le (Same.lq Hd.less) (fun _ z => z) h3)
          exact k _ _ h ⟨_, (xt.freeze q trivial hs ow hd).push hd⟩
        | .ownD ds, ⟨l, vs, e1, ow, h1, h3⟩, h =>
          subst e1
          have hd : Dv K S.W.Tp (Hd (fun b => U b ∧ b ≠ l) H) (.ref l) (.dct ds) := .dct (.inl (Hd.get h1 fun z => z.2 rfl)) (DvK.le (Same.lq Hd.less) (fun _ z => z) h3)
          exact k _ _ h ⟨_, (xt.freeze q trivial hs ow hd).push hd⟩
theorem tms_len : ∀ {vs : List V} {rs : List Rv}, vs.length = rs.length → (tms vs rs).length = rs.length
  | [], [], _ => rfl
  | _ :: vs, _ :: rs, h => by
    show (tms vs rs).length + 1 = rs.length + 1
    rw [tms_len (by simpa using h)]
theorem R.frcL : ∀ {vs : List V} {rs : List Rv} {S : PSt} {T : List Tm} {Qd : List D → PSt → Prop} {C : Prop}, vs.length = rs.length → R K e σ H S (tms vs rs ++ T) → Kn.frcL rs S Qd → (∀ ds S', Qd ds S' → vs.length = ds.length → R K e σ H S' (tms vs (ds.map .d) ++ T) → C) → C
  | [], [], S, T, Qd, C, _, x, h, k => k [] S h rfl x
  | v :: vs, r :: rs, S, T, Qd, C, hl, x, h, k => by
    refine R.frc (v := v) (r := r) (T := tms vs rs ++ T) x h fun d S1 h1 x1 => ?_
    have x1' : R K e σ H S1 (tms vs rs ++ (.v v (.d d) :: T)) := x1.less fun p hp => by
      rcases List.mem_append.mp hp with hp | hp
      · exact List.mem_cons_of_mem _ (List.mem_append_left _ hp)
      · rcases List.mem_cons.mp hp with rfl | hp
        · exact List.mem_cons_self
        · exact List.mem_cons_of_mem _ (List.mem_append_right _ hp)
    refine R.frcL (by simpa using hl) x1' h1 fun ds S2 h2 hl2 x2 => k (d :: ds) S2 h2 (by simp [hl2]) (x2.less fun p hp => ?_)
    rcases List.mem_cons.mp hp with rfl | hp
    · exact List.mem_append_right _ List.mem_cons_self
    · rcases List.mem_append.mp hp with hp | hp
      · exact List.mem_append_left _ hp
      · exact List.mem_append_right _ (List.mem_cons_of_mem _ hp)
theorem RU.tms : ∀ {vs : List V} {ds : List D}, vs.length = ds.length → RU K e σ H S (Kn.tms vs (ds.map .d) ++ T) U → DvL K S.W.Tp (Hd U H) vs ds
  | [], [], _, _ => .nil
  | v :: vs, d :: ds, h, x => .cons (x.tmp (.v v (.d d)) (by simp [Kn.tms])) (RU.tms (by simpa using h) (x.less fun p hp => List.mem_cons_of_mem _ hp))
theorem R.tail {T1 : List Tm} (x : R K e σ H S (T1 ++ T)) : R K e σ H S T := x.less fun _ h => List.mem_append_right _ h
end
end Kn

set_option Elab.async false
set_option maxRecDepth 100000
set_option linter.all false
set_option autoImplicit false
namespace Kn
open PySem L2
section
variable {K : PySem.W.Frag} {e : Ent}
theorem big_of {n : Nat} (h : n ≤ 1000000) : n ≤ sizeLine := Nat.le_trans h (by decide)
theorem bigl_of {n : Nat} (h : n ≤ 1000000) : n < sizeLine := Nat.lt_of_le_of_lt h (by decide)
/-! ### names, constants -/
def tdVar (i : Nat) : TDE := fun S Q => match S.ρ[i]? with
  | some (some (.val d)) => Q (.d d) S
  | some (some (.ownL _)) => Q (.own i) S
  | some (some (.ownD _)) => Q (.own i) S
  | _ => False
instance simVar {i : Nat} : SimE K e (tVar i) (tdVar i) := ⟨fun σ H S T Qd Q ⟨U, x⟩ h k => by
  unfold tdVar at h
  cases q : S.ρ[i]? with
  | none => rw [q] at h; exact h.elim
  | some c =>
    cases c with
    | none => rw [q] at h; exact h.elim
    | some c =>
      obtain ⟨v, h1, h2⟩ := x.slot i c q
      rw [q] at h
      refine ⟨v, h1, ?_⟩
      match c, h2, h with
      | .val d, h2, h => exact k _ _ _ _ h ⟨U, x.push h2⟩
      | .ownL ds, h2, h => exact k _ _ _ _ h ⟨U, x.push h1⟩
      | .ownD ds, h2, h => exact k _ _ _ _ h ⟨U, x.push h1⟩⟩
def tdC (d : D) : TDE := fun S Q => Q (.d d) S
theorem simC_ {v : V} {d : D} (hv : ∀ (Tp : Addr → Prop) (H : Hp), Dv K Tp H v d) : SimE K e (tC v) (tdC d) := ⟨fun σ H S T Qd Q ⟨U, x⟩ h k => k _ _ _ _ h ⟨U, x.push (hv _ _)⟩⟩
instance simNon : SimE K e (tC .non) (tdC .non) := simC_ fun _ _ => .non
instance simBl {b : Bool} : SimE K e (tC (.bl b)) (tdC (.bl b)) := simC_ fun _ _ => .bl b
instance simInt {i : Int} : SimE K e (tC (.int i)) (tdC (.int i)) := simC_ fun _ _ => .int i
instance simStr {x : Str} : SimE K e (tC (.str x)) (tdC (.str x)) := simC_ fun _ _ => .str x
instance simTy {x : String} : SimE K e (tC (.ty x)) (tdC (.ty x)) := simC_ fun _ _ => .ty x
instance simRef {x : Addr} : SimE K e (tC (.ref x)) (tdC (.ref x)) := simC_ fun _ _ => .ref x
/-! ### two in a row -/
def tdOp (o : PSt → Rv → Rv → (D → PSt → Prop) → Prop) (ta tb : TDE) : TDE := fun S Q => ta S fun x S1 => tb S1 fun y S2 => o S2 x y fun d S3 => Q (.d d) S3
instance simOp {r : R2} {o : PSt → Rv → Rv → (D → PSt → Prop) → Prop} {ta tb : TE} {ta' tb' : TDE} [ha : SimE K e ta ta'] [hb : SimE K e tb tb'] [ho : SimO K e r o] : SimE K e (tOp r ta tb) (tdOp o ta' tb') := ⟨fun σ H S T Qd Q x h k => by
  refine ha.run σ H S T _ _ x h fun r1 S1 v1 H1 h1 x1 => ?_
  refine hb.run σ H1 S1 _ _ _ x1 h1 fun r2 S2 v2 H2 h2 x2 => ?_
  exact ho.run σ H2 S2 T v1 v2 r1 r2 _ _ x2 h2 fun d S3 v H3 h3 x3 => k _ _ _ _ h3 x3⟩
/-! ### arguments, displays -/
def tdNil : TDA := fun S Q => Q [] S
def tdCons (ta : TDE) (tr : TDA) : TDA := fun S Q => ta S fun r S1 => tr S1 fun rs S2 => Q (r :: rs) S2
instance simNil : SimA K e tNil tdNil := ⟨fun σ H S T Qd Q x h k => k _ _ _ _ h rfl x⟩
instance simCons {ta : TE} {tr : TA} {ta' : TDE} {tr' : TDA} [ha : SimE K e ta ta'] [hb : SimA K e tr tr'] : SimA K e (tCons ta tr) (tdCons ta' tr') := ⟨fun σ H S T Qd Q x h k => by
  refine ha.run σ H S T _ _ x h fun r1 S1 v1 H1 h1 x1 => ?_
  refine hb.run σ H1 S1 _ _ _ x1 h1 fun rs S2 vs H2 h2 hl x2 => ?_
  refine k _ _ _ _ h2 (by simp [hl]) (x2.less fun p hp => ?_)
  rcases List.mem_cons.mp hp with rfl | hp
  · exact List.mem_append_right _ List.mem_cons_self
  · rcases List.mem_append.mp hp with hp | hp
    · exact List.mem_append_left _ hp
    · exact List.mem_append_right _ (List.mem_cons_of_mem _ hp)⟩
theorem RU.newT {σ : St} {H : Hp} {S : PSt} {T : List Tm} {U : Addr → Prop} (x : RU K e σ H S T U) {p : Addr} {vs : List V} {ds : List D} (hp : H p = none) (hv : DvL K S.W.Tp (Hd U H) vs ds) : R K e σ (upd H p (.tup vs)) S (.v (.ref p) (.d (.tup ds)) :: T) :=
  ⟨U, (x.alloc hp).push (.tup (SqT.of (Hd.get upd_same (x.fresh hp))) (DvL.le (Same.lq (same_upd hp)) (fun _ z => z) hv))⟩
def tdTup (ta : TDA) : TDE := fun S Q => ta S fun rs S1 => frcL rs S1 fun ds S2 => ds.length ≤ 1000000 ∧ Q (.d (.tup ds)) S2
instance simTup {ta : TA} {ta' : TDA} [ha : SimA K e ta ta'] : SimE K e (tTup ta) (tdTup ta') := ⟨fun σ H S T Qd Q x h k => by
  refine ha.run σ H S T _ _ x h fun rs S1 vs H1 h1 hl x1 => ?_
  refine R.frcL hl x1 h1 fun ds S2 h2 hl2 x2 => ?_
  obtain ⟨U, x2⟩ := x2
  refine ⟨big_of (by rw [hl2]; exact h2.1), fun p hp => k _ _ _ _ h2.2 ?_⟩
  exact (x2.less fun q hq => List.mem_append_right _ hq).newT hp (RU.tms hl2 x2)⟩
def tnLst (ta : TDA) : TDN := fun S Q => ta S fun rs S1 => frcL rs S1 fun ds S2 => ds.length ≤ 1000000 ∧ Q ds S2
instance simLst {ta : TA} {ta' : TDA} [ha : SimA K e ta ta'] : SimN K e (tLst ta) (tnLst ta') := ⟨fun σ H S T Qd Q x h k => by
  refine ha.run σ H S T _ _ x h fun rs S1 vs H1 h1 hl x1 => ?_
  refine R.frcL hl x1 h1 fun ds S2 h2 hl2 x2 => ?_
  obtain ⟨U, x2⟩ := x2
  refine ⟨big_of (by rw [hl2]; exact h2.1), fun p hp => k _ _ _ _ h2.2 ?_⟩
  exact (x2.less fun q hq => List.mem_append_right _ hq).newL hp (RU.tms hl2 x2)⟩
/-- a new list, frozen -/
def tdFrz (t : TDN) : TDE := fun S Q => t S fun ds S1 => Q (.d (.lst ds)) S1
instance (priority := low) simFrz {te : TE} {t : TDN} [h : SimN K e te t] : SimE K e te (tdFrz t) := ⟨fun σ H S T Qd Q x ht k => h.run σ H S T _ _ x ht fun ds S1 l H1 h1 x1 => k _ _ _ _ h1 x1.frozen⟩
def tdFrzK (t : TDK) : TDE := fun S Q => t S fun ds S1 => Q (.d (.dct ds)) S1
instance (priority := low) simFrzK {te : TE} {t : TDK} [h : SimK K e te t] : SimE K e te (tdFrzK t) := ⟨fun σ H S T Qd Q x ht k => h.run σ H S T _ _ x ht fun ds S1 l H1 h1 x1 => k _ _ _ _ h1 x1.frozen⟩
def tkNew : TDK := fun S Q => Q [] S
instance simDNew : SimK K e tDNewK tkNew := ⟨fun σ H S T Qd Q ⟨U, x⟩ h k => fun p hp => k _ _ _ _ h (x.newD hp .nil)⟩
/-! ### tests -/
def asB (r : Rv) (F : Bool → Prop) : Prop := match r with
  | .d (.bl b) => F b
  | _ => False
def tdTest (t : TDE) : TDT := fun S Q => t S fun r S1 => asB r fun b => Q b S1
theorem simTest_ {te : TE} {t : TDE} (h : SimE K e te t) {σ : St} {H : Hp} {S : PSt} {T : List Tm} {Qd : Bool → PSt → Prop} {Q : Bool → Hp → Prop} (x : R K e σ H S T) (ht : tdTest t S Qd) (k : ∀ b S' H', Qd b S' → R K e σ H' S' T → Q b H') : te σ H fun v H' => ∃ b, v = .bl b ∧ Q b H' := by
  refine h.run σ H S T _ _ x ht fun r S1 v H1 h1 x1 => ?_
  match r, h1, x1 with
  | .d (.bl b), h1, ⟨U, x1⟩ =>
    have hv : Dv K S1.W.Tp (Hd U H1) v (.bl b) := x1.tmp (.v v (.d (.bl b))) (by simp)
    cases hv
    exact ⟨b, rfl, k _ _ _ h1 (R.pop ⟨U, x1⟩)⟩
instance simTB {te : TE} {t : TDE} [h : SimE K e te t] : SimT K e (tB te) (tdTest t) := ⟨fun σ H S T Qd Q x ht k => simTest_ h x ht k⟩
instance simTT {te : TE} {t : TDE} [h : SimE K e te t] : SimT K e (tTest te) (tdTest t) := ⟨fun σ H S T Qd Q x ht k => simTest_ h x ht k⟩
def tdAnd (t u : TDT) : TDT := fun S Q => t S fun c S1 => if c = true then u S1 Q else Q false S1
def tdOr (t u : TDT) : TDT := fun S Q => t S fun c S1 => if c = true then Q true S1 else u S1 Q
def tdNot (t : TDT) : TDT := fun S Q => t S fun c S1 => Q (!c) S1
instance simAnd {t u : TT} {t' u' : TDT} [h1 : SimT K e t t'] [h2 : SimT K e u u'] : SimT K e (tAnd t u) (tdAnd t' u') := ⟨fun σ H S T Qd Q x h k => by
  refine h1.run σ H S T _ _ x h fun c S1 H1 hc x1 => ?_
  cases c
  · exact k _ _ _ hc x1
  · exact h2.run σ H1 S1 T _ _ x1 hc k⟩
instance simOr {t u : TT} {t' u' : TDT} [h1 : SimT K e t t'] [h2 : SimT K e u u'] : SimT K e (tOr t u) (tdOr t' u') := ⟨fun σ H S T Qd Q x h k => by
  refine h1.run σ H S T _ _ x h fun c S1 H1 hc x1 => ?_
  cases c
  · exact h2.run σ H1 S1 T _ _ x1 hc k
  · exact k _ _ _ hc x1⟩
instance simNot {t : TT} {t' : TDT} [h1 : SimT K e t t'] : SimT K e (tNot t) (tdNot t') := ⟨fun σ H S T Qd Q x h k => h1.run σ H S T _ _ x h fun c S1 H1 hc x1 => k _ _ _ hc x1⟩
def tdYes : TDT := fun S Q => Q true S
instance simYes : SimT K e tYes tdYes := ⟨fun σ H S T Qd Q x h k => k _ _ _ h x⟩
/-! ### and, or, not as values -/
def tdAndV (ta tb : TDE) : TDE := fun S Q => tdTest ta S fun c S1 => if c = true then tb S1 Q else Q (.d (.bl false)) S1
def tdOrV (ta tb : TDE) : TDE := fun S Q => tdTest ta S fun c S1 => if c = true then Q (.d (.bl true)) S1 else tb S1 Q
def tdNotV (ta : TDE) : TDE := fun S Q => tdTest ta S fun c S1 => Q (.d (.bl (!c))) S1
instance simAndV {t u : TE} {t' u' : TDE} [h1 : SimE K e t t'] [h2 : SimE K e u u'] : SimE K e (tAndV t u) (tdAndV t' u') := ⟨fun σ H S T Qd Q x h k => by
  refine simTest_ h1 x h fun c S1 H1 hc x1 => ?_
  cases c
  · obtain ⟨U, x1⟩ := x1
    exact k _ _ _ _ hc ⟨U, x1.push (.bl false)⟩
  · exact h2.run σ H1 S1 T _ _ x1 hc k⟩
instance simOrV {t u : TE} {t' u' : TDE} [h1 : SimE K e t t'] [h2 : SimE K e u u'] : SimE K e (tOrV t u) (tdOrV t' u') := ⟨fun σ H S T Qd Q x h k => by
  refine simTest_ h1 x h fun c S1 H1 hc x1 => ?_
  cases c
  · exact h2.run σ H1 S1 T _ _ x1 hc k
  · obtain ⟨U, x1⟩ := x1
    exact k _ _ _ _ hc ⟨U, x1.push (.bl true)⟩⟩
instance simNotV {t : TE} {t' : TDE} [h1 : SimE K e t t'] : SimE K e (tNotV t) (tdNotV t') := ⟨fun σ H S T Qd Q x h k => by
  refine simTest_ h1 x h fun c S1 H1 hc x1 => ?_
  obtain ⟨U, x1⟩ := x1
  exact k _ _ _ _ hc ⟨U, x1.push (.bl (!c))⟩⟩
def tdIf (t : TDT) (ta tb : TDE) : TDE := fun S Q => t S fun c S1 => if c = true then ta S1 Q else tb S1 Q
instance simIf {t : TT} {ta tb : TE} {t' : TDT} {ta' tb' : TDE} [h1 : SimT K e t t'] [h2 : SimE K e ta ta'] [h3 : SimE K e tb tb'] : SimE K e (tIf t ta tb) (tdIf t' ta' tb') := ⟨fun σ H S T Qd Q x h k => by
  refine h1.run σ H S T _ _ x h fun c S1 H1 hc x1 => ?_
  cases c
  · exact h3.run σ H1 S1 T _ _ x1 hc k
  · exact h2.run σ H1 S1 T _ _ x1 hc k⟩
/-! ### a builtin called -/
def tdCB (o : PSt → List Rv → (D → PSt → Prop) → Prop) (t : TDA) : TDE := fun S Q => t S fun rs S1 => o S1 rs fun d S2 => Q (.d d) S2
instance simCB {r : List V → Hp → VK → Prop} {o : PSt → List Rv → (D → PSt → Prop) → Prop} {t : TA} {t' : TDA} [h1 : SimA K e t t'] [h2 : SimC K e r o] : SimE K e (tCB r t) (tdCB o t') := ⟨fun σ H S T Qd Q x h k => by
  refine h1.run σ H S T _ _ x h fun rs S1 vs H1 hc hl x1 => ?_
  exact h2.run σ H1 S1 T vs rs _ _ hl x1 hc fun d S2 v H2 h2 x2 => k _ _ _ _ h2 x2⟩
def tnCB (o : PSt → List Rv → (List D → PSt → Prop) → Prop) (t : TDA) : TDN := fun S Q => t S fun rs S1 => o S1 rs Q
instance simCBN {r : List V → Hp → VK → Prop} {o : PSt → List Rv → (List D → PSt → Prop) → Prop} {t : TA} {t' : TDA} [h1 : SimA K e t t'] [h2 : SimCN K e r o] : SimN K e (tCB r t) (tnCB o t') := ⟨fun σ H S T Qd Q x h k => by
  refine h1.run σ H S T _ _ x h fun rs S1 vs H1 hc hl x1 => ?_
  exact h2.run σ H1 S1 T vs rs _ _ hl x1 hc fun ds S2 l H2 h2 x2 => k _ _ _ _ h2 x2⟩
end
end Kn

set_option Elab.async false
set_option maxRecDepth 100000
set_option linter.all false
set_option autoImplicit false
namespace Kn
open PySem L2
section
variable {K : PySem.W.Frag} {e : Ent}
/-- the two operands, seen -/
theorem R.two {σ : St} {H : Hp} {S : PSt} {T : List Tm} {x y : V} {rx ry : Rv} {a b : D} (w : R K e σ H S (.v y ry :: .v x rx :: T)) (ha : derefD S rx = some a) (hb : derefD S ry = some b) :
    ∃ U, RU K e σ H S T U ∧ Vw K S.W.Tp U H x a ∧ Vw K S.W.Tp U H y b ∧ RU K e σ H S (.v y ry :: .v x rx :: T) U := by
  obtain ⟨U, w⟩ := w
  exact ⟨U, w.less fun p hp => by simp [hp], w.vw (w.tmp (.v x rx) (by simp)) ha, w.vw (w.tmp (.v y ry) (by simp)) hb, w⟩
theorem R.one {σ : St} {H : Hp} {S : PSt} {T : List Tm} {x : V} {rx : Rv} {a : D} (w : R K e σ H S (.v x rx :: T)) (ha : derefD S rx = some a) :
    ∃ U, RU K e σ H S T U ∧ Vw K S.W.Tp U H x a ∧ RU K e σ H S (.v x rx :: T) U := by
  obtain ⟨U, w⟩ := w
  exact ⟨U, w.less fun p hp => by simp [hp], w.vw (w.tmp (.v x rx) (by simp)) ha, w⟩
theorem Vw.int {Tp U : Addr → Prop} {H : Hp} {v : V} {i : Int} (h : Vw K Tp U H v (.int i)) : v = .int i := by
  have h : Dv K Tp (Hd U H) v (.int i) := h
  cases h; rfl
theorem Vw.str {Tp U : Addr → Prop} {H : Hp} {v : V} {i : Str} (h : Vw K Tp U H v (.str i)) : v = .str i := by
  have h : Dv K Tp (Hd U H) v (.str i) := h
  cases h; rfl
theorem Vw.bl {Tp U : Addr → Prop} {H : Hp} {v : V} {i : Bool} (h : Vw K Tp U H v (.bl i)) : v = .bl i := by
  have h : Dv K Tp (Hd U H) v (.bl i) := h
  cases h; rfl
theorem Vw.non {Tp U : Addr → Prop} {H : Hp} {v : V} (h : Vw K Tp U H v .non) : v = .non := by
  have h : Dv K Tp (Hd U H) v .non := h
  cases h; rfl
theorem Vw.ty {Tp U : Addr → Prop} {H : Hp} {v : V} {n : String} (h : Vw K Tp U H v (.ty n)) : v = .ty n := by
  have h : Dv K Tp (Hd U H) v (.ty n) := h
  cases h; rfl
/-- two data by cases -/
def dd2 (S : PSt) (rx ry : Rv) (F : D → D → Prop) : Prop := match derefD S rx, derefD S ry with
  | some a, some b => F a b
  | _, _ => False
theorem dd2_inv {S : PSt} {rx ry : Rv} {F : D → D → Prop} (h : dd2 S rx ry F) : ∃ a b, derefD S rx = some a ∧ derefD S ry = some b ∧ F a b := by
  unfold dd2 at h
  cases ha : derefD S rx with
  | none => rw [ha] at h; exact h.elim
  | some a =>
    cases hb : derefD S ry with
    | none => rw [ha, hb] at h; exact h.elim
    | some b => rw [ha, hb] at h; exact ⟨a, b, rfl, rfl, h⟩
def dd1 (S : PSt) (rx : Rv) (F : D → Prop) : Prop := match derefD S rx with
  | some a => F a
  | _ => False
theorem dd1_inv {S : PSt} {rx : Rv} {F : D → Prop} (h : dd1 S rx F) : ∃ a, derefD S rx = some a ∧ F a := by
  unfold dd1 at h
  cases ha : derefD S rx with
  | none => rw [ha] at h; exact h.elim
  | some a => rw [ha] at h; exact ⟨a, rfl, h⟩
/-! ### + -/
def addF (Q : D → Prop) : D → D → Prop
  | .int i, .int j => Q (.int (i + j))
  | .str a, .str b => a.length + b.length ≤ 1000000 ∧ Q (.str (a ++ b))
  | .tup a, .tup b => a.length + b.length ≤ 1000000 ∧ Q (.tup (a ++ b))
  | .lst a, .lst b => a.length + b.length ≤ 1000000 ∧ Q (.lst (a ++ b))
  | _, _ => False
def addD (S : PSt) (rx ry : Rv) (Q : D → PSt → Prop) : Prop := dd2 S rx ry (addF fun d => Q d S)
instance simAdd : SimO K e (rAddU K) addD := ⟨fun σ H S T x y rx ry Qd Q w h k => by
  obtain ⟨a, b, ha, hb, h⟩ := dd2_inv h
  obtain ⟨U, wT, vx, vy, w2⟩ := w.two ha hb
  match a, b, h, vx, vy with
  | .int i, .int j, h, vx, vy =>
    rw [vx.int, vy.int]
    exact .inl ⟨i, j, rfl, rfl, k _ _ _ _ h ⟨U, wT.push (.int _)⟩⟩
  | .str i, .str j, h, vx, vy =>
    rw [vx.str, vy.str]
    exact .inr (.inl ⟨i, j, rfl, rfl, big_of h.1, k _ _ _ _ h.2 ⟨U, wT.push (.str _)⟩⟩)
  | .lst ds, .lst es, h, ⟨p, xs, e1, h1, h2⟩, ⟨q, ys, e2, h3, h4⟩ =>
    subst e1 e2
    refine .inr (.inr (.inl ⟨p, q, xs, ys, rfl, rfl, h1, h3, big_of (by rw [h2.len, h4.len]; exact h.1), fun l hl => k _ _ _ _ h.2 ?_⟩))
    exact (wT.newL hl (h2.app h4)).frozen
  | .tup ds, .tup es, h, ⟨p, xs, e1, h1, h2⟩, ⟨q, ys, e2, h3, h4⟩ =>
    subst e1 e2
    refine .inr (.inr (.inr ⟨p, q, xs, ys, rfl, rfl, SqT.same Hd.sub h1, SqT.same Hd.sub h3, big_of (by rw [h2.len, h4.len]; exact h.1), fun z => ?_, fun _ z => ?_, fun _ _ l hl => k _ _ _ _ h.2 (wT.newT hl (h2.app h4))⟩))
    · subst z
      have e0 : ds = [] := List.length_eq_zero_iff.mp h2.len.symm
      subst e0
      exact k _ _ _ _ h.2 ⟨U, wT.push (.tup h3 h4)⟩
    · subst z
      have e0 : es = [] := List.length_eq_zero_iff.mp h4.len.symm
      subst e0
      exact k _ _ _ _ h.2 ⟨U, wT.push (.tup h1 (by rw [List.append_nil]; exact h2))⟩⟩
/-- a + b of lists, new -/
def tnAdd (ta tb : TDE) : TDN := fun S Q => ta S fun x S1 => tb S1 fun y S2 => dd2 S2 x y fun a b => match a, b with
  | .lst a, .lst b => a.length + b.length ≤ 1000000 ∧ Q (a ++ b) S2
  | _, _ => False
instance simAddN {ta tb : TE} {ta' tb' : TDE} [h1 : SimE K e ta ta'] [h2 : SimE K e tb tb'] : SimN K e (tOp (rAddU K) ta tb) (tnAdd ta' tb') := ⟨fun σ H S T Qd Q x h k => by
  refine h1.run σ H S T _ _ x h fun r1 S1 v1 H1 h1 x1 => ?_
  refine h2.run σ H1 S1 _ _ _ x1 h1 fun r2 S2 v2 H2 h2 x2 => ?_
  obtain ⟨a, b, ha, hb, h⟩ := dd2_inv h2
  obtain ⟨U, wT, vx, vy, w2⟩ := x2.two ha hb
  match a, b, h, vx, vy with
  | .lst ds, .lst es, h, ⟨p, xs, e1, h1, h2⟩, ⟨q, ys, e2, h3, h4⟩ =>
    subst e1 e2
    exact .inr (.inr (.inl ⟨p, q, xs, ys, rfl, rfl, h1, h3, big_of (by rw [h2.len, h4.len]; exact h.1), fun l hl => k _ _ _ _ h.2 (wT.newL hl (h2.app h4))⟩))⟩
/-! ### numbers -/
def iiF (P : Int → Int → Prop) (f : Int → Int → D) (Q : D → Prop) : D → D → Prop
  | .int i, .int j => P i j ∧ Q (f i j)
  | _, _ => False
def iiD (P : Int → Int → Prop) (f : Int → Int → D) (S : PSt) (rx ry : Rv) (Q : D → PSt → Prop) : Prop := dd2 S rx ry (iiF P f fun d => Q d S)
theorem simII {r : R2} {P : Int → Int → Prop} {f : Int → Int → D} {g : Int → Int → V} (hg : ∀ i j (Tp : Addr → Prop) (H : Hp), Dv K Tp H (g i j) (f i j)) (hr : ∀ i j H (Q : VK), P i j → Q (g i j) H → r (.int i) (.int j) H Q) : SimO K e r (iiD P f) := ⟨fun σ H S T x y rx ry Qd Q w h k => by
  obtain ⟨a, b, ha, hb, h⟩ := dd2_inv h
  obtain ⟨U, wT, vx, vy, w2⟩ := w.two ha hb
  match a, b, h, vx, vy with
  | .int i, .int j, h, vx, vy =>
    rw [vx.int, vy.int]
    exact hr i j H Q h.1 (k _ _ _ _ h.2 ⟨U, wT.push (hg _ _ _ _)⟩)⟩
def rSubI : R2 := rI0 fun i j => .int (i - j)
theorem op_subU {X : Cx} : OpR X (binaryOp .Sub) rSubI := op_sub
abbrev subD := iiD (fun _ _ => True) fun i j => .int (i - j)
instance simSub : SimO K e rSubI subD := simII (fun _ _ _ _ => .int _) fun i j H Q _ q => ⟨i, j, rfl, rfl, q⟩
def rModI : R2 := rI (fun _ j => 0 < j) fun i j => .int (i % j)
theorem op_modU {X : Cx} : OpR X (binaryOp .Mod) rModI := op_mod
abbrev modD := iiD (fun _ j => 0 < j) fun i j => .int (i % j)
instance simMod : SimO K e rModI modD := simII (fun _ _ _ _ => .int _) fun i j H Q p q => ⟨i, j, rfl, rfl, p, q⟩
def rDivI : R2 := rI CDiv fun i j => .int (i / j)
theorem op_fdivU {X : Cx} : OpR X (binaryOp .FloorDiv) rDivI := op_fdiv
abbrev divD := iiD (fun _ j => 0 < j ∧ j < 1073741824) fun i j => .int (i / j)
instance simDiv : SimO K e rDivI divD := simII (fun _ _ _ _ => .int _) fun i j H Q p q => ⟨i, j, rfl, rfl, p, q⟩
def rPowI : R2 := rI CPow fun i j => .int (i ^ j.toNat)
theorem op_powU {X : Cx} : OpR X (binaryOp .Pow) rPowI := op_pow
abbrev powD := iiD (fun i j => 0 ≤ j ∧ j ≤ 1000000 ∧ i.natAbs < 2 ^ 64) fun i j => .int (i ^ j.toNat)
instance simPow : SimO K e rPowI powD := simII (fun _ _ _ _ => .int _) fun i j H Q p q => ⟨i, j, rfl, rfl, p, q⟩
def rLtI : R2 := rI0 fun i j => .bl (decide (i < j))
def rLeI : R2 := rI0 fun i j => .bl (decide (i ≤ j))
def rGtI : R2 := rI0 fun i j => .bl (decide (j < i))
def rGeI : R2 := rI0 fun i j => .bl (decide (j ≤ i))
theorem op_ltU {X : Cx} : OpR X (compareOp .Lt) rLtI := op_lt
theorem op_leU {X : Cx} : OpR X (compareOp .LtE) rLeI := op_le
theorem op_gtU {X : Cx} : OpR X (compareOp .Gt) rGtI := op_gt
theorem op_geU {X : Cx} : OpR X (compareOp .GtE) rGeI := op_ge
abbrev ltD := iiD (fun _ _ => True) fun i j => .bl (decide (i < j))
abbrev leD := iiD (fun _ _ => True) fun i j => .bl (decide (i ≤ j))
abbrev gtD := iiD (fun _ _ => True) fun i j => .bl (decide (j < i))
abbrev geD := iiD (fun _ _ => True) fun i j => .bl (decide (j ≤ i))
instance simLt : SimO K e rLtI ltD := simII (fun _ _ _ _ => .bl _) fun i j H Q _ q => ⟨i, j, rfl, rfl, q⟩
instance simLe : SimO K e rLeI leD := simII (fun _ _ _ _ => .bl _) fun i j H Q _ q => ⟨i, j, rfl, rfl, q⟩
instance simGt : SimO K e rGtI gtD := simII (fun _ _ _ _ => .bl _) fun i j H Q _ q => ⟨i, j, rfl, rfl, q⟩
instance simGe : SimO K e rGeI geD := simII (fun _ _ _ _ => .bl _) fun i j H Q _ q => ⟨i, j, rfl, rfl, q⟩
/-! ### * -/
def mulF (Q : D → Prop) : D → D → Prop
  | .int i, .int j => ((-(2 ^ 64) < i ∧ i < 2 ^ 64) ∨ (-(2 ^ 64) < j ∧ j < 2 ^ 64)) ∧ Q (.int (i * j))
  | .str a, .int j => 0 ≤ j ∧ a.length ≤ 1000 ∧ j ≤ 1000 ∧ Q (.str (repS a j.toNat))
  | _, _ => False
def mulD (S : PSt) (rx ry : Rv) (Q : D → PSt → Prop) : Prop := dd2 S rx ry (mulF fun d => Q d S)
instance simMul : SimO K e rMulU mulD := ⟨fun σ H S T x y rx ry Qd Q w h k => by
  obtain ⟨a, b, ha, hb, h⟩ := dd2_inv h
  obtain ⟨U, wT, vx, vy, w2⟩ := w.two ha hb
  match a, b, h, vx, vy with
  | .int i, .int j, h, vx, vy =>
    rw [vx.int, vy.int]
    exact .inl ⟨i, j, rfl, rfl, h.1, k _ _ _ _ h.2 ⟨U, wT.push (.int _)⟩⟩
  | .str i, .int j, ⟨h0, h1, h2, h3⟩, vx, vy =>
    rw [vx.str, vy.int]
    exact .inr (.inl ⟨i, j.toNat, rfl, by rw [Int.toNat_of_nonneg h0], h1, by omega, k _ _ _ _ h3 ⟨U, wT.push (.str _)⟩⟩)⟩
/-! ### ==, != -/
def toV : D → Option V
  | .non => some .non
  | .bl b => some (.bl b)
  | .int i => some (.int i)
  | .str x => some (.str x)
  | _ => none
def scD (a b : D) : Bool := match toV a, toV b with
  | some x, some y => scal x y
  | _, _ => false
def eqOk (a b : D) : Prop := scD a b = true ∨ ∃ c, okD c a = true ∧ okD c b = true ∧ dpD a ≤ 64 ∧ dpD b ≤ 64
theorem toV_dv {Tp : Addr → Prop} {H : Hp} {v x : V} {d : D} (h : Dv K Tp H v d) (e : toV d = some x) : v = x := by
  cases h <;> simp [toV] at e <;> first | exact e | (cases e; done)
theorem toV_inj : ∀ {a b : D} {x y : V}, toV a = some x → toV b = some y → (decide (x = y) = decide (a = b)) := by
  intro a b x y h1 h2
  cases a <;> simp [toV] at h1 <;> cases b <;> simp [toV] at h2 <;> subst h1 <;> subst h2 <;> simp
theorem Vw.dv0 {Tp U : Addr → Prop} {H : Hp} {v : V} {d : D} {x : V} (h : Vw K Tp U H v d) (e : toV d = some x) : v = x := by
  cases d <;> simp [toV] at e <;> subst e <;> first | exact Vw.non h | exact Vw.bl h | exact Vw.int h | exact Vw.str h
theorem Vw.dp {Tp U : Addr → Prop} {H : Hp} {v : V} {c : Bool} : ∀ {d : D}, Vw K Tp U H v d → okD c d = true → Dp K H v (toP d)
  | .non, h, g => Dv.dp Hd.sub (show Dv K Tp (Hd U H) v .non from h) g
  | .bl b, h, g => Dv.dp Hd.sub (show Dv K Tp (Hd U H) v (.bl b) from h) g
  | .int b, h, g => Dv.dp Hd.sub (show Dv K Tp (Hd U H) v (.int b) from h) g
  | .str b, h, g => Dv.dp Hd.sub (show Dv K Tp (Hd U H) v (.str b) from h) g
  | .ty b, h, g => by simp [okD] at g
  | .tup ds, ⟨a, xs, e1, h, t⟩, g => by rw [okD] at g; rw [toP, e1]; exact .tup (SqT.same Hd.sub h) (DvL.dp Hd.sub t g)
  | .lst ds, ⟨a, xs, e1, h, t⟩, g => by rw [okD] at g; rw [toP, e1]; exact .lst (SqL.of h) (DvL.dp Hd.sub t g)
  | .dct _, h, g => by simp [okD] at g
  | .obj _ _, h, g => by simp [okD] at g
  | .ref _, h, g => by simp [okD] at g
  | .tape, h, g => by simp [okD] at g
  | .scr, h, g => by simp [okD] at g
  | .exc _ _ _ _, h, g => by simp [okD] at g
def eqD (neg : Bool) (S : PSt) (rx ry : Rv) (Q : D → PSt → Prop) : Prop := dd2 S rx ry fun a b => eqOk a b ∧ Q (.bl (if neg then !decide (a = b) else decide (a = b))) S
theorem simEq_ {σ : St} {H : Hp} {S : PSt} {T : List Tm} {x y : V} {rx ry : Rv} {Qd : D → PSt → Prop} {neg : Bool} {C : Prop} (w : R K e σ H S (.v y ry :: .v x rx :: T)) (h : eqD neg S rx ry Qd)
    (k1 : ∀ b, scal x y = true → decide (x = y) = b → Qd (.bl (if neg then !b else b)) S → R K e σ H S T → C) (k2 : ∀ d d' b, Dp K H x d → Dp K H y d' → SeqAt.shaped d = true → SeqAt.shaped d' = true → PyData.eqv d d' = b → Qd (.bl (if neg then !b else b)) S → R K e σ H S T → C) : C := by
  obtain ⟨a, b, ha, hb, h0, h⟩ := dd2_inv h
  obtain ⟨U, wT, vx, vy, w2⟩ := w.two ha hb
  rcases h0 with h0 | ⟨c, h1, h2, h3, h4⟩
  · unfold scD at h0
    cases ea : toV a with
    | none => rw [ea] at h0; exact absurd h0 Bool.false_ne_true
    | some va =>
      cases eb : toV b with
      | none => rw [ea, eb] at h0; exact absurd h0 Bool.false_ne_true
      | some vb =>
        rw [ea, eb] at h0
        have e1 := vx.dv0 ea
        have e2 := vy.dv0 eb
        subst e1 e2
        exact k1 _ h0 rfl (by rw [toV_inj ea eb]; exact h) ⟨U, wT⟩
  · exact k2 _ _ _ (vx.dp h1) (vy.dp h2) (toP_shaped h1 h3) (toP_shaped h2 h4) rfl (by rw [eqv_toP a b h1 h2, beqD_dec]; exact h) ⟨U, wT⟩
theorem R.bl {σ : St} {H : Hp} {S : PSt} {T : List Tm} {b : Bool} (w : R K e σ H S T) : R K e σ H S (.v (.bl b) (.d (.bl b)) :: T) := let ⟨U, w⟩ := w; ⟨U, w.push (.bl b)⟩
instance simEq : SimO K e (rEqU K) (eqD false) := ⟨fun σ H S T x y rx ry Qd Q w h k => simEq_ w h (fun b h1 h2 q w => .inl ⟨h1, by rw [h2]; exact k _ _ _ _ q w.bl⟩) fun d d' b g1 g2 g3 g4 g5 q w => .inr ⟨d, d', g1, g2, g3, g4, by rw [g5]; exact k _ _ _ _ q w.bl⟩⟩
instance simNe : SimO K e (rNeU K) (eqD true) := ⟨fun σ H S T x y rx ry Qd Q w h k => simEq_ w h (fun b h1 h2 q w => .inl ⟨h1, by rw [h2]; exact k _ _ _ _ q w.bl⟩) fun d d' b g1 g2 g3 g4 g5 q w => .inr ⟨d, d', g1, g2, g3, g4, by rw [g5]; exact k _ _ _ _ q w.bl⟩⟩
/-! ### is None -/
def isNn : D → Bool
  | .non => true
  | _ => false
def isND (neg : Bool) (S : PSt) (rx ry : Rv) (Q : D → PSt → Prop) : Prop := match rx, ry with
  | .d d, .d .non => Q (.bl (if neg then !isNn d else isNn d)) S
  | _, _ => False
theorem isNn_dv {Tp : Addr → Prop} {H : Hp} {v : V} {d : D} (h : Dv K Tp H v d) : decide (v = .non) = isNn d := by
  cases h <;> first | rfl | exact decide_eq_false (fun z => nomatch z)
theorem simIs_ {σ : St} {H : Hp} {S : PSt} {T : List Tm} {x y : V} {rx ry : Rv} {Qd : D → PSt → Prop} {neg : Bool} (w : R K e σ H S (.v y ry :: .v x rx :: T)) (h : isND neg S rx ry Qd) : y = .non ∧ ∃ b, decide (x = .non) = b ∧ Qd (.bl (if neg then !b else b)) S ∧ R K e σ H S T := by
  obtain ⟨U, w⟩ := w
  match rx, ry, w, h with
  | .d d, .d .non, w, h =>
    have hy : Dv K S.W.Tp (Hd U H) y .non := w.tmp (.v y (.d .non)) (by simp)
    cases hy
    exact ⟨rfl, isNn d, isNn_dv (w.tmp (.v x (.d d)) (by simp)), h, U, w.less fun p hp => by simp [hp]⟩
instance simIsN : SimO K e rIsN (isND false) := ⟨fun σ H S T x y rx ry Qd Q w h k => by
  obtain ⟨h1, b, h2, h3, w⟩ := simIs_ w h
  exact ⟨h1, by rw [h2]; exact k _ _ _ _ h3 w.bl⟩⟩
instance simNotN : SimO K e rNotN (isND true) := ⟨fun σ H S T x y rx ry Qd Q w h k => by
  obtain ⟨h1, b, h2, h3, w⟩ := simIs_ w h
  exact ⟨h1, by rw [h2]; exact k _ _ _ _ h3 w.bl⟩⟩
end
end Kn

set_option Elab.async false
set_option maxRecDepth 100000
set_option linter.all false
set_option autoImplicit false
namespace Kn
open PySem L2
section
variable {K : PySem.W.Frag} {e : Ent}
/-! ### in, not in -/
def strIn (i j : Str) : Bool := !(Builtin.Str.occurrences j i 0 j.length 1).isEmpty
theorem strIn_sign (c : Nat) (z : Str) : strIn ⟨#[c]⟩ z = decide (c ∈ z.cps.toList) := PySem.StrLaws.found_one z c
def fl (c : Bool) : D → Bool
  | .non => true
  | .int _ => !c
  | .bl _ => c
  | .str _ => true
  | _ => false
def keyD : D → Option Key
  | .int i => some (.inl i)
  | .str x => some (.inr x)
  | _ => none
theorem fl_flat {Tp : Addr → Prop} {H : Hp} {v : V} {d : D} {c : Bool} (h : Dv K Tp H v d) (f : fl c d = true) : flatV v = true := by
  cases h <;> simp [fl] at f <;> rfl
theorem fl_eq {Tp : Addr → Prop} {H : Hp} {v w : V} {d d' : D} {c : Bool} (h : Dv K Tp H v d) (h' : Dv K Tp H w d') (f : fl c d = true) (f' : fl c d' = true) : eqV w v = decide (d = d') := by
  cases h <;> simp [fl] at f <;> cases h' <;> simp_all [fl, eqV] <;> (rw [Bool.eq_iff_iff]; simp; constructor <;> exact fun z => z.symm)
theorem fl_all {Tp : Addr → Prop} {H : Hp} {c : Bool} : ∀ {vs : List V} {ds : List D}, DvL K Tp H vs ds → ds.all (fl c) = true → vs.all flatV = true
  | _, _, .nil, _ => rfl
  | _, _, .cons h t, f => by
    rw [List.all_cons, Bool.and_eq_true] at f
    rw [List.all_cons, fl_flat h f.1, fl_all t f.2]; rfl
theorem fl_in {Tp : Addr → Prop} {H : Hp} {c : Bool} {x : V} {d : D} (hx : Dv K Tp H x d) (f0 : fl c d = true) : ∀ {vs : List V} {ds : List D}, DvL K Tp H vs ds → ds.all (fl c) = true → inV x vs = decide (d ∈ ds)
  | _, _, .nil, _ => by simp [inV]
  | w :: vs, d' :: ds, .cons h t, f => by
    rw [List.all_cons, Bool.and_eq_true] at f
    have ih := fl_in hx f0 t f.2
    unfold inV at ih ⊢
    rw [List.any_cons, ih, fl_eq hx h f0 f.1]
    rw [Bool.eq_iff_iff]; simp
def inOk (x : D) (ds : List D) : Prop := ∃ c, (fl c x = true ∧ ds.all (fl c) = true) ∨ (okD c x = true ∧ okL c ds = true ∧ dpD x ≤ 64 ∧ dpL ds < 64)
def inF (Q : Bool → Prop) (x : D) : D → Prop
  | .lst ds => inOk x ds ∧ Q (decide (x ∈ ds))
  | .tup ds => (∃ c, fl c x = true ∧ ds.all (fl c) = true) ∧ Q (decide (x ∈ ds))
  | .str j => match x with
    | .str i => Q (strIn i j)
    | _ => False
  | .dct ks => match keyD x with
    | some k => Q (look ks k).isSome
    | none => False
  | _ => False
def inD (neg : Bool) (S : PSt) (rx ry : Rv) (Q : D → PSt → Prop) : Prop := dd2 S rx ry (inF fun b => Q (.bl (if neg then !b else b)) S)
theorem fl_dv {Tp U : Addr → Prop} {H : Hp} {v : V} {c : Bool} : ∀ {d : D}, Vw K Tp U H v d → fl c d = true → Dv K Tp (Hd U H) v d
  | .non, h, _ => h
  | .bl _, h, _ => h
  | .int _, h, _ => h
  | .str _, h, _ => h
  | .ty _, h, _ => h
  | .tup _, _, f => by simp [fl] at f
  | .lst _, _, f => by simp [fl] at f
  | .dct _, _, f => by simp [fl] at f
  | .obj _ _, _, f => by simp [fl] at f
  | .ref _, h, _ => h
  | .tape, h, _ => h
  | .scr, h, _ => h
  | .exc _ _ _ _, h, _ => h
theorem any_eqv {c : Bool} (d : D) (g : okD c d = true) : ∀ ds : List D, okL c ds = true → ((toPs ds).any fun z => PyData.eqv z (toP d)) = decide (d ∈ ds)
  | [], _ => by simp [toPs]
  | d' :: ds, h => by
    rw [okL, Bool.and_eq_true] at h
    rw [toPs, List.any_cons, any_eqv d g ds h.2, eqv_toP d' d h.1 g, beqD_dec]
    rw [Bool.eq_iff_iff]; simp
    constructor
    · rintro (z | z)
      · exact .inl z.symm
      · exact .inr z
    · rintro (z | z)
      · exact .inl z.symm
      · exact .inr z
theorem keyD_v {Tp U : Addr → Prop} {H : Hp} {v : V} {d : D} {k : Key} (h : Vw K Tp U H v d) (ek : keyD d = some k) : v = kV k := by
  cases d <;> simp [keyD] at ek <;> subst ek
  · exact h.int
  · exact h.str
theorem simIn_ {σ : St} {H : Hp} {S : PSt} {T : List Tm} {x y : V} {rx ry : Rv} {Qd : D → PSt → Prop} {neg : Bool} {C : Prop} (w : R K e σ H S (.v y ry :: .v x rx :: T)) (h : inD neg S rx ry Qd)
    (k1 : ∀ p xs b, y = .ref p → (SqL K H p xs ∨ SqT K H p xs) → flatV x = true → xs.all flatV = true → inV x xs = b → Qd (.bl (if neg then !b else b)) S → R K e σ H S T → C)
    (k2 : ∀ i j, x = .str i → y = .str j → Qd (.bl (if neg then !strIn i j else strIn i j)) S → R K e σ H S T → C)
    (k3 : ∀ a o, y = .ref a → DGet H a x o → Qd (.bl (if neg then !o.isSome else o.isSome)) S → R K e σ H S T → C)
    (k4 : ∀ d ds b, Dp K H x d → Dp K H y (.list ds) → SeqAt.shaped d = true → SeqAt.shaped (.list ds) = true → (ds.any fun z => PyData.eqv z d) = b → Qd (.bl (if neg then !b else b)) S → R K e σ H S T → C) : C := by
  obtain ⟨a, b, ha, hb, h⟩ := dd2_inv h
  obtain ⟨U, wT, vx, vy, w2⟩ := w.two ha hb
  match b, h, vy with
  | .lst ds, ⟨⟨c, .inl h0⟩, h⟩, ⟨p, xs, e1, h1, h2⟩ =>
    subst e1
    have dx := fl_dv vx h0.1
    exact k1 p xs _ rfl (.inl (SqL.of h1)) (fl_flat dx h0.1) (fl_all h2 h0.2) (fl_in dx h0.1 h2 h0.2) h ⟨U, wT⟩
  | .lst ds, ⟨⟨c, .inr ⟨g1, g2, g3, g4⟩⟩, h⟩, ⟨p, xs, e1, h1, h2⟩ =>
    subst e1
    have gl : okD c (.lst ds) = true := by rw [okD]; exact g2
    have dl : dpD (.lst ds) ≤ 64 := by rw [dpD]; omega
    have sh := toP_shaped gl dl
    have dp : Dp K H (.ref p) (toP (.lst ds)) := Vw.dp (d := .lst ds) ⟨p, xs, rfl, h1, h2⟩ gl
    rw [toP] at sh dp
    exact k4 _ _ _ (vx.dp g1) dp (toP_shaped g1 g3) sh (any_eqv a g1 ds g2) h ⟨U, wT⟩
  | .tup ds, ⟨⟨c, h0⟩, h⟩, ⟨p, xs, e1, h1, h2⟩ =>
    subst e1
    have dx := fl_dv vx h0.1
    exact k1 p xs _ rfl (.inr (SqT.same Hd.sub h1)) (fl_flat dx h0.1) (fl_all h2 h0.2) (fl_in dx h0.1 h2 h0.2) h ⟨U, wT⟩
  | .str j, h, vy =>
    match a, h, vx with
    | .str i, h, vx => exact k2 i j vx.str vy.str h ⟨U, wT⟩
  | .dct ks, h, ⟨p, xs, e1, h1, h2⟩ =>
    rw [inF] at h
    cases q : keyD a with
    | none => rw [q] at h; exact h.elim
    | some k =>
      rw [q] at h
      refine k3 p (valV xs k) e1 (.inl ⟨xs, k, h1, keyD_v vx q, rfl⟩) ?_ ⟨U, wT⟩
      rw [valV_look h2]; exact h
instance simIn : SimO K e (rInU K) (inD false) := ⟨fun σ H S T x y rx ry Qd Q w h k => simIn_ w h (fun p xs b h1 h2 h3 h4 h5 q w => .inl ⟨p, xs, h1, h2, h3, h4, by rw [h5]; exact k _ _ _ _ q w.bl⟩) (fun i j h1 h2 q w => .inr (.inl ⟨i, j, h1, h2, k _ _ _ _ q w.bl⟩))
  (fun a o h1 h2 q w => .inr (.inr (.inl ⟨a, o, h1, h2, k _ _ _ _ q w.bl⟩))) fun d ds b h1 h2 h3 h4 h5 q w => .inr (.inr (.inr ⟨d, ds, h1, h2, h3, h4, by rw [h5]; exact k _ _ _ _ q w.bl⟩))⟩
instance simNotIn : SimO K e (rNotInU K) (inD true) := ⟨fun σ H S T x y rx ry Qd Q w h k => simIn_ w h (fun p xs b h1 h2 h3 h4 h5 q w => .inl ⟨p, xs, h1, h2, h3, h4, by rw [h5]; exact k _ _ _ _ q w.bl⟩) (fun i j h1 h2 q w => .inr (.inl ⟨i, j, h1, h2, k _ _ _ _ q w.bl⟩))
  (fun a o h1 h2 q w => .inr (.inr (.inl ⟨a, o, h1, h2, k _ _ _ _ q w.bl⟩))) fun d ds b h1 h2 h3 h4 h5 q w => .inr (.inr (.inr ⟨d, ds, h1, h2, h3, h4, by rw [h5]; exact k _ _ _ _ q w.bl⟩))⟩
/-! ### x[i] -/
def opt {α : Type} (o : Option α) (F : α → Prop) : Prop := match o with
  | some a => F a
  | none => False
theorem opt_inv {α : Type} {o : Option α} {F : α → Prop} (h : opt o F) : ∃ a, o = some a ∧ F a := by
  cases o with
  | none => exact h.elim
  | some a => exact ⟨a, rfl, h⟩
def ixF (Q : D → Prop) : D → D → Prop
  | .lst ds, .int i => opt (atI ds i) Q
  | .tup ds, .int i => opt (atI ds i) Q
  | .str z, .int i => z.length ≤ 1000000 ∧ opt (atI z.cps.toList i) fun c => Q (.str ⟨#[c]⟩)
  | .dct ks, .int i => opt (look ks (.inl i)) Q
  | .dct ks, .str x => opt (look ks (.inr x)) Q
  | _, _ => False
def ixD (S : PSt) (rx ry : Rv) (Q : D → PSt → Prop) : Prop := dd2 S rx ry (ixF fun d => Q d S)
theorem DvL.atI {Tp : Addr → Prop} {H : Hp} {vs : List V} {ds : List D} {i : Int} {d : D} (h : DvL K Tp H vs ds) (he : L2.atI ds i = some d) : ∃ v, L2.atI vs i = some v ∧ Dv K Tp H v d := by
  unfold L2.atI at he ⊢
  rw [h.len]
  obtain ⟨j, h1, h2⟩ := Option.bind_eq_some_iff.mp he
  rw [h1]
  exact h.get h2
instance simIx : SimO K e (rIxU K) ixD := ⟨fun σ H S T x y rx ry Qd Q w h k => by
  obtain ⟨a, b, ha, hb, h⟩ := dd2_inv h
  obtain ⟨U, wT, vx, vy, w2⟩ := w.two ha hb
  match a, b, h, vx, vy with
  | .lst ds, .int i, h, ⟨p, xs, e1, h1, h2⟩, vy =>
    obtain ⟨d, h3, h4⟩ := opt_inv h
    obtain ⟨v, h5, h6⟩ := h2.atI h3
    subst e1
    rw [vy.int]
    exact .inl (.inl ⟨p, xs, i, v, rfl, rfl, SqL.of h1, h5, k _ _ _ _ h4 ⟨U, wT.push h6⟩⟩)
  | .tup ds, .int i, h, ⟨p, xs, e1, h1, h2⟩, vy =>
    obtain ⟨d, h3, h4⟩ := opt_inv h
    obtain ⟨v, h5, h6⟩ := h2.atI h3
    subst e1
    rw [vy.int]
    exact .inl (.inr (.inl ⟨p, xs, i, v, rfl, rfl, SqT.same Hd.sub h1, h5, k _ _ _ _ h4 ⟨U, wT.push h6⟩⟩))
  | .str z, .int i, ⟨h0, h⟩, vx, vy =>
    obtain ⟨c, h3, h4⟩ := opt_inv h
    rw [vx.str, vy.int]
    exact .inl (.inr (.inr ⟨z, i, c, rfl, rfl, big_of h0, h3, k _ _ _ _ h4 ⟨U, wT.push (.str _)⟩⟩))
  | .dct ks, .int i, h, ⟨p, xs, e1, h1, h2⟩, vy =>
    obtain ⟨d, h3, h4⟩ := opt_inv h
    obtain ⟨v, h5, h6⟩ := h2.look_some h3
    subst e1
    rw [vy.int]
    exact .inr ⟨p, v, rfl, .inl ⟨xs, .inl i, h1, rfl, h5.symm⟩, k _ _ _ _ h4 ⟨U, wT.push h6⟩⟩
  | .dct ks, .str i, h, ⟨p, xs, e1, h1, h2⟩, vy =>
    obtain ⟨d, h3, h4⟩ := opt_inv h
    obtain ⟨v, h5, h6⟩ := h2.look_some h3
    subst e1
    rw [vy.str]
    exact .inr ⟨p, v, rfl, .inl ⟨xs, .inr i, h1, rfl, h5.symm⟩, k _ _ _ _ h4 ⟨U, wT.push h6⟩⟩⟩
/-! ### x[a:b] -/
abbrev TDO := PSt → (Option Int → PSt → Prop) → Prop
class SimP (K : PySem.W.Frag) (e : Ent) (te : TO) (t : outParam TDO) : Prop where
  run : ∀ (σ : St) (H : Hp) (S : PSt) (T : List Tm) (Qd : Option Int → PSt → Prop) (Q : Option Int → Hp → Prop), R K e σ H S T → t S Qd → (∀ b S' H', Qd b S' → R K e σ H' S' T → Q b H') → te σ H Q
def tdNoPart : TDO := fun S Q => Q none S
def asI (r : Rv) (F : Int → Prop) : Prop := match r with
  | .d (.int b) => F b
  | _ => False
def tdPart (t : TDE) : TDO := fun S Q => t S fun r S1 => asI r fun i => Q (some i) S1
instance simNoPart : SimP K e tNoPart tdNoPart := ⟨fun σ H S T Qd Q x h k => k _ _ _ h x⟩
instance simPart {te : TE} {t : TDE} [h : SimE K e te t] : SimP K e (tPart te) (tdPart t) := ⟨fun σ H S T Qd Q x ht k => by
  refine h.run σ H S T _ _ x ht fun r S1 v H1 h1 x1 => ?_
  match r, h1, x1 with
  | .d (.int b), h1, ⟨U, x1⟩ =>
    have hv : Dv K S1.W.Tp (Hd U H1) v (.int b) := x1.tmp (.v v (.d (.int b))) (by simp)
    cases hv
    exact ⟨b, rfl, k _ _ _ h1 (R.pop ⟨U, x1⟩)⟩⟩
def cut {α : Type} (xs : List α) (lo hi : Option Int) : List α := (xs.drop (HT.sIx xs.length 0 lo)).take (HT.sIx xs.length xs.length hi - HT.sIx xs.length 0 lo)
theorem DvL.cut {Tp : Addr → Prop} {H : Hp} {vs : List V} {ds : List D} {lo hi : Option Int} (h : DvL K Tp H vs ds) : DvL K Tp H (cutV vs lo hi) (Kn.cut ds lo hi) := by
  unfold cutV Kn.cut
  rw [h.len]
  exact (h.drop _).take _
def slF (lo hi : Option Int) (Q : D → Prop) : D → Prop
  | .lst ds => Q (.lst (cut ds lo hi))
  | .tup ds => Q (.tup (cut ds lo hi))
  | .str z => z.length ≤ 1000000 ∧ Q (.str (cutS z lo hi))
  | _ => False
def tdSl (te : TDE) (tl th : TDO) : TDE := fun S Q => te S fun r S1 => tl S1 fun lo S2 => th S2 fun hi S3 => dd1 S3 r (slF lo hi fun d => Q (.d d) S3)
theorem cut_all {α : Type} {xs : List α} {lo hi : Option Int} (h : HT.sIx xs.length 0 lo = 0 ∧ HT.sIx xs.length xs.length hi = xs.length) : cut xs lo hi = xs := by
  unfold cut
  rw [h.1, h.2]; simp
instance simSl {te : TE} {tl th : TO} {te' : TDE} {tl' th' : TDO} [h1 : SimE K e te te'] [h2 : SimP K e tl tl'] [h3 : SimP K e th th'] : SimE K e (tSl (rSlU K) te tl th) (tdSl te' tl' th') := ⟨fun σ H S T Qd Q x h k => by
  refine h1.run σ H S T _ _ x h fun r S1 v H1 h1 x1 => ?_
  refine h2.run σ H1 S1 _ _ _ x1 h1 fun lo S2 H2 h2 x2 => ?_
  refine h3.run σ H2 S2 _ _ _ x2 h2 fun hi S3 H3 h3 x3 => ?_
  obtain ⟨a, ha, h⟩ := dd1_inv h3
  obtain ⟨U, wT, vx, w2⟩ := x3.one ha
  match a, h, vx with
  | .lst ds, h, ⟨p, xs, e1, g1, g2⟩ =>
    subst e1
    exact .inl ⟨p, xs, rfl, SqL.of g1, fun q hq => k _ _ _ _ h (wT.newL hq g2.cut).frozen⟩
  | .tup ds, h, ⟨p, xs, e1, g1, g2⟩ =>
    subst e1
    refine .inr (.inl ⟨p, xs, rfl, SqT.same Hd.sub g1, fun z => ?_, fun _ q hq => k _ _ _ _ h (wT.newT hq g2.cut)⟩)
    rw [g2.len] at z
    rw [slF, cut_all z] at h
    exact k _ _ _ _ h ⟨U, wT.push (.tup g1 g2)⟩
  | .str z, ⟨h0, h⟩, vx =>
    exact .inr (.inr ⟨z, vx.str, big_of h0, k _ _ _ _ h ⟨U, wT.push (.str _)⟩⟩)⟩
def tnSl (te : TDE) (tl th : TDO) : TDN := fun S Q => te S fun r S1 => tl S1 fun lo S2 => th S2 fun hi S3 => dd1 S3 r fun d => match d with
  | .lst ds => Q (cut ds lo hi) S3
  | _ => False
instance simSlN {te : TE} {tl th : TO} {te' : TDE} {tl' th' : TDO} [h1 : SimE K e te te'] [h2 : SimP K e tl tl'] [h3 : SimP K e th th'] : SimN K e (tSl (rSlU K) te tl th) (tnSl te' tl' th') := ⟨fun σ H S T Qd Q x h k => by
  refine h1.run σ H S T _ _ x h fun r S1 v H1 h1 x1 => ?_
  refine h2.run σ H1 S1 _ _ _ x1 h1 fun lo S2 H2 h2 x2 => ?_
  refine h3.run σ H2 S2 _ _ _ x2 h2 fun hi S3 H3 h3 x3 => ?_
  obtain ⟨a, ha, h⟩ := dd1_inv h3
  obtain ⟨U, wT, vx, w2⟩ := x3.one ha
  match a, h, vx with
  | .lst ds, h, ⟨p, xs, e1, g1, g2⟩ =>
    subst e1
    exact .inl ⟨p, xs, rfl, SqL.of g1, fun q hq => k _ _ _ _ h (wT.newL hq g2.cut)⟩⟩
/-! ### x[::-1] -/
def tdRevT (te : TDE) (tk : TDO) : TDE := fun S Q => te S fun r S1 => tk S1 fun o S2 => o = some (-1) ∧ dd1 S2 r fun d => match d with
  | .tup ds => Q (.d (.tup ds.reverse)) S2
  | _ => False
instance simRevT {te : TE} {tk : TO} {te' : TDE} {tk' : TDO} [h1 : SimE K e te te'] [h2 : SimP K e tk tk'] : SimE K e (Kn.tRevT K te tk) (tdRevT te' tk') := ⟨fun σ H S T Qd Q x h k => by
  refine h1.run σ H S T _ _ x h fun r S1 v H1 h1 x1 => ?_
  refine h2.run σ H1 S1 _ _ _ x1 h1 fun o S2 H2 h2 x2 => ?_
  obtain ⟨a, ha, h⟩ := dd1_inv h2.2
  obtain ⟨U, wT, vx, w2⟩ := x2.one ha
  match a, h, vx with
  | .tup ds, h, ⟨p, xs, e1, g1, g2⟩ =>
    subst e1
    exact ⟨h2.1, p, xs, rfl, SqT.same Hd.sub g1, fun q hq => k _ _ _ _ h (wT.newT hq g2.rev)⟩⟩
def tnRevL (te : TDE) (tk : TDO) : TDN := fun S Q => te S fun r S1 => tk S1 fun o S2 => o = some (-1) ∧ dd1 S2 r fun d => match d with
  | .lst ds => Q ds.reverse S2
  | _ => False
instance simRevL {te : TE} {tk : TO} {te' : TDE} {tk' : TDO} [h1 : SimE K e te te'] [h2 : SimP K e tk tk'] : SimN K e (Kn.tRevL K te tk) (tnRevL te' tk') := ⟨fun σ H S T Qd Q x h k => by
  refine h1.run σ H S T _ _ x h fun r S1 v H1 h1 x1 => ?_
  refine h2.run σ H1 S1 _ _ _ x1 h1 fun o S2 H2 h2 x2 => ?_
  obtain ⟨a, ha, h⟩ := dd1_inv h2.2
  obtain ⟨U, wT, vx, w2⟩ := x2.one ha
  match a, h, vx with
  | .lst ds, h, ⟨p, xs, e1, g1, g2⟩ =>
    subst e1
    exact ⟨h2.1, p, xs, rfl, SqL.of g1, fun q hq => k _ _ _ _ h (wT.newL hq g2.rev)⟩⟩
end
end Kn

set_option Elab.async false
set_option maxRecDepth 100000
set_option linter.all false
set_option autoImplicit false
namespace Kn
open PySem L2
section
variable {K : PySem.W.Frag} {e : Ent}
/-- one argument -/
def arg1 (rs : List Rv) (F : Rv → Prop) : Prop := match rs with
  | [r] => F r
  | _ => False
def arg2 (rs : List Rv) (F : Rv → Rv → Prop) : Prop := match rs with
  | [r, q] => F r q
  | _ => False
theorem arg1_inv {rs : List Rv} {F : Rv → Prop} (h : arg1 rs F) : ∃ r, rs = [r] ∧ F r := by
  match rs, h with
  | [r], h => exact ⟨r, rfl, h⟩
theorem arg2_inv {rs : List Rv} {F : Rv → Rv → Prop} (h : arg2 rs F) : ∃ r q, rs = [r, q] ∧ F r q := by
  match rs, h with
  | [r, q], h => exact ⟨r, q, rfl, h⟩
theorem len1 {vs : List V} (h : vs.length = 1) : ∃ v, vs = [v] := by
  match vs, h with
  | [v], _ => exact ⟨v, rfl⟩
theorem len2 {vs : List V} (h : vs.length = 2) : ∃ v w, vs = [v, w] := by
  match vs, h with
  | [v, w], _ => exact ⟨v, w, rfl⟩
theorem simC1 {r : List V → Hp → VK → Prop} {F : PSt → (D → Prop) → D → Prop}
    (hr : ∀ (σ : St) (H : Hp) (S : PSt) (T : List Tm) (U : Addr → Prop) (v : V) (a : D) (Qd : D → PSt → Prop) (Q : VK), RU K e σ H S T U → Vw K S.W.Tp U H v a → F S (fun d => Qd d S) a → (∀ d v' H', Qd d S → R K e σ H' S (.v v' (.d d) :: T) → Q v' H') → r [v] H Q) :
    SimC K e r (fun S rs Q => arg1 rs fun x => dd1 S x (F S fun d => Q d S)) := ⟨fun σ H S T vs rs Qd Q hl x h k => by
  obtain ⟨r1, rfl, h⟩ := arg1_inv h
  obtain ⟨v, rfl⟩ := len1 hl
  obtain ⟨a, ha, h⟩ := dd1_inv h
  obtain ⟨U, wT, vx, _⟩ := R.one (T := T) x ha
  exact hr σ H S T U v a Qd Q wT vx h fun d v' H' q x' => k _ _ _ _ q x'⟩
/-! ### len -/
def lenF (_ : PSt) (Q : D → Prop) : D → Prop
  | .lst ds => Q (.int ds.length)
  | .tup ds => Q (.int ds.length)
  | .str z => z.length ≤ 1000000 ∧ Q (.int z.length)
  | .dct ks => Q (.int ks.length)
  | _ => False
instance simLen : SimC K e (rLenU K) (fun S rs Q => arg1 rs fun x => dd1 S x (lenF S fun d => Q d S)) := simC1 fun σ H S T U v a Qd Q x vw h k => by
  match a, h, vw with
  | .lst ds, h, ⟨p, xs, e1, h1, h2⟩ => subst e1; exact .inl ⟨p, xs, rfl, .inl (SqL.of h1), by rw [h2.len]; exact k _ _ _ h ⟨U, x.push (.int _)⟩⟩
  | .tup ds, h, ⟨p, xs, e1, h1, h2⟩ => subst e1; exact .inl ⟨p, xs, rfl, .inr (SqT.same Hd.sub h1), by rw [h2.len]; exact k _ _ _ h ⟨U, x.push (.int _)⟩⟩
  | .str z, h, vw => rw [vw.str]; exact .inr (.inl ⟨z, rfl, big_of h.1, k _ _ _ h.2 ⟨U, x.push (.int _)⟩⟩)
  | .dct ds, h, ⟨p, xs, e1, h1, h2⟩ => subst e1; exact .inr (.inr ⟨p, xs, rfl, h1, by rw [h2.len]; exact k _ _ _ h ⟨U, x.push (.int _)⟩⟩)
/-! ### isinstance -/
def tyN : D → Option String
  | .non => some "NoneType"
  | .bl _ => some "bool"
  | .int _ => some "int"
  | .str _ => some "str"
  | .lst _ => some "list"
  | .tup _ => some "tuple"
  | .dct _ => some "dict"
  | _ => none
theorem tyN_ty {Tp U : Addr → Prop} {H : Hp} {v : V} : ∀ {d : D} {n : String}, Vw K Tp U H v d → tyN d = some n → TyX K H v (.type n)
  | .non, _, h, q => by cases q; rw [Vw.non h]; exact .base .non
  | .bl b, _, h, q => by cases q; rw [Vw.bl h]; exact .base (.bl b)
  | .int b, _, h, q => by cases q; rw [Vw.int h]; exact .base (.int b)
  | .str b, _, h, q => by cases q; rw [Vw.str h]; exact .base (.str b)
  | .lst ds, _, ⟨a, xs, e1, h1, _⟩, q => by cases q; subst e1; exact .base (.lst h1)
  | .tup ds, _, ⟨a, xs, e1, h1, _⟩, q => by
    cases q; subst e1
    rcases SqT.same Hd.sub h1 with (h | ⟨o, h⟩) | ⟨o, its, n, h, c, _⟩
    · exact .base (.tup h)
    · exact .fTuple h
    · exact .kTuple h c
  | .dct ds, _, ⟨a, xs, e1, h1, _⟩, q => by
    cases q; subst e1
    rcases h1 with h | ⟨o, h⟩
    · exact .base (.dK h)
    · exact .fDict h
/-- isinstance by names of built-in types -/
def isB (a b : String) : Bool := decide (a = b) || (decide (a = "bool") && decide (b = "int"))
def tyOk (n : String) : Bool := decide (n ∈ ["str", "tuple", "list", "int", "bool", "dict"])
theorem isB_kit : ∀ a ∈ ["NoneType", "bool", "int", "str", "list", "tuple", "dict"], ∀ b ∈ ["str", "tuple", "list", "int", "bool", "dict"], kitB a b = some (isB a b) := by decide +kernel
theorem tyN_mem {d : D} {n : String} (h : tyN d = some n) : n ∈ ["NoneType", "bool", "int", "str", "list", "tuple", "dict"] := by
  cases d <;> simp [tyN] at h <;> subst h <;> simp
theorem kit_isB {a b : String} (ha : a ∈ ["NoneType", "bool", "int", "str", "list", "tuple", "dict"]) (hb : tyOk b = true) : PySem.W.kitOne K (.type a) (.type b) = some (isB a b) := kit_ty (isB_kit a ha b (of_decide_eq_true hb))
def isiF (S : PSt) (n : String) (Q : D → Prop) (a : D) : Prop := tyOk n = true ∧ opt (tyN a) fun t => Q (.bl (isB t n))
def isiD (S : PSt) (rs : List Rv) (Q : D → PSt → Prop) : Prop := arg2 rs fun x c => match c with
  | .d (.ty n) => dd1 S x (isiF S n fun d => Q d S)
  | _ => False
instance simIsi : SimC K e (rIsi K) isiD := ⟨fun σ H S T vs rs Qd Q hl x h k => by
  obtain ⟨r1, r2, rfl, h⟩ := arg2_inv h
  obtain ⟨v, w, rfl⟩ := len2 hl
  match r2, h, x with
  | .d (.ty n), h, x =>
    obtain ⟨a, ha, h0, h⟩ := dd1_inv h
    obtain ⟨t, ht, h⟩ := opt_inv h
    obtain ⟨U, x⟩ := x
    have hw : Dv K S.W.Tp (Hd U H) w (.ty n) := x.tmp (.v w (.d (.ty n))) (by simp [tms])
    cases hw
    have vw := x.vw (x.tmp (.v v r1) (by simp [tms])) ha
    exact ⟨v, .ty n, .type t, .type n, _, rfl, .ty n, tyN_ty vw ht, kit_isB (tyN_mem ht) h0, k _ _ _ _ h ⟨U, (x.less fun p hp => by simp [tms, hp]).push (.bl _)⟩⟩⟩
def tysOf : List Rv → Option (List String)
  | [] => some []
  | .d (.ty n) :: rs => (tysOf rs).map (n :: ·)
  | _ => none
/-- isinstance(x, (C, ..)) with a written tuple -/
def tdIsiT (tx : TDE) (ta : TDA) : TDE := fun S Q => tx S fun x S1 => ta S1 fun rs S2 => opt (tysOf rs) fun ns => ns.all tyOk = true ∧ rs.length ≤ 1000 ∧ dd1 S2 x fun a => opt (tyN a) fun t => Q (.d (.bl (ns.any (isB t)))) S2
theorem tysOf_cls {σ : St} {H : Hp} {S : PSt} {T : List Tm} {U : Addr → Prop} : ∀ {rs : List Rv} {vs : List V} {ns : List String}, vs.length = rs.length → RU K e σ H S (tms vs rs ++ T) U → tysOf rs = some ns → vs = ns.map V.ty
  | [], [], _, _, _, h => by cases h; rfl
  | .d (.ty n) :: rs, v :: vs, ns, hl, x, h => by
    rw [tysOf] at h
    obtain ⟨ms, h1, rfl⟩ := Option.map_eq_some_iff.mp h
    have hw : Dv K S.W.Tp (Hd U H) v (.ty n) := x.tmp (.v v (.d (.ty n))) (by simp [tms])
    cases hw
    rw [tysOf_cls (by simpa using hl) (x.less fun p hp => List.mem_cons_of_mem _ hp) h1]; rfl
theorem paired_cls : ∀ ns : List String, Paired ClsV (ns.map V.ty) (ns.map Value.type)
  | [] => .nil
  | n :: ns => .cons (.ty n) (paired_cls ns)
theorem kitAny_ty {t : String} (ht : t ∈ ["NoneType", "bool", "int", "str", "list", "tuple", "dict"]) : ∀ ns : List String, ns.all tyOk = true → PySem.W.kitAny K (.type t) (ns.map Value.type) = some (ns.any (isB t))
  | [], _ => rfl
  | n :: ns, h => by
    rw [List.all_cons, Bool.and_eq_true] at h
    rw [List.map_cons, PySem.W.kitAny, kit_isB ht h.1, List.any_cons]
    cases isB t n with
    | true => rfl
    | false => rw [Bool.false_or]; exact kitAny_ty ht ns h.2
instance simIsiT {tx : TE} {ta : TA} {tx' : TDE} {ta' : TDA} [h1 : SimE K e tx tx'] [h2 : SimA K e ta ta'] : SimE K e (tCB (rIsiT K) (tCons tx (tCons (tTup ta) tNil))) (tdIsiT tx' ta') := ⟨fun σ H S T Qd Q x h k => by
  refine h1.run σ H S T _ _ x h fun r S1 v H1 h1 x1 => ?_
  refine h2.run σ H1 S1 _ _ _ x1 h1 fun rs S2 vs H2 h2 hl x2 => ?_
  obtain ⟨ns, hn, h0, hz, h3⟩ := opt_inv h2
  obtain ⟨a, ha, h⟩ := dd1_inv h3
  obtain ⟨t, ht, h⟩ := opt_inv h
  obtain ⟨U, x2⟩ := x2
  have ev := tysOf_cls hl x2 hn
  refine ⟨Nat.le_trans (by rw [hl]; exact hz) (show 1000 ≤ sizeLine by decide), fun p hp => ?_⟩
  have x3 := x2.alloc (o := .tup vs) hp
  have vw := x3.vw (x3.tmp (.v v r) (by simp)) ha
  refine ⟨v, p, vs, .type t, ns.map Value.type, _, rfl, upd_same, by rw [ev]; exact paired_cls ns, tyN_ty vw ht, kitAny_ty (tyN_mem ht) ns h0, k _ _ _ _ h ⟨U, (x3.less fun p hp => by simp [hp]).push (.bl _)⟩⟩⟩
/-! ### tuple(x), list(x) -/
def tupF (_ : PSt) (Q : D → Prop) : D → Prop
  | .lst ds => Q (.tup ds)
  | .tup ds => Q (.tup ds)
  | _ => False
instance simTupleOf : SimC K e (rTupleOf K) (fun S rs Q => arg1 rs fun x => dd1 S x (tupF S fun d => Q d S)) := simC1 fun σ H S T U v a Qd Q x vw h k => by
  match a, h, vw with
  | .lst ds, h, ⟨p, xs, e1, h1, h2⟩ => subst e1; exact ⟨p, xs, rfl, .inl ⟨SqL.of h1, fun l hl => k _ _ _ h (x.newT hl h2)⟩⟩
  | .tup ds, h, ⟨p, xs, e1, h1, h2⟩ => subst e1; exact ⟨p, xs, rfl, .inr ⟨SqT.same Hd.sub h1, k _ _ _ h ⟨U, x.push (.tup h1 h2)⟩⟩⟩
theorem simCN1 {r : List V → Hp → VK → Prop} {F : PSt → (List D → Prop) → D → Prop}
    (hr : ∀ (σ : St) (H : Hp) (S : PSt) (T : List Tm) (U : Addr → Prop) (v : V) (a : D) (Qd : List D → PSt → Prop) (Q : VK), RU K e σ H S T U → Vw K S.W.Tp U H v a → F S (fun d => Qd d S) a → (∀ ds l H', Qd ds S → RN K e σ H' S T l ds → Q (.ref l) H') → r [v] H Q) :
    SimCN K e r (fun S rs Q => arg1 rs fun x => dd1 S x (F S fun d => Q d S)) := ⟨fun σ H S T vs rs Qd Q hl x h k => by
  obtain ⟨r1, rfl, h⟩ := arg1_inv h
  obtain ⟨v, rfl⟩ := len1 hl
  obtain ⟨a, ha, h⟩ := dd1_inv h
  obtain ⟨U, wT, vx, _⟩ := R.one (T := T) x ha
  exact hr σ H S T U v a Qd Q wT vx h fun d v' H' q x' => k _ _ _ _ q x'⟩
def rListU (K : PySem.W.Frag) : List V → Hp → VK → Prop := fun xs H Q => rListOf K xs H Q ∨ rListD xs H Q
theorem call_listU {X : Cx} (K : PySem.W.Frag) (hc : X.calm = true) (h : X.K = K := by rfl) : CallR X (.type "list") (rListU K) := CallR.or (call_list_ofK K h) (call_list_dK hc)
def keyV : Key → D
  | .inl i => .int i
  | .inr x => .str x
def lstF (_ : PSt) (Q : List D → Prop) : D → Prop
  | .lst ds => Q ds
  | .tup ds => Q ds
  | _ => False
instance simListOf : SimCN K e (rListU K) (fun S rs Q => arg1 rs fun x => dd1 S x (lstF S fun d => Q d S)) := simCN1 fun σ H S T U v a Qd Q x vw h k => by
  match a, h, vw with
  | .lst ds, h, ⟨p, xs, e1, h1, h2⟩ => subst e1; exact .inl ⟨p, xs, rfl, .inl (SqL.of h1), fun l hl => k _ _ _ h (x.newL hl h2)⟩
  | .tup ds, h, ⟨p, xs, e1, h1, h2⟩ => subst e1; exact .inl ⟨p, xs, rfl, .inr (SqT.same Hd.sub h1), fun l hl => k _ _ _ h (x.newL hl h2)⟩
/-! ### all, any, sum, min, max, sorted -/
def bls : List D → Option (List Bool)
  | [] => some []
  | .bl b :: ds => (bls ds).map (b :: ·)
  | _ => none
def nts : List D → Option (List Int)
  | [] => some []
  | .int b :: ds => (nts ds).map (b :: ·)
  | _ => none
theorem bls_some : ∀ {ds : List D} {bs : List Bool}, bls ds = some bs → ds = bs.map D.bl
  | [], _, h => by cases h; rfl
  | .bl b :: ds, _, h => by
    rw [bls] at h
    obtain ⟨ms, h1, rfl⟩ := Option.map_eq_some_iff.mp h
    rw [bls_some h1]; rfl
theorem nts_some : ∀ {ds : List D} {bs : List Int}, nts ds = some bs → ds = bs.map D.int
  | [], _, h => by cases h; rfl
  | .int b :: ds, _, h => by
    rw [nts] at h
    obtain ⟨ms, h1, rfl⟩ := Option.map_eq_some_iff.mp h
    rw [nts_some h1]; rfl
theorem bls_map : ∀ bs : List Bool, bls (bs.map D.bl) = some bs
  | [] => rfl
  | b :: bs => by rw [List.map_cons, bls, bls_map bs]; rfl
theorem bls_mapF {α : Type} (f : α → Bool) : ∀ xs : List α, bls (xs.map fun x => D.bl (f x)) = some (xs.map f)
  | [] => rfl
  | b :: bs => by rw [List.map_cons, bls, bls_mapF f bs]; rfl
theorem nts_map : ∀ bs : List Int, nts (bs.map D.int) = some bs
  | [] => rfl
  | b :: bs => by rw [List.map_cons, nts, nts_map bs]; rfl
theorem nts_mapF {α : Type} (f : α → Int) : ∀ xs : List α, nts (xs.map fun x => D.int (f x)) = some (xs.map f)
  | [] => rfl
  | b :: bs => by rw [List.map_cons, nts, nts_mapF f bs]; rfl
def allF (_ : PSt) (Q : D → Prop) : D → Prop
  | .lst ds => opt (bls ds) fun bs => Q (.bl (bs.all id))
  | _ => False
def anyF (_ : PSt) (Q : D → Prop) : D → Prop
  | .lst ds => opt (bls ds) fun bs => Q (.bl (bs.any id))
  | _ => False
def sumF (_ : PSt) (Q : D → Prop) : D → Prop
  | .lst ds => opt (nts ds) fun bs => Q (.int bs.sum)
  | _ => False
instance simAll : SimC K e (rAll K) (fun S rs Q => arg1 rs fun x => dd1 S x (allF S fun d => Q d S)) := simC1 fun σ H S T U v a Qd Q x vw h k => by
  match a, h, vw with
  | .lst ds, h, ⟨p, xs, e1, h1, h2⟩ =>
    subst e1
    obtain ⟨bs, q, h⟩ := opt_inv h
    rw [bls_some q] at h2
    rw [h2.bls_inv] at h1
    exact ⟨p, bs, rfl, SqL.of h1, k _ _ _ h ⟨U, x.push (.bl _)⟩⟩
instance simAny : SimC K e (rAny K) (fun S rs Q => arg1 rs fun x => dd1 S x (anyF S fun d => Q d S)) := simC1 fun σ H S T U v a Qd Q x vw h k => by
  match a, h, vw with
  | .lst ds, h, ⟨p, xs, e1, h1, h2⟩ =>
    subst e1
    obtain ⟨bs, q, h⟩ := opt_inv h
    rw [bls_some q] at h2
    rw [h2.bls_inv] at h1
    exact ⟨p, bs, rfl, SqL.of h1, k _ _ _ h ⟨U, x.push (.bl _)⟩⟩
instance simSum : SimC K e (rSum K) (fun S rs Q => arg1 rs fun x => dd1 S x (sumF S fun d => Q d S)) := simC1 fun σ H S T U v a Qd Q x vw h k => by
  match a, h, vw with
  | .lst ds, h, ⟨p, xs, e1, h1, h2⟩ =>
    subst e1
    obtain ⟨bs, q, h⟩ := opt_inv h
    rw [nts_some q] at h2
    rw [h2.ints_inv] at h1
    exact ⟨p, bs, rfl, SqL.of h1, k _ _ _ h ⟨U, x.push (.int _)⟩⟩
def srt (ns : List Int) : List Int := ns.mergeSort fun a b => decide (a ≤ b)
theorem srt_perm (ns : List Int) : (srt ns).Perm ns := List.mergeSort_perm ns _
theorem srt_sorted (ns : List Int) : (srt ns).Pairwise (· ≤ ·) := by
  have := List.pairwise_mergeSort (le := fun a b : Int => decide (a ≤ b)) (fun a b c h1 h2 => by simp at *; omega) (fun a b => by simp; omega) ns
  exact this.imp fun h => by simpa using h
theorem sorted_unique : ∀ {xs ys : List Int}, xs.Perm ys → xs.Pairwise (· ≤ ·) → ys.Pairwise (· ≤ ·) → xs = ys
  | [], ys, h, _, _ => (List.Perm.nil_eq h)
  | x :: xs, [], h, _, _ => by have := h.length_eq; simp at this
  | x :: xs, y :: ys, h, hx, hy => by
    have hx' := List.pairwise_cons.mp hx
    have hy' := List.pairwise_cons.mp hy
    have e1 : x = y := by
      have m1 : x ∈ y :: ys := h.mem_iff.mp (by simp)
      have m2 : y ∈ x :: xs := h.mem_iff.mpr (by simp)
      rcases List.mem_cons.mp m1 with z | z
      · exact z
      · rcases List.mem_cons.mp m2 with z2 | z2
        · exact z2.symm
        · have := hy'.1 x z
          have := hx'.1 y z2
          omega
    subst e1
    rw [sorted_unique (List.Perm.cons_inv h) hx'.2 hy'.2]
def sortF (_ : PSt) (Q : List D → Prop) : D → Prop
  | .lst ds => opt (nts ds) fun ns => ns.length < 64 ∧ Q ((srt ns).map D.int)
  | _ => False
instance simSorted : SimCN K e (rSorted K) (fun S rs Q => arg1 rs fun x => dd1 S x (sortF S fun d => Q d S)) := simCN1 fun σ H S T U v a Qd Q x vw h k => by
  match a, h, vw with
  | .lst ds, h, ⟨p, xs, e1, h1, h2⟩ =>
    subst e1
    obtain ⟨ns, q, h0, h⟩ := opt_inv h
    rw [nts_some q] at h2
    rw [h2.ints_inv] at h1
    refine ⟨p, ns, rfl, SqL.of h1, h0, fun ns' l hp hs hl => ?_⟩
    have e2 : ns' = srt ns := sorted_unique (hp.trans (srt_perm ns).symm) hs (srt_sorted ns)
    subst e2
    exact k _ _ _ h (x.newL hl (DvL.ints _))
/-! ### int(x), str(n) -/
def rInt1 : List V → Hp → VK → Prop := fun xs H Q => (∃ i, xs = [.int i] ∧ Q (.int i) H) ∨ ∃ k, xs = [.bl k] ∧ Q (.int (if k then 1 else 0)) H
theorem call_intU {X : Cx} : CallR X (.type "int") rInt1 := call_int1
def intF (_ : PSt) (Q : D → Prop) : D → Prop
  | .int i => Q (.int i)
  | .bl b => Q (.int (if b then 1 else 0))
  | _ => False
instance simInt1 : SimC K e rInt1 (fun S rs Q => arg1 rs fun x => dd1 S x (intF S fun d => Q d S)) := simC1 fun σ H S T U v a Qd Q x vw h k => by
  match a, h, vw with
  | .int i, h, vw => rw [vw.int]; exact .inl ⟨i, rfl, k _ _ _ h ⟨U, x.push (.int _)⟩⟩
  | .bl i, h, vw => rw [vw.bl]; exact .inr ⟨i, rfl, k _ _ _ h ⟨U, x.push (.int _)⟩⟩
def rStr1 : List V → Hp → VK → Prop := fun xs H Q => ∃ i, xs = [.int i] ∧ i.natAbs.log2 < 1920 ∧ Q (.str (toString i)) H
theorem call_strU {X : Cx} : CallR X (.type "str") rStr1 := call_str_int
def strF (_ : PSt) (Q : D → Prop) : D → Prop
  | .int i => i.natAbs.log2 < 1920 ∧ Q (.str (toString i))
  | _ => False
instance simStr1 : SimC K e rStr1 (fun S rs Q => arg1 rs fun x => dd1 S x (strF S fun d => Q d S)) := simC1 fun σ H S T U v a Qd Q x vw h k => by
  match a, h, vw with
  | .int i, h, vw => rw [vw.int]; exact ⟨i, rfl, h.1, k _ _ _ h.2 ⟨U, x.push (.str _)⟩⟩
end
end Kn

set_option Elab.async false
set_option maxRecDepth 100000
set_option linter.all false
set_option autoImplicit false
namespace Kn
open PySem L2
section
variable {K : PySem.W.Frag} {e : Ent}
/-- other slots, the own ones the same -/
theorem RU.slots {σ σ' : St} {H : Hp} {S : PSt} {T : List Tm} {U : Addr → Prop} {ρ' : List (Option PC)} (x : RU K e σ H S T U) (hl : σ'.length = ρ'.length) (h : ∀ (i : Nat) (c : PC), ρ'[i]? = some (some c) → S.ρ[i]? = some (some c) ∧ σ'[i]? = σ[i]?) (hT : NoOwn T) : RU K e σ' H ⟨ρ', S.W⟩ T U where
  wo := x.wo
  fr := x.fr
  ed := x.ed
  len := hl
  slot := fun i c hi => by
    obtain ⟨h1, h2⟩ := h i c hi
    rw [h2]; exact x.slot i c h1
  sep := fun i j c c' l n hi oi hj oj si sj => by
    obtain ⟨h1, h2⟩ := h i c hi
    obtain ⟨h3, h4⟩ := h j c' hj
    rw [h2] at si
    rw [h4] at sj
    exact x.sep i j c c' l n h1 oi h3 oj si sj
  tmp := fun p hp => by
    have := x.tmp p hp
    match p, this, hT p hp with
    | .v w (.d d), h, _ => exact h
    | .v w (.own j), h, n => exact (n w j rfl).elim
    | .pin b o w, h, _ => exact h
    | .nw m ds, ⟨o, ms, h2⟩, _ =>
      refine ⟨o, fun i c hi oc => ?_, h2⟩
      obtain ⟨h1, h3⟩ := h i c hi
      rw [h3]; exact ms i c h1 oc
/-! ### statements in a row -/
def tdNext : TDS := fun E S => E.nx S
def tdSeq (t u : TDS) : TDS := fun E S => t { E with nx := u E } S
instance simNext : SimS K e tNext tdNext := ⟨fun σ H S T Ed E hT x h k => k.nx _ _ _ h x⟩
instance simSeq {t u : TS} {t' u' : TDS} [h1 : SimS K e t t'] [h2 : SimS K e u u'] : SimS K e (tSeq t u) (tdSeq t' u') := ⟨fun σ H S T Ed E hT x h k =>
  h1.run σ H S T { Ed with nx := u' Ed } _ hT x h { k with nx := fun S1 σ1 H1 h1 x1 => h2.run σ1 H1 S1 T Ed E hT x1 h1 k }⟩
/-- the state behind a statement as told (N) -/
instance simCut {t u : TS} {t' u' : TDS} [h1 : SimS K e t t'] [h2 : SimS K e u u'] : SimS K e (C8.tCut t u) (fun E S => ∃ N : PSt → Prop, t' { E with nx := N } S ∧ ∀ S', N S' → u' E S') := ⟨fun σ H S T Ed E hT x h k => by
  obtain ⟨N, h, hN⟩ := h
  refine ⟨fun σ1 H1 => ∃ S1, N S1 ∧ R K e σ1 H1 S1 T, h1.run σ H S T { Ed with nx := N } _ hT x h { k with nx := fun S1 σ1 H1 h1 x1 => ⟨S1, h1, x1⟩ }, ?_⟩
  rintro σ1 H1 ⟨S1, h1, x1⟩
  exact h2.run σ1 H1 S1 T Ed E hT x1 (hN _ h1) k⟩
def tdBreak : TDS := fun E S => E.bk S
def tdCont : TDS := fun E S => E.ct S
instance simBreak : SimS K e tBreak tdBreak := ⟨fun σ H S T Ed E hT x h k => k.bk _ _ _ h x⟩
instance simCont : SimS K e tCont tdCont := ⟨fun σ H S T Ed E hT x h k => k.ct _ _ _ h x⟩
def tdDrop (te : TDE) : TDS := fun E S => te S fun _ S1 => E.nx S1
instance simDrop {te : TE} {t : TDE} [h1 : SimE K e te t] : SimS K e (tDrop te) (tdDrop t) := ⟨fun σ H S T Ed E hT x h k => h1.run σ H S T _ _ x h fun r S1 v H1 h2 x1 => k.nx _ _ _ h2 x1.pop⟩
def tdRet (te : TDE) : TDS := fun E S => te S fun r S1 => frc r S1 fun d S2 => E.rt d S2.W
instance simRet {te : TE} {t : TDE} [h1 : SimE K e te t] : SimS K e (tRet te) (tdRet t) := ⟨fun σ H S T Ed E hT x h k => h1.run σ H S T _ _ x h fun r S1 v H1 h2 x1 => x1.frc h2 fun d S2 h3 x2 => k.rt _ _ _ _ _ h3 x2⟩
def tdRetN : TDS := fun E S => E.rt .non S.W
/-- return of what is new: the caller's own -/
def tRetO (te : TE) : TS := tRet te
theorem retO_of {X : Cx} {st : Stmt} {te : TE} (h : PS X st (tRet te)) : PS X st (tRetO te) := h
def tdRetO (t : TDN) : TDS := fun E S => t S fun ds S1 => E.rn ds S1.W
instance (priority := low) simRetO {te : TE} {t : TDN} [h1 : SimN K e te t] : SimS K e (tRetO te) (tdRetO t) := ⟨fun σ H S T Ed E hT x h k => h1.run σ H S T _ _ x h fun ds S1 l H1 h2 x1 => k.rn _ _ _ _ _ h2 x1⟩
def tdRetV (i : Nat) : TDS := fun E S => match S.ρ[i]? with
  | some (some (.ownL ds)) => E.rn ds S.W
  | _ => False
instance simRetV {i : Nat} : SimS K e (tRetO (tVar i)) (tdRetV i) := ⟨fun σ H S T Ed E hT ⟨U, x⟩ h k => by
  unfold tdRetV at h
  cases q : S.ρ[i]? with
  | none => rw [q] at h; exact h.elim
  | some c =>
    cases c with
    | none => rw [q] at h; exact h.elim
    | some c =>
      rw [q] at h
      cases c with
      | val d => exact h.elim
      | ownD ds => exact h.elim
      | ownL ds =>
        obtain ⟨l, vs, e1, ow, e2, e3⟩ := x.ownL q
        refine ⟨.ref l, e1, k.rn ds ⟨S.ρ.set i none, S.W⟩ σ l H h ⟨U, vs, ?_, ow, ?_, ?_, e2, e3⟩⟩
        · refine x.slots (by simp [x.len]) (fun j c hj => ?_) hT
          rw [List.getElem?_set] at hj
          by_cases z : i = j
          · rw [if_pos z] at hj
            split at hj
            · cases hj
            · cases hj
          · rw [if_neg z] at hj
            exact ⟨hj, rfl⟩
        · intro j c hj oc sj
          have hj : (S.ρ.set i none)[j]? = some (some c) := hj
          rw [List.getElem?_set] at hj
          by_cases z : i = j
          · rw [if_pos z] at hj
            split at hj
            · cases hj
            · cases hj
          · rw [if_neg z] at hj
            exact x.sep i j _ c l z q trivial hj oc e1 sj
        · intro ds' hm
          exact (x.tmp _ hm).2.1 i _ q trivial e1⟩
instance simRetN : SimS K e tRetN tdRetN := ⟨fun σ H S T Ed E hT ⟨U, x⟩ h k => k.rt _ S σ _ _ h ⟨U, x.push .non⟩⟩
def tdIfS (c : TDT) (t u : TDS) : TDS := fun E S => c S fun b S1 => if b = true then t E S1 else u E S1
instance simIfS {c : TT} {t u : TS} {c' : TDT} {t' u' : TDS} [h0 : SimT K e c c'] [h1 : SimS K e t t'] [h2 : SimS K e u u'] : SimS K e (tIfS c t u) (tdIfS c' t' u') := ⟨fun σ H S T Ed E hT x h k => by
  refine h0.run σ H S T _ _ x h fun b S1 H1 hb x1 => ?_
  cases b
  · exact h2.run σ H1 S1 T Ed E hT x1 hb k
  · exact h1.run σ H1 S1 T Ed E hT x1 hb k⟩
instance simNever : SimS K e tNever (fun _ _ => False) := ⟨fun σ H S T Ed E hT x h k => h⟩
/-! ### targets -/
def gdName (i : Nat) : TDG := fun d S Q => Q (S.set i (.val d))
theorem NoOwn.ne {T : List Tm} (h : NoOwn T) (i : Nat) : ∀ p ∈ T, ∀ w, p ≠ .v w (.own i) := fun p hp w => h p hp w i
instance simName {i : Nat} : SimG K e (gName i) (gdName i) := ⟨fun v d σ H S T Qd Q hT ⟨U, x⟩ h k => k _ _ _ h ⟨U, (x.less fun p hp => List.mem_cons_of_mem _ hp).setVal (x.tmp (.v v (.d d)) (by simp)) (hT.ne i)⟩⟩
def gdNil : TDGs := fun ds S Q => ds = [] ∧ Q S
def gdCons (t : TDG) (u : TDGs) : TDGs := fun ds S Q => match ds with
  | d :: r => t d S fun S1 => u r S1 Q
  | [] => False
instance simGNil : SimGs K e gNil gdNil := ⟨fun vs ds σ H S T Qd Q hT hl x h k => by
  obtain ⟨rfl, h⟩ := h
  match vs, hl with
  | [], _ => exact ⟨rfl, k _ _ _ h x⟩⟩
theorem noOwn_tms {T : List Tm} (h : NoOwn T) : ∀ {vs : List V} {ds : List D}, NoOwn (tms vs (ds.map .d) ++ T)
  | [], _ => by simpa [tms] using h
  | _ :: _, [] => by simpa [tms] using h
  | v :: vs, d :: ds => by
    intro p hp w j z
    rcases List.mem_cons.mp hp with rfl | hp
    · cases z
    · exact noOwn_tms h (vs := vs) (ds := ds) p hp w j z
instance simGCons {t : TG} {u : TGs} {t' : TDG} {u' : TDGs} [h1 : SimG K e t t'] [h2 : SimGs K e u u'] : SimGs K e (gCons t u) (gdCons t' u') := ⟨fun vs ds σ H S T Qd Q hT hl x h k => by
  match vs, ds, hl, x, h with
  | [], [], hl, x, h => exact h.elim
  | v :: vs, d :: ds, hl, x, h =>
    exact ⟨v, vs, rfl, h1.run v d σ H S _ _ _ (noOwn_tms hT) x h fun S1 σ1 H1 h1 x1 => h2.run vs ds σ1 H1 S1 T _ _ hT (by simpa using hl) x1 h1 k⟩⟩
def gdTup (n : Nat) (t : TDGs) : TDG := fun d S Q => match d with
  | .tup ds => ds.length = n ∧ t ds S Q
  | _ => False
theorem RU.tmsPush {σ : St} {H : Hp} {S : PSt} {T : List Tm} {U : Addr → Prop} (x : RU K e σ H S T U) : ∀ {vs : List V} {ds : List D}, DvL K S.W.Tp (Hd U H) vs ds → RU K e σ H S (Kn.tms vs (ds.map .d) ++ T) U
  | _, _, .nil => x
  | _, _, .cons h t => (x.tmsPush t).push h
instance simGTup {n : Nat} {t : TGs} {t' : TDGs} [h1 : SimGs K e t t'] : SimG K e (gTup K n t) (gdTup n t') := ⟨fun v d σ H S T Qd Q hT ⟨U, x⟩ h k => by
  match d, x, h with
  | .tup ds, x, h =>
    have hv : Dv K S.W.Tp (Hd U H) v (.tup ds) := x.tmp (.v v (.d (.tup ds))) (by simp)
    have x0 := x.less (T' := T) fun p hp => List.mem_cons_of_mem _ hp
    obtain ⟨a, xs, e1, hq, ht⟩ : Vw K S.W.Tp U H v (.tup ds) := Dv.vw hv
    exact ⟨a, xs, e1, SqT.same Hd.sub hq, by rw [ht.len]; exact h.1, h1.run xs ds σ H S T _ _ hT ht.len ⟨U, x0.tmsPush ht⟩ h.2 k⟩⟩
/-! ### assignment -/
def tdAsg (te : TDE) (g : TDG) : TDS := fun E S => te S fun r S1 => frc r S1 fun d S2 => g d S2 E.nx
instance simAsg {te : TE} {g : TG} {t : TDE} {g' : TDG} [h1 : SimE K e te t] [h2 : SimG K e g g'] : SimS K e (tAsg te g) (tdAsg t g') := ⟨fun σ H S T Ed E hT x h k =>
  h1.run σ H S T _ _ x h fun r S1 v H1 hr x1 => x1.frc hr fun d S2 h3 x2 => h2.run v d σ H1 S2 T _ _ hT x2 h3 k.nx⟩
/-- x = a new list, to be changed -/
def gOwn (i : Nat) : TG := gName i
def tdAsgN (i : Nat) (t : TDN) : TDS := fun E S => t S fun ds S1 => E.nx (S1.set i (.ownL ds))
instance simAsgN {te : TE} {i : Nat} {t : TDN} [h1 : SimN K e te t] : SimS K e (tAsg te (gOwn i)) (tdAsgN i t) := ⟨fun σ H S T Ed E hT x h k =>
  h1.run σ H S T _ _ x h fun ds S1 l H1 hr x1 => k.nx _ _ _ hr (x1.slot i hT)⟩
def tdAsgK (i : Nat) (t : TDK) : TDS := fun E S => t S fun ds S1 => E.nx (S1.set i (.ownD ds))
instance simAsgK {te : TE} {i : Nat} {t : TDK} [h1 : SimK K e te t] : SimS K e (tAsg te (gOwn i)) (tdAsgK i t) := ⟨fun σ H S T Ed E hT x h k =>
  h1.run σ H S T _ _ x h fun ds S1 l H1 hr x1 => k.nx _ _ _ hr (x1.slot i hT)⟩
theorem setO_of {X : Cx} {st : Stmt} {i : Nat} {te : TE} (h : PS X st (tAsg te (gName i))) : PS X st (tAsg te (gOwn i)) := h
/-! ### x += e -/
def rAugU : TIp := fun x y H Q => ipI (fun i j => i + j) x y H Q ∨ rAddS x y H Q ∨ rExt2 x y H Q
theorem ip_augU {X : Cx} : PIp X .Add rAugU := by
  intro pins s σ H x y v u Q I rx ry h
  rcases h with h | h | h
  · exact ip_add pins s σ H x y v u Q I rx ry h
  · exact iop_add_str pins s σ H x y v u Q I rx ry h
  · exact iop_ext pins s σ H x y v u Q I rx ry h
def augF (i : Nat) (S : PSt) (Q : PSt → Prop) : Option (Option PC) → D → Prop
  | some (some (.val (.int a))), .int b => Q (S.set i (.val (.int (a + b))))
  | some (some (.val (.str a))), .str b => a.length + b.length ≤ 1000000 ∧ Q (S.set i (.val (.str (a ++ b))))
  | some (some (.ownL ds)), .lst es => ds.length + es.length ≤ 1000000 ∧ Q (S.set i (.ownL (ds ++ es)))
  | _, _ => False
def tdAug (i : Nat) (te : TDE) : TDS := fun E S => (∃ c, S.ρ[i]? = some (some c)) ∧ te S fun r S1 => dd1 S1 r (augF i S1 E.nx S1.ρ[i]?)
theorem set_self {α : Type} {l : List α} {i : Nat} {a : α} (h : l[i]? = some a) : l.set i a = l := by
  apply List.ext_getElem?
  intro j
  rw [List.getElem?_set]
  by_cases q : i = j
  · subst q
    have := (List.getElem?_eq_some_iff.mp h).1
    rw [if_pos rfl, if_pos this, h]
  · rw [if_neg q]
instance simAug {i : Nat} {te : TE} {t : TDE} [h1 : SimE K e te t] : SimS K e (tAug i te rAugU) (tdAug i t) := ⟨fun σ H S T Ed E hT x h k => by
  obtain ⟨⟨c0, hc0⟩, h⟩ := h
  obtain ⟨v, hv⟩ : ∃ v, σ[i]? = some (some v) := by
    obtain ⟨U, x⟩ := x
    obtain ⟨v, h1, _⟩ := x.slot i c0 hc0
    exact ⟨v, h1⟩
  refine ⟨v, hv, h1.run σ H S T _ _ x h fun r S1 w H1 hr x1 => ?_⟩
  obtain ⟨b, hb, h⟩ := dd1_inv hr
  obtain ⟨U, wT, vw, w2⟩ := x1.one hb
  match q : S1.ρ[i]?, b, h, vw with
  | some (some (.val (.int a))), .int b, h, vw =>
    obtain ⟨v', e1, e2⟩ := wT.slot i _ q
    rw [hv] at e1; cases e1
    have e2 : Dv K S1.W.Tp (Hd U H1) v (.int a) := e2
    cases e2
    rw [vw.int]
    exact .inl ⟨a, b, rfl, rfl, k.nx _ _ _ h ⟨U, wT.setVal (.int _) (hT.ne i)⟩⟩
  | some (some (.val (.str a))), .str b, h, vw =>
    obtain ⟨v', e1, e2⟩ := wT.slot i _ q
    rw [hv] at e1; cases e1
    have e2 : Dv K S1.W.Tp (Hd U H1) v (.str a) := e2
    cases e2
    rw [vw.str]
    exact .inr (.inl ⟨a, b, rfl, rfl, big_of h.1, k.nx _ _ _ h.2 ⟨U, wT.setVal (.str _) (hT.ne i)⟩⟩)
  | some (some (.ownL ds)), .lst es, h, ⟨p, ys, e1, g1, g2⟩ =>
    subst e1
    obtain ⟨l, vs, e1, ow, e2, e3⟩ := wT.ownL q
    rw [hv] at e1; cases e1
    refine .inr (.inr ⟨l, p, vs, ys, rfl, rfl, e2, g1, big_of (by rw [e3.len, g2.len]; exact h.1), k.nx _ _ _ h.2 ?_⟩)
    rw [set_self hv]
    exact ⟨U, wT.updO (c' := .ownL (ds ++ es)) q trivial trivial hv ow ⟨l, vs ++ ys, rfl, ow, upd_same, DvL.le (Same.lq (Hd.upd ow.u)) (fun _ z => z) (e3.app g2)⟩⟩⟩
/-! ### while -/
def tdWhile (c : TDT) (tb : TDS) : TDS := fun E S => ∃ W : Nat → PSt → Prop, (∃ m, W m S) ∧ ∀ m S, W m S → c S fun b S1 => if b = true then ∃ N : PSt → Prop, (∀ S', N S' → ∃ m', m' < m ∧ W m' S') ∧ tb ⟨N, E.rt, E.nx, N, E.rn⟩ S1 else E.nx S1
instance simWhile {c : TT} {tb : TS} {c' : TDT} {tb' : TDS} [h1 : SimT K e c c'] [h2 : SimS K e tb tb'] : SimS K e (tWhile c tb) (tdWhile c' tb') := ⟨fun σ H S T Ed E hT x h k => by
  obtain ⟨W, ⟨m, w0⟩, h⟩ := h
  refine ⟨fun m σ H => ∃ S, W m S ∧ R K e σ H S T, ⟨m, S, w0, x⟩, ?_⟩
  rintro m σ H ⟨S, w, x⟩
  refine h1.run σ H S T _ _ x (h m S w) fun b S1 H1 hb x1 => ?_
  cases b
  · exact k.nx _ _ _ hb x1
  · obtain ⟨N, hN, hb⟩ := hb
    refine ⟨fun σ H => ∃ S, N S ∧ R K e σ H S T, ?_, ?_⟩
    · rintro σ' H' ⟨S', n, x'⟩
      obtain ⟨m', hm, w'⟩ := hN S' n
      exact ⟨m', hm, S', w', x'⟩
    · exact h2.run σ H1 S1 T _ _ hT x1 hb ⟨fun S' σ' H' n x' => ⟨S', n, x'⟩, k.rt, k.nx, fun S' σ' H' n x' => ⟨S', n, x'⟩, k.rn⟩⟩
/-! ### what is walked -/
abbrev TDI := PSt → (List D → PSt → Prop) → Prop
def ItOk (K : PySem.W.Frag) (e : Ent) (J : It) (ds : List D) (T1 : List Tm) : Prop := ∀ (i : Nat) (σ : St) (H : Hp) (S : PSt) (T : List Tm), R K e σ H S (T1 ++ T) →
  (ds.length ≤ i → J.stop i H) ∧ (i < ds.length → J.go i H ∧ ∀ x H', J.yld i H x H' → ∃ d, ds[i]? = some d ∧ R K e σ H' S (.v x (.d d) :: (T1 ++ T)))
def PlainT (T : List Tm) : Prop := NoOwn T ∧ ∀ l, NoTm T l
class SimI (K : PySem.W.Frag) (e : Ent) (wi : TI) (ti : outParam TDI) : Prop where
  run : ∀ (σ : St) (H : Hp) (S : PSt) (T : List Tm) (Qd : List D → PSt → Prop) (Rr : It → Hp → Prop), R K e σ H S T → ti S Qd → (∀ ds S' J H' T1, Qd ds S' → PlainT T1 → ItOk K e J ds T1 → R K e σ H' S' (T1 ++ T) → Rr J H') → wi σ H Rr
theorem plain1 {v : V} {d : D} : PlainT [.v v (.d d)] := by
  refine ⟨fun p hp w j z => ?_, fun l ds hm => ?_⟩
  · rw [List.mem_singleton.mp hp] at z; cases z
  · have := List.mem_singleton.mp hm; cases this
theorem plain0 : PlainT [] := by
  refine ⟨fun p hp => ?_, fun l ds hm => ?_⟩
  · cases hp
  · cases hm
theorem itOk_list {a : Addr} {ds : List D} : ItOk K e (Itl K a) ds [.v (.ref a) (.d (.lst ds))] := fun i σ H S T ⟨U, x⟩ => by
  have hv : Dv K S.W.Tp (Hd U H) (.ref a) (.lst ds) := x.tmp (.v (.ref a) (.d (.lst ds))) (by simp)
  obtain ⟨a', xs, e1, h, t⟩ : Vw K S.W.Tp U H (.ref a) (.lst ds) := Dv.vw hv
  · cases e1
    refine ⟨fun hi => ⟨xs, SqL.of h, by rw [t.len]; exact hi⟩, fun hi => ?_⟩
    obtain ⟨v, h1, h2⟩ := t.get (List.getElem?_eq_getElem hi)
    refine ⟨⟨xs, v, SqL.of h, h1⟩, ?_⟩
    rintro w H' ⟨rfl, hw⟩
    have := hw xs (SqL.of h)
    rw [h1] at this; cases this
    exact ⟨_, List.getElem?_eq_getElem hi, U, x.push h2⟩
theorem itOk_tup {a : Addr} {ds : List D} : ItOk K e (Itt K a) ds [.v (.ref a) (.d (.tup ds))] := fun i σ H S T ⟨U, x⟩ => by
  have hv : Dv K S.W.Tp (Hd U H) (.ref a) (.tup ds) := x.tmp (.v (.ref a) (.d (.tup ds))) (by simp)
  obtain ⟨a', xs, e1, h, t⟩ : Vw K S.W.Tp U H (.ref a) (.tup ds) := Dv.vw hv
  · cases e1
    have h := SqT.same Hd.sub h
    refine ⟨fun hi => ⟨xs, h, by rw [t.len]; exact hi⟩, fun hi => ?_⟩
    obtain ⟨v, h1, h2⟩ := t.get (List.getElem?_eq_getElem hi)
    refine ⟨⟨xs, v, h, h1⟩, ?_⟩
    rintro w H' ⟨rfl, hw⟩
    have := hw xs h
    rw [h1] at this; cases this
    exact ⟨_, List.getElem?_eq_getElem hi, U, x.push h2⟩
def signs (z : Str) : List D := z.cps.toList.map fun c => D.str ⟨#[c]⟩
theorem itOk_str {z : Str} : ItOk K e (Its z) (signs z) [] := fun i σ H S T x => by
  have hl : (signs z).length = z.cps.size := by simp [signs]
  rw [hl]
  refine ⟨fun hi => hi, fun hi => ⟨hi, ?_⟩⟩
  rintro w H' ⟨rfl, c, hc, rfl⟩
  obtain ⟨U, x⟩ := x
  refine ⟨.str ⟨#[c]⟩, ?_, U, x.push (.str _)⟩
  rw [signs, List.getElem?_map, Array.getElem?_toList, hc]; rfl
def rng (lo : Int) (n : Nat) : List D := (List.range n).map fun (i : Nat) => D.int (lo + (i : Int))
theorem itOk_rng {lo : Int} {n : Nat} : ItOk K e (Itr lo n) (rng lo n) [] := fun i σ H S T x => by
  have hl : (rng lo n).length = n := by simp [rng]
  rw [hl]
  refine ⟨fun hi => hi, fun hi => ⟨hi, ?_⟩⟩
  rintro w H' ⟨rfl, rfl⟩
  obtain ⟨U, x⟩ := x
  refine ⟨.int (lo + i), ?_, U, x.push (.int _)⟩
  rw [rng, List.getElem?_map, List.getElem?_range hi]; rfl
theorem DvK.keys {Tp : Addr → Prop} {H : Hp} : ∀ {vs : List (Key × V)} {ds : List (Key × D)}, DvK K Tp H vs ds → (ds.map fun p => keyV p.1) = vs.map fun p => keyV p.1
  | _, _, .nil => rfl
  | _, _, .cons _ t => by rw [List.map_cons, List.map_cons, DvK.keys t]
theorem plainP {a : Addr} {o : Obj} {w : HO} : PlainT [.pin a o w] := by
  refine ⟨fun p hp w j z => ?_, fun l ds hm => ?_⟩
  · rw [List.mem_singleton.mp hp] at z; cases z
  · have := List.mem_singleton.mp hm; cases this
theorem keyV_dv {Tp : Addr → Prop} {H : Hp} : ∀ k : Key, Dv K Tp H (kV k) (keyV k)
  | .inl i => .int i
  | .inr x => .str x
theorem itOk_keys {a : Addr} {o : Obj} {xs : List (Key × V)} : ItOk K e (Itk a o xs) (xs.map fun p => keyV p.1) [.pin a o (.dK xs)] := fun i σ H S T ⟨U, x⟩ => by
  obtain ⟨nu, h⟩ := x.tmp (.pin a o (.dK xs)) (by simp)
  have hl : (xs.map fun p => keyV p.1).length = xs.length := by simp
  rw [hl]
  refine ⟨fun hi => ⟨h, hi⟩, fun hi => ⟨⟨h, hi⟩, ?_⟩⟩
  rintro w H' ⟨rfl, k, v, hk, rfl⟩
  refine ⟨keyV k, ?_, U, x.push (keyV_dv k)⟩
  rw [List.getElem?_map, hk]; rfl
def iAny (K : PySem.W.Frag) (td : TE) : TI := fun σ H R => td σ H fun x H1 => (∃ a, x = .ref a ∧ (((∃ xs, SqL K H1 a xs) ∧ R (Itl K a) H1) ∨ ((∃ xs, SqT K H1 a xs) ∧ R (Itt K a) H1))) ∨ (∃ z, x = .str z ∧ R (Its z) H1) ∨ ∃ d kvs, x = .ref d ∧ ((∃ o, H1 d = some (.frz o (.dK kvs)) ∧ R (Itk d o kvs) H1) ∨ (H1 d = some (.dK kvs) ∧ ∀ od, R (Itk d od kvs) (upd H1 d (.frz od (.dK kvs)))))
theorem pi_any {X : Cx} {tg l : Expr} {tl : TE} (K : PySem.W.Frag) (hl : PE X l tl) (hK : X.K = K := by rfl) : PI X tg l (iAny K tl) := by
  subst hK
  refine ⟨fun pins s σ H R I hw => ?_⟩
  refine thn (hl.run pins s σ H _ I hw) fun v s1 ⟨x, H1, J, r1, q1⟩ => ?_
  rcases q1 with ⟨a, rfl, ⟨⟨xs, hx⟩, q⟩ | ⟨⟨xs, hx⟩, q⟩⟩ | ⟨z, rfl, q⟩ | ⟨d, kvs, rfl, ⟨o, hd, q⟩ | ⟨hd, q⟩⟩
  · cases r1
    have fp : ∀ b ∈ [s1.heap.objs.size], FpOk X pins H1 b := fun b hb => by
      rw [List.mem_singleton.mp hb]
      exact J.fpOk (Nat.le_refl _) (J.hok.fresh (Nat.le_refl _))
    obtain ⟨its, _, p, _⟩ := J.list hx
    exact wpAny_pyIter_list p.isList ⟨_, _, _, _, H1, rfl, J.kept (t' := s1.toks) fun _ _ e => Heap.get?_push_of_some _ e, turn_list a _, ⟨_, Heap.get?_push_size _ rfl, rfl, rfl⟩, fp, q⟩
  · cases r1
    have fp : ∀ b ∈ [s1.heap.objs.size], FpOk X pins H1 b := fun b hb => by
      rw [List.mem_singleton.mp hb]
      exact J.fpOk (Nat.le_refl _) (J.hok.fresh (Nat.le_refl _))
    obtain ⟨its, _, p, _⟩ := J.tuple hx
    exact wpAny_pyIter_tuple (show s1.heap.IsTuple a its.toArray from p) ⟨_, _, _, _, H1, rfl, J.kept (t' := s1.toks) fun _ _ e => Heap.get?_push_of_some _ e, turn_tuple a _, ⟨_, Heap.get?_push_size _ rfl, rfl, rfl⟩, fp, q⟩
  · obtain ⟨t, rfl⟩ := r1
    cases ha : z.cps.all (· < 128)
    · exact PySem.wpAny_pyIter_wide ha (pi_one (tk := s1.toks) J _ (turn_str _ z t "str_iterator" (.inr rfl)) ⟨_, Heap.get?_push_size _ rfl, rfl, rfl⟩ q)
    · exact PySem.wpAny_pyIter_ascii ha (pi_one (tk := s1.toks) J _ (turn_str _ z t "str_ascii_iterator" (.inl rfl)) ⟨_, Heap.get?_push_size _ rfl, rfl, rfl⟩ q)
  · obtain rfl : v = Value.ref d := r1
    obtain ⟨hs, hgd, hx, es, ep, vs, hdt, hsz, kv, hm⟩ := J.frzK hd
    refine iter_keys hs hgd hx hdt (pi_one (tk := s1.toks) J _ (turn_keys _ hdt) ⟨_, Heap.get?_push_size _ rfl, rfl, ?_⟩ q)
    rw [hsz] <;> rfl
  · obtain rfl : v = Value.ref d := r1
    obtain ⟨od, J⟩ := J.lock hd trivial
    have q := q od
    obtain ⟨hs, hgd, hx, es, ep, vs, hdt, hsz, kv, hm⟩ := J.frzK (upd_same (H := H1))
    refine iter_keys hs hgd hx hdt (pi_one (tk := s1.toks) J _ (turn_keys _ hdt) ⟨_, Heap.get?_push_size _ rfl, rfl, ?_⟩ q)
    rw [hsz] <;> rfl
def walkF (Q : List D → Prop) : D → Prop
  | .lst ds => Q ds
  | .tup ds => Q ds
  | .str z => Q (signs z)
  | .dct ks => Q (ks.map fun p => keyV p.1)
  | _ => False
def tiAny (td : TDE) : TDI := fun S Q => td S fun r S1 => frc r S1 fun d S2 => walkF (fun ds => Q ds S2) d
theorem R.frz {σ : St} {H : Hp} {S : PSt} {T : List Tm} {v : V} {d : D} (x : R K e σ H S (.v v (.d d) :: T)) : ∃ U, RU K e σ H S T U ∧ Dv K S.W.Tp (Hd U H) v d ∧ RU K e σ H S (.v v (.d d) :: T) U := by
  obtain ⟨U, x⟩ := x
  exact ⟨U, x.less fun p hp => List.mem_cons_of_mem _ hp, x.tmp (.v v (.d d)) (by simp), x⟩
theorem Dv.dct_inv {Tp : Addr → Prop} {H : Hp} {v : V} {ks : List (Key × D)} (h : Dv K Tp H v (.dct ks)) : ∃ a xs, v = .ref a ∧ Rd H a (.dK xs) ∧ DvK K Tp H xs ks := by
  cases h with
  | dct h t => exact ⟨_, _, rfl, h, t⟩
instance simIAny {td : TE} {td' : TDE} [h1 : SimE K e td td'] : SimI K e (iAny K td) (tiAny td') := ⟨fun σ H S T Qd Rr x h k => by
  refine h1.run σ H S T _ _ x h fun r S1 v H1 hr x1 => x1.frc hr fun d S2 h3 x2 => ?_
  obtain ⟨U, x3, dv, x4⟩ := x2.frz
  match d, h3, dv, x4 with
  | .lst ds, h3, dv, x4 =>
    obtain ⟨a, xs, rfl, g1, g2⟩ : Vw K S2.W.Tp U H1 v (.lst ds) := Dv.vw dv
    exact .inl ⟨a, rfl, .inl ⟨⟨xs, SqL.of g1⟩, k _ _ _ _ [.v (.ref a) (.d (.lst ds))] h3 plain1 itOk_list ⟨U, x4⟩⟩⟩
  | .tup ds, h3, dv, x4 =>
    obtain ⟨a, xs, rfl, g1, g2⟩ : Vw K S2.W.Tp U H1 v (.tup ds) := Dv.vw dv
    exact .inl ⟨a, rfl, .inr ⟨⟨xs, SqT.same Hd.sub g1⟩, k _ _ _ _ [.v (.ref a) (.d (.tup ds))] h3 plain1 itOk_tup ⟨U, x4⟩⟩⟩
  | .str z, h3, dv, x4 =>
    have ev : v = .str z := by cases dv; rfl
    exact .inr (.inl ⟨z, ev, k _ _ _ _ [] h3 plain0 itOk_str ⟨U, x3⟩⟩)
  | .dct ks, h3, dv, x4 =>
    obtain ⟨a, xs, rfl, h, t⟩ := Dv.dct_inv dv
    have h3 : Qd (ks.map fun p => keyV p.1) S2 := h3
    rw [t.keys] at h3
    rcases h with h | ⟨o, h⟩
    · obtain ⟨h, nu⟩ := Hd.of h
      exact .inr (.inr ⟨a, xs, rfl, .inr ⟨h, fun od => k _ _ _ _ [.pin a od (.dK xs)] h3 plainP itOk_keys ⟨U, x3.lock h nu⟩⟩⟩)
    · obtain ⟨h, nu⟩ := Hd.of h
      exact .inr (.inr ⟨a, xs, rfl, .inl ⟨o, h, k _ _ _ _ [.pin a o (.dK xs)] h3 plainP itOk_keys ⟨U, x3.push ⟨nu, h⟩⟩⟩⟩)⟩
def tiRng1 (ta : TDA) : TDI := fun S Q => ta S fun rs S1 => arg1 rs fun r => asI r fun j => -(2 ^ 62) ≤ j ∧ j < 2 ^ 62 ∧ Q (rng 0 j.toNat) S1
instance simRng1 {ta : TA} {ta' : TDA} [h1 : SimA K e ta ta'] : SimI K e (iRng1 ta) (tiRng1 ta') := ⟨fun σ H S T Qd Rr x h k => by
  refine h1.run σ H S T _ _ x h fun rs S1 vs H1 hr hl x1 => ?_
  obtain ⟨r, rfl, hr⟩ := arg1_inv hr
  obtain ⟨v, rfl⟩ := len1 hl
  match r, hr, x1 with
  | .d (.int j), hr, x1 =>
    obtain ⟨U, x3, dv, x4⟩ := R.frz (T := T) x1
    cases dv
    exact ⟨j, rfl, hr.1, hr.2.1, k _ _ _ _ [] hr.2.2 plain0 itOk_rng ⟨U, x3⟩⟩⟩
def tiRng2 (ta : TDA) : TDI := fun S Q => ta S fun rs S1 => arg2 rs fun r q => asI r fun i => asI q fun j => (-(2 ^ 62) ≤ i ∧ i < 2 ^ 62 ∧ -(2 ^ 62) ≤ j ∧ j < 2 ^ 62) ∧ Q (rng i (j - i).toNat) S1
instance simRng2 {ta : TA} {ta' : TDA} [h1 : SimA K e ta ta'] : SimI K e (iRng2 ta) (tiRng2 ta') := ⟨fun σ H S T Qd Rr x h k => by
  refine h1.run σ H S T _ _ x h fun rs S1 vs H1 hr hl x1 => ?_
  obtain ⟨r, q, rfl, hr⟩ := arg2_inv hr
  obtain ⟨v, w, rfl⟩ := len2 hl
  match r, q, hr, x1 with
  | .d (.int i), .d (.int j), hr, ⟨U, x1⟩ =>
    have d1 : Dv K S1.W.Tp (Hd U H1) v (.int i) := x1.tmp (.v v (.d (.int i))) (by simp [tms])
    have d2 : Dv K S1.W.Tp (Hd U H1) w (.int j) := x1.tmp (.v w (.d (.int j))) (by simp [tms])
    cases d1
    cases d2
    exact ⟨i, j, rfl, hr.1, k _ _ _ _ [] hr.2 plain0 itOk_rng ⟨U, x1.less fun p hp => by simp at hp; simp [tms, hp]⟩⟩⟩
/-! ### for -/
def forD (g : TDG) (tb : TDS) (E : DEnds) : List D → PSt → Prop
  | [], S => E.nx S
  | d :: ds, S => ∃ N : PSt → Prop, (∀ S', N S' → forD g tb E ds S') ∧ g d S fun S2 => tb ⟨N, E.rt, E.nx, N, E.rn⟩ S2
def tdFor (wi : TDI) (g : TDG) (tb : TDS) : TDS := fun E S => wi S fun ds S1 => forD g tb E ds S1
theorem NoOwn.app {T T1 : List Tm} (h1 : NoOwn T1) (h : NoOwn T) : NoOwn (T1 ++ T) := fun p hp => by
  rcases List.mem_append.mp hp with hp | hp
  · exact h1 p hp
  · exact h p hp
theorem Lnk.more {T T1 : List Tm} {Ed : DEnds} {E : Ends} (k : Lnk K e T Ed E) : Lnk K e (T1 ++ T) Ed E where
  nx := fun S σ H h x => k.nx S σ H h x.tail
  rt := fun d S σ v H h x => k.rt d S σ v H h (x.less fun p hp => by
    rcases List.mem_cons.mp hp with rfl | hp
    · exact List.mem_cons_self
    · exact List.mem_cons_of_mem _ (List.mem_append_right _ hp))
  bk := fun S σ H h x => k.bk S σ H h x.tail
  ct := fun S σ H h x => k.ct S σ H h x.tail
  rn := fun ds S σ l H h x => k.rn ds S σ l H h x.tail
instance simFor {wi : TI} {g : TG} {tb : TS} {wi' : TDI} {g' : TDG} {tb' : TDS} [h1 : SimI K e wi wi'] [h2 : SimG K e g g'] [h3 : SimS K e tb tb'] : SimS K e (tFor wi g tb) (tdFor wi' g' tb') := ⟨fun σ H S T Ed E hT x h k => by
  refine h1.run σ H S T _ _ x h fun ds S1 J H1 T1 hd pT it x1 => ?_
  refine ⟨fun i m σ H => m = ds.length - i ∧ i ≤ ds.length ∧ ∃ S, forD g' tb' Ed (ds.drop i) S ∧ R K e σ H S (T1 ++ T), ⟨_, rfl, Nat.zero_le _, S1, hd, x1⟩, ?_⟩
  rintro i m σ H ⟨rfl, hi, S, hf, x⟩
  obtain ⟨i1, i2⟩ := it i σ H S T x
  by_cases c : i < ds.length
  · obtain ⟨g1, g2⟩ := i2 c
    rw [List.drop_eq_getElem_cons c] at hf
    obtain ⟨N, hN, hf⟩ := hf
    refine .inr ⟨g1, fun σ' H' => ∃ S', N S' ∧ R K e σ' H' S' (T1 ++ T), ?_, fun v H' hy => ?_⟩
    · rintro σ' H' ⟨S', n, x'⟩
      exact ⟨ds.length - (i + 1), by omega, rfl, by omega, S', hN S' n, x'⟩
    · obtain ⟨d, hd', x'⟩ := g2 v H' hy
      have : d = ds[i] := by rw [List.getElem?_eq_getElem c] at hd'; exact (Option.some.inj hd').symm
      subst this
      refine h2.run v _ σ H' S (T1 ++ T) _ _ (pT.1.app hT) x' hf fun S2 σ2 H2 hb x2 => ?_
      have kk := k.more (T1 := T1)
      exact h3.run σ2 H2 S2 (T1 ++ T) _ _ (pT.1.app hT) x2 hb ⟨fun S' σ' H' n x' => ⟨S', n, x'⟩, kk.rt, kk.nx, fun S' σ' H' n x' => ⟨S', n, x'⟩, kk.rn⟩
  · refine .inl ⟨i1 (by omega), ?_⟩
    rw [List.drop_of_length_le (by omega)] at hf
    exact k.nx _ _ _ hf x.tail⟩
/-! ### statements of a def's own level: nothing else is held -/
class SimZ (K : PySem.W.Frag) (e : Ent) (ts : TS) (t : outParam TDS) : Prop where
  run : ∀ (σ : St) (H : Hp) (S : PSt) (Ed : DEnds) (E : Ends), R K e σ H S [] → t Ed S → Lnk K e [] Ed E → ts E σ H
theorem noOwn0 : NoOwn [] := fun p hp => by cases hp
instance (priority := low) simZ_of {ts : TS} {t : TDS} [h : SimS K e ts t] : SimZ K e ts t := ⟨fun σ H S Ed E x q k => h.run σ H S [] Ed E noOwn0 x q k⟩
instance simZSeq {t u : TS} {t' u' : TDS} [h1 : SimZ K e t t'] [h2 : SimZ K e u u'] : SimZ K e (tSeq t u) (tdSeq t' u') := ⟨fun σ H S Ed E x h k =>
  h1.run σ H S { Ed with nx := u' Ed } _ x h { k with nx := fun S1 σ1 H1 h1 x1 => h2.run σ1 H1 S1 Ed E x1 h1 k }⟩
instance simZCut {t u : TS} {t' u' : TDS} [h1 : SimZ K e t t'] [h2 : SimZ K e u u'] : SimZ K e (C8.tCut t u) (fun E S => ∃ N : PSt → Prop, t' { E with nx := N } S ∧ ∀ S', N S' → u' E S') := ⟨fun σ H S Ed E x h k => by
  obtain ⟨N, h, hN⟩ := h
  refine ⟨fun σ1 H1 => ∃ S1, N S1 ∧ R K e σ1 H1 S1 [], h1.run σ H S { Ed with nx := N } _ x h { k with nx := fun S1 σ1 H1 h1 x1 => ⟨S1, h1, x1⟩ }, ?_⟩
  rintro σ1 H1 ⟨S1, h1, x1⟩
  exact h2.run σ1 H1 S1 Ed E x1 (hN _ h1) k⟩
instance simZIf {c : TT} {t u : TS} {c' : TDT} {t' u' : TDS} [h0 : SimT K e c c'] [h1 : SimZ K e t t'] [h2 : SimZ K e u u'] : SimZ K e (tIfS c t u) (tdIfS c' t' u') := ⟨fun σ H S Ed E x h k => by
  refine h0.run σ H S [] _ _ x h fun b S1 H1 hb x1 => ?_
  cases b
  · exact h2.run σ H1 S1 Ed E x1 hb k
  · exact h1.run σ H1 S1 Ed E x1 hb k⟩
instance simZWhile {c : TT} {tb : TS} {c' : TDT} {tb' : TDS} [h1 : SimT K e c c'] [h2 : SimZ K e tb tb'] : SimZ K e (tWhile c tb) (tdWhile c' tb') := ⟨fun σ H S Ed E x h k => by
  obtain ⟨W, ⟨m, w0⟩, h⟩ := h
  refine ⟨fun m σ H => ∃ S, W m S ∧ R K e σ H S [], ⟨m, S, w0, x⟩, ?_⟩
  rintro m σ H ⟨S, w, x⟩
  refine h1.run σ H S [] _ _ x (h m S w) fun b S1 H1 hb x1 => ?_
  cases b
  · exact k.nx _ _ _ hb x1
  · obtain ⟨N, hN, hb⟩ := hb
    refine ⟨fun σ H => ∃ S, N S ∧ R K e σ H S [], ?_, ?_⟩
    · rintro σ' H' ⟨S', n, x'⟩
      obtain ⟨m', hm, w'⟩ := hN S' n
      exact ⟨m', hm, S', w', x'⟩
    · exact h2.run σ H1 S1 _ _ x1 hb ⟨fun S' σ' H' n x' => ⟨S', n, x'⟩, k.rt, k.nx, fun S' σ' H' n x' => ⟨S', n, x'⟩, k.rn⟩⟩
/-- a walk that holds nothing -/
class SimI0 (K : PySem.W.Frag) (e : Ent) (wi : TI) (ti : outParam TDI) : Prop where
  run : ∀ (σ : St) (H : Hp) (S : PSt) (Qd : List D → PSt → Prop) (Rr : It → Hp → Prop), R K e σ H S [] → ti S Qd → (∀ ds S' J H', Qd ds S' → ItOk K e J ds [] → R K e σ H' S' [] → Rr J H') → wi σ H Rr
instance simRng10 {ta : TA} {ta' : TDA} [h1 : SimA K e ta ta'] : SimI0 K e (iRng1 ta) (tiRng1 ta') := ⟨fun σ H S Qd Rr x h k => by
  refine h1.run σ H S [] _ _ x h fun rs S1 vs H1 hr hl x1 => ?_
  obtain ⟨r, rfl, hr⟩ := arg1_inv hr
  obtain ⟨v, rfl⟩ := len1 hl
  match r, hr, x1 with
  | .d (.int j), hr, x1 =>
    obtain ⟨U, x3, dv, x4⟩ := R.frz (T := []) x1
    cases dv
    exact ⟨j, rfl, hr.1, hr.2.1, k _ _ _ _ hr.2.2 itOk_rng ⟨U, x3⟩⟩⟩
instance simZFor {wi : TI} {g : TG} {tb : TS} {wi' : TDI} {g' : TDG} {tb' : TDS} [h1 : SimI0 K e wi wi'] [h2 : SimG K e g g'] [h3 : SimZ K e tb tb'] : SimZ K e (tFor wi g tb) (tdFor wi' g' tb') := ⟨fun σ H S Ed E x h k => by
  refine h1.run σ H S _ _ x h fun ds S1 J H1 hd it x1 => ?_
  refine ⟨fun i m σ H => m = ds.length - i ∧ i ≤ ds.length ∧ ∃ S, forD g' tb' Ed (ds.drop i) S ∧ R K e σ H S [], ⟨_, rfl, Nat.zero_le _, S1, hd, x1⟩, ?_⟩
  rintro i m σ H ⟨rfl, hi, S, hf, x⟩
  obtain ⟨i1, i2⟩ := it i σ H S [] x
  by_cases c : i < ds.length
  · obtain ⟨g1, g2⟩ := i2 c
    rw [List.drop_eq_getElem_cons c] at hf
    obtain ⟨N, hN, hf⟩ := hf
    refine .inr ⟨g1, fun σ' H' => ∃ S', N S' ∧ R K e σ' H' S' [], ?_, fun v H' hy => ?_⟩
    · rintro σ' H' ⟨S', n, x'⟩
      exact ⟨ds.length - (i + 1), by omega, rfl, by omega, S', hN S' n, x'⟩
    · obtain ⟨d, hd', x'⟩ := g2 v H' hy
      have : d = ds[i] := by rw [List.getElem?_eq_getElem c] at hd'; exact (Option.some.inj hd').symm
      subst this
      refine h2.run v _ σ H' S [] _ _ noOwn0 x' hf fun S2 σ2 H2 hb x2 => ?_
      exact h3.run σ2 H2 S2 _ _ x2 hb ⟨fun S' σ' H' n x' => ⟨S', n, x'⟩, k.rt, k.nx, fun S' σ' H' n x' => ⟨S', n, x'⟩, k.rn⟩
  · refine .inl ⟨i1 (by omega), ?_⟩
    rw [List.drop_of_length_le (by omega)] at hf
    exact k.nx _ _ _ hf x⟩
end
end Kn

set_option Elab.async false
set_option maxRecDepth 100000
set_option linter.all false
set_option autoImplicit false
namespace Kn
open PySem L2
/-! ### comprehensions -/
theorem wipe_get (σ : St) (j : Nat) : ∀ vs : List Nat, (wipe σ vs)[j]? = if j ∈ vs ∧ j < σ.length then some none else σ[j]?
  | [] => by simp [wipe]
  | v :: vs => by
    unfold wipe
    rw [List.getElem?_set, wipe_length, wipe_get σ j vs]
    by_cases q : v = j
    · subst q
      rw [if_pos rfl]
      by_cases c : v < σ.length
      · simp [c]
      · simp [c]
    · rw [if_neg q]
      simp [List.mem_cons, show ¬ j = v from fun z => q z.symm]
theorem wipe_wipe (σ : St) (vs : List Nat) : wipe (wipe σ vs) vs = wipe σ vs := by
  apply List.ext_getElem?
  intro j
  rw [wipe_get (wipe σ vs), wipe_length, wipe_get σ j vs]
  split <;> rfl
theorem wipe_set {σ : St} {vs : List Nat} {i : Nat} {v : Option V} (h : i ∈ vs) : wipe (σ.set i v) vs = wipe σ vs := by
  apply List.ext_getElem?
  intro j
  rw [wipe_get, wipe_get, List.length_set, List.getElem?_set]
  by_cases q : i = j
  · subst q
    by_cases c : i < σ.length
    · rw [if_pos ⟨h, c⟩, if_pos ⟨h, c⟩]
    · simp [c]
  · rw [if_neg q]
class InL (i : Nat) (vs : List Nat) : Prop where
  mem : i ∈ vs
instance inHead {i : Nat} {vs : List Nat} : InL i (i :: vs) := ⟨List.mem_cons_self⟩
instance inTail {i j : Nat} {vs : List Nat} [h : InL i vs] : InL i (j :: vs) := ⟨List.mem_cons_of_mem _ h.mem⟩
instance inMapH {i : Nat} {s : Str} {l : List (Str × Nat)} : InL i (List.map (fun x : Str × Nat => x.2) ((s, i) :: l)) := ⟨by simp⟩
instance inMapT {i : Nat} {p : Str × Nat} {l : List (Str × Nat)} [h : InL i (List.map (fun x : Str × Nat => x.2) l)] : InL i (List.map (fun x : Str × Nat => x.2) (p :: l)) := ⟨List.mem_cons_of_mem _ h.mem⟩
/-- the target stores to these slots alone -/
class GW (g : TG) (vs : List Nat) : Prop where
  w : ∀ (x : V) (σ : St) (H : Hp) (Q : St → Hp → Prop), (g x σ H fun σ2 H2 => wipe σ2 vs = wipe σ vs → Q σ2 H2) → g x σ H fun σ2 H2 => wipe σ2 vs = wipe σ vs ∧ Q σ2 H2
class GWs (g : TGs) (vs : List Nat) : Prop where
  w : ∀ (x : List V) (σ : St) (H : Hp) (Q : St → Hp → Prop), (g x σ H fun σ2 H2 => wipe σ2 vs = wipe σ vs → Q σ2 H2) → g x σ H fun σ2 H2 => wipe σ2 vs = wipe σ vs ∧ Q σ2 H2
instance gwName {i : Nat} {vs : List Nat} [h : InL i vs] : GW (gName i) vs := ⟨fun x σ H Q q => ⟨wipe_set h.mem, q (wipe_set h.mem)⟩⟩
instance gwNil {vs : List Nat} : GWs gNil vs := ⟨fun x σ H Q q => ⟨q.1, rfl, q.2 rfl⟩⟩
instance gwCons {i : Nat} {u : TGs} {vs : List Nat} [h : InL i vs] [h2 : GWs u vs] : GWs (gCons (gName i) u) vs := ⟨fun x σ H Q ⟨v, r, e, q⟩ => ⟨v, r, e, by
    have e1 : wipe (σ.set i (some v)) vs = wipe σ vs := wipe_set h.mem
    show u r (σ.set i (some v)) H fun σ2 H2 => wipe σ2 vs = wipe σ vs ∧ Q σ2 H2
    rw [← e1]
    refine h2.w r _ H Q ?_
    rw [e1]
    exact q⟩⟩
instance gwTup {K : PySem.W.Frag} {n : Nat} {t : TGs} {vs : List Nat} [h : GWs t vs] : GW (gTup K n t) vs := ⟨fun x σ H Q ⟨a, xs, e1, e2, e3, q⟩ => ⟨a, xs, e1, e2, e3, h.w _ _ _ _ q⟩⟩
def wipeR (ρ : List (Option PC)) : List Nat → List (Option PC)
  | [] => ρ
  | v :: vs => (wipeR ρ vs).set v none
theorem wipeR_length (ρ : List (Option PC)) : ∀ vs : List Nat, (wipeR ρ vs).length = ρ.length
  | [] => rfl
  | v :: vs => by unfold wipeR; rw [List.length_set, wipeR_length ρ vs]
theorem wipeR_some {ρ : List (Option PC)} {i : Nat} {x : PC} : ∀ {vs : List Nat}, (wipeR ρ vs)[i]? = some (some x) → ρ[i]? = some (some x) ∧ i ∉ vs
  | [], h => ⟨h, by simp⟩
  | v :: vs, h => by
    unfold wipeR at h
    by_cases hi : v = i
    · subst hi
      by_cases hv : v < (wipeR ρ vs).length
      · rw [List.getElem?_set_self hv] at h; cases h
      · rw [List.getElem?_eq_none (by simpa using hv)] at h; cases h
    · rw [List.getElem?_set_ne hi] at h
      obtain ⟨h1, h2⟩ := wipeR_some h
      exact ⟨h1, by simp only [List.mem_cons, not_or]; exact ⟨fun e => hi e.symm, h2⟩⟩
def PSt.wipe (S : PSt) (vs : List Nat) : PSt := ⟨wipeR S.ρ vs, S.W⟩
section
variable {K : PySem.W.Frag} {e : Ent}
theorem RU.wipe {σ : St} {H : Hp} {S : PSt} {T : List Tm} {U : Addr → Prop} (x : RU K e σ H S T U) (vs : List Nat) (hT : NoOwn T) : RU K e (L2.wipe σ vs) H (S.wipe vs) T U := x.slots (by rw [wipe_length, wipeR_length]; exact x.len) (fun i c hi => by
  obtain ⟨h1, h2⟩ := wipeR_some hi
  exact ⟨h1, by rw [wipe_get, if_neg (fun z => h2 z.1)]⟩) hT
theorem RU.unwipe {σ : St} {H : Hp} {S : PSt} {T : List Tm} {U : Addr → Prop} {vs : List Nat} (x : RU K e (L2.wipe σ vs) H (S.wipe vs) T U) (hT : NoOwn T) : RU K e σ H (S.wipe vs) T U := x.slots (by have := x.len; rw [wipe_length] at this; exact this) (fun i c hi => by
  obtain ⟨h1, h2⟩ := wipeR_some (ρ := S.ρ) hi
  exact ⟨hi, by rw [wipe_get, if_neg (fun z => h2 z.1)]⟩) hT
theorem wipeR_wipeR (ρ : List (Option PC)) (vs : List Nat) : ∀ (i : Nat) (c : PC), (wipeR ρ vs)[i]? = some (some c) → i ∉ vs := fun i c h => (wipeR_some h).2
/-- the own temporaries put aside -/
def notOwn : Tm → Bool
  | .v _ (.own _) => false
  | _ => true
theorem noOwn_filter (T : List Tm) : NoOwn (T.filter notOwn) := fun p hp w j z => by
  rw [List.mem_filter] at hp
  rw [z] at hp
  exact absurd hp.2 Bool.false_ne_true
theorem RU.back {σ : St} {H H0 : Hp} {S S0 : PSt} {T T1 : List Tm} {U U0 : Addr → Prop} (x0 : RU K e σ H0 S0 T U0) (x : RU K e σ H S (T1 ++ T.filter notOwn) U) : RU K e σ H S (T1 ++ T) U := { x with
  tmp := fun p hp => by
    rcases List.mem_append.mp hp with hp | hp
    · exact x.tmp p (List.mem_append_left _ hp)
    · by_cases c : notOwn p = true
      · exact x.tmp p (List.mem_append_right _ (List.mem_filter.mpr ⟨hp, c⟩))
      · match p, c, x0.tmp p hp with
        | .v w (.own j), _, h => exact h
        | .v w (.d d), c, _ => exact (c rfl).elim
        | .pin b o w, c, _ => exact (c rfl).elim
        | .nw m ds, c, _ => exact (c rfl).elim }
def compD (g : TDG) (tt : TDT) (te : TDE) (vs : List Nat) (Q : List D → PSt → Prop) : List D → List D → PSt → Prop
  | [], acc, S => Q acc S
  | d :: ds, acc, S => ∃ N : List D → PSt → Prop, (∀ a S', N a S' → compD g tt te vs Q ds a S') ∧
    g d S fun S2 => tt S2 fun b S3 => if b = true then te S3 fun r S4 => frc r S4 fun y S5 => acc.length ≤ 999999 ∧ N (acc ++ [y]) (S5.wipe vs) else N acc (S3.wipe vs)
def tnLc (wi : TDI) (g : TDG) (tt : TDT) (te : TDE) (vs : List Nat) : TDN := fun S Q => wi S fun ds S1 => compD g tt te vs Q ds [] (S1.wipe vs)
theorem wipe_state (S : PSt) (vs : List Nat) : ∀ (i : Nat) (c : PC), ((S.wipe vs).wipe vs).ρ[i]? = some (some c) → (S.wipe vs).ρ[i]? = some (some c) := fun i c h => (wipeR_some (ρ := (S.wipe vs).ρ) h).1
instance simLc {wi : TI} {g : TG} {tt : TT} {te : TE} {vs : List Nat} {wi' : TDI} {g' : TDG} {tt' : TDT} {te' : TDE} [h1 : SimI K e wi wi'] [h2 : SimG K e g g'] [hw : GW g vs] [h3 : SimT K e tt tt'] [h4 : SimE K e te te'] : SimN K e (tLc wi g tt te vs) (tnLc wi' g' tt' te' vs) := ⟨fun σ H S T Qd Q x0 h k => by
  obtain ⟨U0, x0⟩ := x0
  have xf : R K e σ H S (T.filter notOwn) := ⟨U0, x0.less fun p hp => (List.mem_filter.mp hp).1⟩
  have hT := noOwn_filter T
  refine h1.run σ H S (T.filter notOwn) _ _ xf h fun ds S1 J H1 T1 hd pT it x1 => ?_
  intro l hl
  have hTT : NoOwn (T1 ++ T.filter notOwn) := pT.1.app hT
  obtain ⟨U1, x1⟩ := x1
  -- the invariant: the list l of nobody, the slots wiped
  have nt : NoTm (T1 ++ T.filter notOwn) l := by
    obtain ⟨_, _, _, f⟩ := x1.moreU (o := .lst []) hl
    exact f
  refine ⟨fun i m H => m = ds.length - i ∧ i ≤ ds.length ∧ ∃ S acc, compD g' tt' te' vs Qd (ds.drop i) acc S ∧ (∃ S0 : PSt, S = S0.wipe vs) ∧ RN K e (wipe σ vs) H S (T1 ++ T.filter notOwn) l acc, ⟨_, rfl, Nat.zero_le _, S1.wipe vs, [], hd, ⟨S1, rfl⟩, ?_⟩, ?_⟩
  · exact (x1.wipe vs hTT).newL hl .nil
  rintro i m H ⟨rfl, hi, S, acc, hf, ⟨S0, hS0⟩, x⟩
  obtain ⟨U, xs, xu, ow, ns, _, hlm, hxs⟩ := x.ex
  have xr : R K e (wipe σ vs) H S (T1 ++ (.nw l acc :: T.filter notOwn)) := ⟨U, (xu.push (p := .nw l acc) ⟨ow, ns, xs, hlm, hxs⟩).less fun p hp => by
    rcases List.mem_append.mp hp with hp | hp
    · exact List.mem_cons_of_mem _ (List.mem_append_left _ hp)
    · rcases List.mem_cons.mp hp with rfl | hp
      · exact List.mem_cons_self
      · exact List.mem_cons_of_mem _ (List.mem_append_right _ hp)⟩
  have hTn : NoOwn (T1 ++ (.nw l acc :: T.filter notOwn)) := pT.1.app fun p hp w j z => by
    rcases List.mem_cons.mp hp with rfl | hp
    · cases z
    · exact hT p hp w j z
  obtain ⟨i1, i2⟩ := it i _ H S _ xr
  -- from a state behind a turn to the invariant
  have back : ∀ {σ2 : St} {H2 : Hp} {S2 : PSt}, wipe σ2 vs = wipe σ vs → R K e σ2 H2 S2 (T1 ++ (.nw l acc :: T.filter notOwn)) → RN K e (wipe σ vs) H2 (S2.wipe vs) (T1 ++ T.filter notOwn) l acc := by
    intro σ2 H2 S2 e2 x2
    obtain ⟨U2, x2⟩ := x2
    have x3 := x2.wipe vs hTn
    rw [e2] at x3
    obtain ⟨o3, n3, v3, h3, d3⟩ := x3.tmp (.nw l acc) (by simp)
    exact ⟨U2, v3, x3.less fun p hp => by
      rcases List.mem_append.mp hp with hp | hp
      · exact List.mem_append_left _ hp
      · exact List.mem_append_right _ (List.mem_cons_of_mem _ hp), o3, n3, nt, h3, d3⟩
  by_cases c : i < ds.length
  · obtain ⟨g1, g2⟩ := i2 c
    rw [List.drop_eq_getElem_cons c] at hf
    obtain ⟨N, hN, hf⟩ := hf
    refine .inr ⟨g1, fun H' => ∃ S' acc', N acc' S' ∧ (∃ S0 : PSt, S' = S0.wipe vs) ∧ RN K e (wipe σ vs) H' S' (T1 ++ T.filter notOwn) l acc', ?_, fun v H' hy => ?_⟩
    · rintro H' ⟨S', acc', n, hS', x'⟩
      exact ⟨ds.length - (i + 1), by omega, rfl, by omega, S', acc', hN _ _ n, hS', x'⟩
    · obtain ⟨d, hd', x'⟩ := g2 v H' hy
      have : d = ds[i] := by rw [List.getElem?_eq_getElem c] at hd'; exact (Option.some.inj hd').symm
      subst this
      have ww := hw.w v (wipe σ vs) H'
      rw [wipe_wipe] at ww
      refine ww _ (h2.run v _ (wipe σ vs) H' S (T1 ++ (.nw l acc :: T.filter notOwn)) _ _ hTn x' hf fun S2 σ2 H2 hb x2 e2 => ?_)
      refine h3.run σ2 H2 S2 _ _ _ x2 hb fun b S3 H3 hb x3 => ?_
      cases b
      · exact ⟨_, _, hb, ⟨_, rfl⟩, back e2 x3⟩
      · refine h4.run σ2 H3 S3 _ _ _ x3 hb fun r S4 y H4 hr x4 => x4.frc hr fun dy S5 h5 x5 => ?_
        have x6 : R K e σ2 H4 S5 (T1 ++ (.nw l acc :: T.filter notOwn)) := x5.pop
        obtain ⟨U6, v6, xu6, o6, n6, t6, hl6, d6⟩ := (back e2 x6).ex
        obtain ⟨U5, x5⟩ := x5
        have x7 := x5.wipe vs (fun p hp w j z => by
          rcases List.mem_cons.mp hp with rfl | hp
          · cases z
          · exact hTn p hp w j z)
        rw [e2] at x7
        obtain ⟨o3, n3, v3, h3, d3⟩ := x7.tmp (.nw l acc) (by simp)
        have rn : RN K e (wipe σ vs) H4 (S5.wipe vs) (.v y (.d dy) :: (T1 ++ T.filter notOwn)) l acc := ⟨U5, v3, x7.less fun p hp => by
          rcases List.mem_cons.mp hp with rfl | hp
          · exact List.mem_cons_self
          · rcases List.mem_append.mp hp with hp | hp
            · exact List.mem_cons_of_mem _ (List.mem_append_left _ hp)
            · exact List.mem_cons_of_mem _ (List.mem_append_right _ (List.mem_cons_of_mem _ hp)), o3, n3, fun ds hm => by
          rcases List.mem_cons.mp hm with z | z
          · cases z
          · exact nt ds z, h3, d3⟩
        obtain ⟨vs', e1, e3, rn'⟩ := rn.app
        exact ⟨vs', e1, Nat.lt_of_le_of_lt (by rw [e3]; exact h5.1) (by decide), _, _, h5.2, ⟨_, rfl⟩, rn'⟩
  · refine .inl ⟨i1 (by omega), ?_⟩
    rw [List.drop_of_length_le (by omega)] at hf
    subst hS0
    refine k _ _ _ _ hf ⟨U, xs, ?_⟩
    have x5 := xu.unwipe hTT
    have x6 : RU K e σ H (S0.wipe vs) ([] ++ T.filter notOwn) U := x5.less fun p hp => List.mem_append_right _ hp
    have x7 := x0.back x6
    refine ⟨x7, ow, fun j c hj oc => ?_, fun ds hm => ?_, hlm, hxs⟩
    · obtain ⟨h1, h2⟩ := wipeR_some (ρ := S0.ρ) hj
      have := ns j c hj oc
      rw [wipe_get, if_neg (fun z => h2 z.1)] at this
      exact this
    · refine nt ds (List.mem_append_right _ (List.mem_filter.mpr ⟨hm, rfl⟩))⟩
end
end Kn

set_option Elab.async false
set_option maxRecDepth 100000
set_option linter.all false
set_option autoImplicit false
namespace Kn
open PySem L2
/-! ### defs by their data -/
structure Exn where
  cls : Addr
  fs : List (Str × D)
def ExOk (K : PySem.W.Frag) (U : Addr → Prop) (W : Wd) (H : Hp) (x : Exn) (c : Value) (d : Option Addr) : Prop :=
  c = .ref x.cls ∧ ((x.fs = [] ∧ d = none) ∨ (x.fs ≠ [] ∧ ∃ b vs, d = some b ∧ ¬ U b ∧ H b = some (.xd vs) ∧ DvF K W.Tp (Hd U H) vs x.fs))
class WLk (K : PySem.W.Frag) (e : Ent) (Wx : WX) (w : outParam (Exn → PSt → Prop)) : Prop where
  run : ∀ (x : Exn) (S : PSt) (σ : St) (H : Hp) (U : Addr → Prop) (c : Value) (d : Option Addr), w x S → RU K e σ H S [] U → ExOk K U S.W H x c d → Wx c d σ H
instance wlk0 {K : PySem.W.Frag} {e : Ent} : WLk K e (fun _ _ _ _ => False) (fun _ _ => False) := ⟨fun x S σ H U c d w _ _ => w⟩
abbrev FSpec := List D → Wd → (D → Wd → Prop) → (Exn → Wd → Prop) → Prop
def lift (K : PySem.W.Frag) (F : FSpec) : Sp := fun vs H Q E => ∃ (U : Addr → Prop) (W : Wd) (ds : List D) (Qd : D → Wd → Prop) (Ed : Exn → Wd → Prop), Rw K U W H ∧ DvL K W.Tp (Hd U H) vs ds ∧ F ds W Qd Ed ∧
  (∀ d W' v H' U', Qd d W' → Rw K U' W' H' → Fr ⟨U, W, H⟩ U' W' H' → Dv K W'.Tp (Hd U' H') v d → Q v H') ∧
  (∀ x W' c dd H' U', Ed x W' → Rw K U' W' H' → Fr ⟨U, W, H⟩ U' W' H' → ExOk K U' W' H' x c dd → E c dd H')
/-- a def that gives f of its arguments -/
def fnS (pre : List D → Prop) (f : List D → D) : FSpec := fun ds W Q _ => pre ds ∧ Q (f ds) W
/-- .. one of those that r says -/
def relS (pre : List D → Prop) (r : List D → D → Prop) : FSpec := fun ds W Q _ => pre ds ∧ ∀ d, r ds d → Q d W
section
variable {K : PySem.W.Frag} {e : Ent}
theorem RU.callBack {σ : St} {H H' : Hp} {S : PSt} {T : List Tm} {U U' : Addr → Prop} {W' : Wd} (x : RU K e σ H S T U) (r : Rw K U' W' H') (f : Fr ⟨U, S.W, H⟩ U' W' H') {v : V} {d : D} (hv : Dv K W'.Tp (Hd U' H') v d) : R K e σ H' ⟨S.ρ, W'⟩ (.v v (.d d) :: T) :=
  ⟨U', (x.to r f).push hv⟩
def CallF (F : FSpec) (ds : List D) (S : PSt) (Q : Rv → PSt → Prop) (w : Exn → PSt → Prop) : Prop := F ds S.W (fun d W' => Q (.d d) ⟨S.ρ, W'⟩) (fun x W' => w x ⟨S.ρ, W'⟩)
def tdCall (F : FSpec) (w : Exn → PSt → Prop) (t : TDA) : TDE := fun S Q => t S fun rs S1 => frcL rs S1 fun ds S2 => CallF F ds S2 Q w
instance simCall {F : FSpec} {Wx : WX} {w : Exn → PSt → Prop} {t : TA} {t' : TDA} [h1 : SimA K e t t'] [h2 : WLk K e Wx w] : SimE K e (tCallS (lift K F) (WE Wx) t) (tdCall F w t') := ⟨fun σ H S T Qd Q x h k => by
  refine h1.run σ H S T _ _ x h fun rs S1 vs H1 hc hl x1 => ?_
  refine R.frcL hl x1 hc fun ds S2 h3 hl2 x2 => ?_
  obtain ⟨U, x2⟩ := x2
  have xT := x2.less (T' := T) fun p hp => List.mem_append_right _ hp
  refine ⟨U, S2.W, ds, _, _, x2.wo, RU.tms hl2 x2, h3, fun d W' v H' U' q r f dv => k _ _ _ _ q (xT.callBack r f dv), fun x W' c dd H' U' q r f ex => ?_⟩
  exact h2.run x ⟨S2.ρ, W'⟩ σ H' U' c dd q ((xT.to r f).less fun p hp => by cases hp) ex⟩
/-- the state at the entry -/
def S0 (N : List Str) (ds : List D) (W : Wd) : PSt := ⟨ds.map (fun d => some (.val d)) ++ List.replicate (N.length - ds.length) none, W⟩
theorem RU.start {N : List Str} {H : Hp} {vs : List V} {ds : List D} {U : Addr → Prop} {W : Wd} (r : Rw K U W H) (hv : DvL K W.Tp (Hd U H) vs ds) : RU K ⟨U, W, H⟩ (start N vs) H (S0 N ds W) [] U where
  wo := r
  fr := Fr.refl U W H
  ed := r.dom
  len := by
    show (vs.map some ++ List.replicate (N.length - vs.length) none).length = _
    simp [S0, hv.len]
  slot := fun i c h => by
    have h : (ds.map (fun d => some (PC.val d)) ++ List.replicate (N.length - ds.length) none)[i]? = some (some c) := h
    by_cases q : i < ds.length
    · rw [List.getElem?_append_left (by simpa using q), List.getElem?_map] at h
      obtain ⟨d, h1, h2⟩ := Option.map_eq_some_iff.mp h
      cases h2
      obtain ⟨v, h3, h4⟩ := hv.get h1
      refine ⟨v, ?_, h4⟩
      unfold L2.start
      have hlt : i < vs.length := by rw [hv.len]; exact q
      rw [List.getElem?_append_left (by simpa using hlt), List.getElem?_map, h3]; rfl
    · rw [List.getElem?_append_right (by simpa using q), List.getElem?_replicate] at h
      split at h
      · cases h
      · cases h
  sep := fun i j c c' l n hi oi hj oj si sj => by
    have hi : (ds.map (fun d => some (PC.val d)) ++ List.replicate (N.length - ds.length) none)[i]? = some (some c) := hi
    by_cases q : i < ds.length
    · rw [List.getElem?_append_left (by simpa using q), List.getElem?_map] at hi
      obtain ⟨d, h1, h2⟩ := Option.map_eq_some_iff.mp hi
      cases h2
      exact oi
    · rw [List.getElem?_append_right (by simpa using q), List.getElem?_replicate] at hi
      split at hi
      · cases hi
      · cases hi
  tmp := fun p hp => by cases hp
end
section
variable {P : Program} {w : World} {K : PySem.W.Frag} {mg : Str → Option Value} {base : Heap}
theorem Fz.okD {x : Str} {st : Stmt} {ps N : List Str} {k : Nat} {Fs : FSpec} (F : Fz K mg x st ps) (S : FnScope N ps (defScope st)) (hl : ∀ ds W Q E, Fs ds W Q E → ds.length = ps.length)
    (hbody : ∀ (f : Addr) (cdv : Value) (A : Around) (outer : List Env) (s : Shared) (H : Hp) (E : XK) (e : Ent) (ds : List D) (Qd : D → Wd → Prop) (Ed : Exn → Wd → Prop), Room k (A.deeper (PyProof.Rows.envOfC x (defScope st) s.heap.objs.size f cdv)) → WLk K e (fun c d _ H => E c d H) (fun x S => Ed x S.W) → Fs ds e.W Qd Ed →
      ∃ t td, PSs (cxOf (L2.CX P w) P w K mg base N x (defScope st) f cdv A outer s H E) (defBody st) t ∧ SimZ K e t td ∧ td ⟨fun S => Qd .non S.W, Qd, fun _ => False, fun _ => False, fun _ _ => False⟩ (S0 N ds e.W)) : Fx P w K mg base (L2.CX P w) x (k + 1) ps (lift K Fs) := by
  refine F.okX S (fun vs H Q E h => ?_) (fun f cdv A outer s H vs Q E hr h => ?_)
  · obtain ⟨U, W, ds, Qd, Ed, r, dv, hF, _⟩ := h
    rw [dv.len]; exact hl _ _ _ _ hF
  · obtain ⟨U, W, ds, Qd, Ed, r, dv, hF, kq, ke⟩ := h
    obtain ⟨t, td, hp, hs, ht⟩ := hbody f cdv A outer s H E ⟨U, W, H⟩ ds Qd Ed hr ⟨fun x S σ H' U' c d hw ru ex => ke x S.W c d H' U' hw ru.wo ru.fr ex⟩ hF
    refine ⟨t, hp, hs.run (start N vs) H (S0 N ds W) _ _ ⟨U, RU.start r dv⟩ ht ⟨fun S' σ' H' q ⟨U', x'⟩ => ?_, fun d S' σ' v H' q ⟨U', x'⟩ => ?_, fun _ _ _ q => q.elim, fun _ _ _ q => q.elim, fun _ _ _ _ _ q => q.elim⟩⟩
    · exact kq _ _ _ _ U' q x'.wo x'.fr .non
    · exact kq _ _ _ _ U' q x'.wo x'.fr (x'.tmp (.v v (.d d)) (by simp))
end
theorem Fz.noneD {P : Program} {w : World} {K : PySem.W.Frag} {mg : Str → Option Value} {base : Heap} {CX : CXT} {x : Str} {st : Stmt} {ps : List Str} {k : Nat} {Fs : FSpec} (F : Fz K mg x st ps) (h : ∀ ds W Q E, ¬ Fs ds W Q E) : Fx P w K mg base CX x k ps (lift K Fs) := F.none fun vs H Q E ⟨U, W, ds, Qd, Ed, _, _, z, _⟩ => h _ _ _ _ z
/-! ### defs that give a new list -/
abbrev FSpecN := List D → Wd → (List D → Wd → Prop) → (Exn → Wd → Prop) → Prop
def liftN (K : PySem.W.Frag) (F : FSpecN) : Sp := fun vs H Q E => ∃ (U : Addr → Prop) (W : Wd) (ds : List D) (Qd : List D → Wd → Prop) (Ed : Exn → Wd → Prop), Rw K U W H ∧ DvL K W.Tp (Hd U H) vs ds ∧ F ds W Qd Ed ∧
  (∀ es W' l xs H' U', Qd es W' → Rw K U' W' H' → Fr ⟨U, W, H⟩ U' W' H' → U' l → H l = none → ¬ W'.Tp l → W'.ω l = none → H' l = some (.lst xs) → DvL K W'.Tp (Hd U' H') xs es → Q (.ref l) H') ∧
  (∀ x W' c dd H' U', Ed x W' → Rw K U' W' H' → Fr ⟨U, W, H⟩ U' W' H' → ExOk K U' W' H' x c dd → E c dd H')
section
variable {K : PySem.W.Frag} {e : Ent}
def CallN (F : FSpecN) (ds : List D) (S : PSt) (Q : List D → PSt → Prop) (w : Exn → PSt → Prop) : Prop := F ds S.W (fun d W' => Q d ⟨S.ρ, W'⟩) (fun x W' => w x ⟨S.ρ, W'⟩)
def tnCall (F : FSpecN) (w : Exn → PSt → Prop) (t : TDA) : TDN := fun S Q => t S fun rs S1 => frcL rs S1 fun ds S2 => CallN F ds S2 Q w
instance simCallN {F : FSpecN} {Wx : WX} {w : Exn → PSt → Prop} {t : TA} {t' : TDA} [h1 : SimA K e t t'] [h2 : WLk K e Wx w] : SimN K e (tCallS (liftN K F) (WE Wx) t) (tnCall F w t') := ⟨fun σ H S T Qd Q x h k => by
  refine h1.run σ H S T _ _ x h fun rs S1 vs H1 hc hl x1 => ?_
  refine R.frcL hl x1 hc fun ds S2 h3 hl2 x2 => ?_
  obtain ⟨U, x2⟩ := x2
  have xT := x2.less (T' := T) fun p hp => List.mem_append_right _ hp
  refine ⟨U, S2.W, ds, _, _, x2.wo, RU.tms hl2 x2, h3, fun es W' l xs H' U' q r f u0 l0 tp w0 hl' dv => k _ _ _ _ q ⟨U', xs, xT.to r f, ⟨u0, xT.free0 l0, tp, w0⟩, fun i c hi oc si => ?_, fun ds' hm => ?_, hl', dv⟩, fun x W' c dd H' U' q r f ex => ?_⟩
  · obtain ⟨v, h1, h2⟩ := xT.slot i c hi
    rw [h1] at si; cases si
    match c, oc, h2 with
    | .ownL ds, _, ⟨m, vs, e1, _, e2, _⟩ => cases e1; rw [l0] at e2; cases e2
    | .ownD ds, _, ⟨m, vs, e1, _, e2, _⟩ => cases e1; rw [l0] at e2; cases e2
  · obtain ⟨_, _, vs, e2, _⟩ := xT.tmp _ hm
    rw [l0] at e2; cases e2
  · exact h2.run x ⟨S2.ρ, W'⟩ σ H' U' c dd q ((xT.to r f).less fun p hp => by cases hp) ex⟩
end
section
variable {P : Program} {w : World} {K : PySem.W.Frag} {mg : Str → Option Value} {base : Heap}
theorem Fz.okDN {x : Str} {st : Stmt} {ps N : List Str} {k : Nat} {Fs : FSpecN} (F : Fz K mg x st ps) (S : FnScope N ps (defScope st)) (hl : ∀ ds W Q E, Fs ds W Q E → ds.length = ps.length)
    (hbody : ∀ (f : Addr) (cdv : Value) (A : Around) (outer : List Env) (s : Shared) (H : Hp) (E : XK) (e : Ent) (ds : List D) (Qd : List D → Wd → Prop) (Ed : Exn → Wd → Prop), Room k (A.deeper (PyProof.Rows.envOfC x (defScope st) s.heap.objs.size f cdv)) → WLk K e (fun c d _ H => E c d H) (fun x S => Ed x S.W) → Fs ds e.W Qd Ed →
      ∃ t td, PSs (cxOf (L2.CX P w) P w K mg base N x (defScope st) f cdv A outer s H E) (defBody st) t ∧ SimZ K e t td ∧ td ⟨fun _ => False, fun _ _ => False, fun _ => False, fun _ => False, Qd⟩ (S0 N ds e.W)) : Fx P w K mg base (L2.CX P w) x (k + 1) ps (liftN K Fs) := by
  refine F.okX S (fun vs H Q E h => ?_) (fun f cdv A outer s H vs Q E hr h => ?_)
  · obtain ⟨U, W, ds, Qd, Ed, r, dv, hF, _⟩ := h
    rw [dv.len]; exact hl _ _ _ _ hF
  · obtain ⟨U, W, ds, Qd, Ed, r, dv, hF, kq, ke⟩ := h
    obtain ⟨t, td, hp, hs, ht⟩ := hbody f cdv A outer s H E ⟨U, W, H⟩ ds Qd Ed hr ⟨fun x S σ H' U' c d hw ru ex => ke x S.W c d H' U' hw ru.wo ru.fr ex⟩ hF
    refine ⟨t, hp, hs.run (start N vs) H (S0 N ds W) _ _ ⟨U, RU.start r dv⟩ ht ⟨fun S' σ' H' q _ => q.elim, fun d S' σ' v H' q _ => q.elim, fun _ _ _ q => q.elim, fun _ _ _ q => q.elim, fun es S' σ' l H' q x' => ?_⟩⟩
    obtain ⟨U', xs, x', ow, ns, nt, hl', dv'⟩ := x'.ex
    exact kq _ _ l xs _ U' q x'.wo x'.fr ow.u ow.e0 ow.tp ow.w hl' dv'
theorem Fz.noneDN {CX : CXT} {x : Str} {st : Stmt} {ps : List Str} {k : Nat} {Fs : FSpecN} (F : Fz K mg x st ps) (h : ∀ ds W Q E, ¬ Fs ds W Q E) : Fx P w K mg base CX x k ps (liftN K Fs) := F.none fun vs H Q E ⟨U, W, ds, Qd, Ed, _, _, z, _⟩ => h _ _ _ _ z
end
/-! ### raise of a class without fields -/
def tRaise (t : St → Hp → XK → Prop) (W : WX) : TS := fun _ σ H => t σ H fun cls d H' => W cls d σ H'
def tMkO (C : Addr) : St → Hp → XK → Prop := fun _ H Q => Q (.ref C) none H
theorem ps_raiseU {X : Cx} {W : WX} {C : Addr} {ex : Expr} {pos : Pos} (hc : X.calm = true) (tk : Takes X W) (he : PMk X ex (fun _ H Q => Q (.ref C) none H)) : PS X (.Raise (some ex) none pos) (tRaise (tMkO C) W) := ps_raise hc tk he
section
variable {K : PySem.W.Frag} {e : Ent}
def tdRaise (C : Addr) (w : Exn → PSt → Prop) : TDS := fun _ S => w ⟨C, []⟩ S
instance simRaise {C : Addr} {Wx : WX} {w : Exn → PSt → Prop} [h : WLk K e Wx w] : SimS K e (tRaise (tMkO C) Wx) (tdRaise C w) := ⟨fun σ H S T Ed E hT ⟨U, x⟩ q k => h.run ⟨C, []⟩ S σ H U _ _ q (x.less fun p hp => by cases hp) ⟨rfl, .inl ⟨rfl, rfl⟩⟩⟩
/-! ### methods of lists -/
def mutO (S : PSt) (j : Nat) (F : List D → (List D → Prop) → Prop) (Q : List D → PSt → Prop) : Option (Option PC) → Prop
  | some (some (.ownL ds)) => F ds fun es => Q es (S.set j (.ownL es))
  | _ => False
def mutC (S : PSt) (a : Addr) (F : List D → (List D → Prop) → Prop) (Q : List D → PSt → Prop) : Option Cell → Prop
  | some (.lst ds) => F ds fun es => Q es ⟨S.ρ, S.W.put a (.lst es)⟩
  | _ => False
def mutL (S : PSt) (r : Rv) (F : List D → (List D → Prop) → Prop) (Q : List D → PSt → Prop) : Prop := match r with
  | .own j => mutO S j F Q S.ρ[j]?
  | .d (.ref a) => mutC S a F Q (S.W.ω a)
  | _ => False
/-- a list that may be changed: what stands there, and the change -/
theorem R.mutL {σ : St} {H : Hp} {S : PSt} {T : List Tm} {v : V} {r : Rv} {F : List D → (List D → Prop) → Prop} {Q : List D → PSt → Prop} {C : Prop} (x : R K e σ H S (.v v r :: T)) (h : Kn.mutL S r F Q)
    (k : ∀ (l : Addr) (vs : List V) (ds : List D) (U : Addr → Prop) (Qs : List D → Prop), v = .ref l → H l = some (.lst vs) → DvL K S.W.Tp (Hd U H) vs ds → RU K e σ H S (.v v r :: T) U → F ds Qs →
      (∀ (vs' : List V) (es : List D), Qs es → DvL K S.W.Tp (Hd U H) vs' es → ∃ S', Q es S' ∧ RU K e σ (upd H l (.lst vs')) S' T U ∧ S'.W.Tp = S.W.Tp) → C) : C := by
  obtain ⟨U, x⟩ := x
  match r, x, h with
  | .own j, x, h =>
    have hs : σ[j]? = some (some v) := x.tmp (.v v (.own j)) (by simp)
    have xT := x.less (T' := T) fun p hp => List.mem_cons_of_mem _ hp
    have h : mutO S j F Q S.ρ[j]? := h
    match q : S.ρ[j]?, h with
    | some (some (.ownL ds)), h =>
      obtain ⟨l, vs, e1, ow, e2, e3⟩ := x.ownL q
      rw [hs] at e1; cases e1
      refine k l vs ds U _ rfl e2 e3 x h fun vs' es q1 d1 => ⟨_, q1, ?_, rfl⟩
      exact xT.updO (c' := .ownL es) q trivial trivial hs ow ⟨l, vs', rfl, ow, upd_same, DvL.le (Same.lq (Hd.upd ow.u)) (fun _ z => z) d1⟩
  | .d (.ref a), x, h =>
    have hv : Dv K S.W.Tp (Hd U H) v (.ref a) := x.tmp (.v v (.d (.ref a))) (by simp)
    cases hv
    have xT := x.less (T' := T) fun p hp => List.mem_cons_of_mem _ hp
    have h : mutC S a F Q (S.W.ω a) := h
    cases q : S.W.ω a with
    | none => rw [q] at h; exact h.elim
    | some c =>
      rw [q] at h
      cases c with
      | lst ds =>
        obtain ⟨u, vs, e2, e3⟩ := x.wo.cell a _ q
        refine k a vs ds U _ rfl e2 e3 x h fun vs' es q1 d1 => ⟨_, q1, ?_, rfl⟩
        exact xT.updC (c' := .lst es) q trivial ⟨vs', upd_same, DvL.le (Same.lq (Hd.upd u)) (fun _ z => z) d1⟩
      | ins C fs => exact h.elim
      | dct ks => exact h.elim
      | lk od vs ks => exact h.elim
/-- x.append(e) -/
def tdApp (to : TDE) (t : TDA) : TDE := fun S Q => to S fun rx S1 => (∃ ds, derefD S1 rx = some (.lst ds)) ∧ t S1 fun rs S2 => arg1 rs fun r => frc r S2 fun d S3 => mutL S3 rx (fun ds k => ds.length ≤ 999999 ∧ k (ds ++ [d])) fun _ S4 => Q (.d .non) S4
theorem swap2 {σ : St} {H : Hp} {S : PSt} {T : List Tm} {p q : Tm} (x : R K e σ H S (p :: q :: T)) : R K e σ H S (q :: p :: T) := x.less fun r hr => by
  simp at hr ⊢
  rcases hr with h | h | h
  · exact .inr (.inl h)
  · exact .inl h
  · exact .inr (.inr h)
theorem tyV_list {σ : St} {H : Hp} {S : PSt} {T : List Tm} {v : V} {r : Rv} {ds : List D} (x : R K e σ H S (.v v r :: T)) (h : derefD S r = some (.lst ds)) : tyV K "list" v H := by
  obtain ⟨U, _, vw, _⟩ := x.one h
  obtain ⟨a, xs, rfl, h1, _⟩ : Vw K S.W.Tp U H v (.lst ds) := vw
  exact .inl ⟨rfl, _, SqL.of h1⟩
instance simApp {to : TE} {t : TA} {to' : TDE} {t' : TDA} [h1 : SimE K e to to'] [h2 : SimA K e t t'] : SimE K e (tBM K "list" rAppend to t) (tdApp to' t') := ⟨fun σ H S T Qd Q x h k => by
  refine h1.run σ H S T _ _ x h fun rx S1 v H1 hr x1 => ?_
  obtain ⟨⟨ds0, hd0⟩, hr⟩ := hr
  refine ⟨tyV_list x1 hd0, h2.run σ H1 S1 _ _ _ x1 hr fun rs S2 vs H2 hr hl x2 => ?_⟩
  obtain ⟨r, rfl, hr⟩ := arg1_inv hr
  obtain ⟨y, rfl⟩ := len1 hl
  refine R.frc (T := .v v rx :: T) x2 hr fun d S3 h3 x3 => ?_
  refine (swap2 x3).mutL h3 fun l xs ds U Qs e1 e2 e3 x4 hq kk => ?_
  obtain ⟨S4, q4, x5, _⟩ := kk (xs ++ [y]) (ds ++ [d]) hq.2 (e3.app (.cons (x4.tmp (.v y (.d d)) (by simp)) .nil))
  exact ⟨l, xs, y, e1, rfl, e2, bigl_of (by rw [e3.len]; have := hq.1; omega), k _ _ _ _ q4 ⟨U, (x5.less fun p hp => List.mem_cons_of_mem _ hp).push .non⟩⟩⟩
end
end Kn

set_option Elab.async false
set_option maxRecDepth 100000
set_option linter.all false
set_option autoImplicit false
namespace Kn
open PySem L2
/-! ### the tapes -/
theorem hu65_of {A : Around} {k : Nat} (hr : Room k A) : A.units + 65 < cLine := by have := hr.un; omega
theorem Fx.toX {P : Program} {w : World} {K : PySem.W.Frag} {mg : Str → Option Value} {base : Heap} {x : Str} {k : Nat} {ps : List Str} {sp : Sp} (F : Fx P w K mg base CX0 x k ps sp) : Fx P w K mg base (L2.CX P w) x k ps sp := by
  obtain ⟨f, fd, F1, m⟩ := F.ex
  refine ⟨f, fd, ⟨F1.len, fun A outer s H args us vs Q E hr e0 b v h => codeAny_mono (F1.run A outer s H args us vs Q E hr e0 b v h) fun r s' hq => ?_⟩, m⟩
  cases r with
  | error er => exact hq.elim
  | ok fl => cases fl <;> exact hq
theorem Fx.imp {P : Program} {w : World} {K : PySem.W.Frag} {mg : Str → Option Value} {base : Heap} {CX : CXT} {x : Str} {k : Nat} {ps : List Str} {sp sp' : Sp} (F : Fx P w K mg base CX x k ps sp) (h : ∀ vs H Q E, sp' vs H Q E → sp vs H Q E) : Fx P w K mg base CX x k ps sp' :=
  let ⟨f, fd, F1, m⟩ := F.ex
  ⟨f, fd, F1.imp h, m⟩
/-- a draw -/
def F_take : FSpec := fun ds W Q _ => ∃ m : Int, ds = [.tape, .int m] ∧ 0 < m ∧ ∀ r : Int, 0 ≤ r → r < m → Q (.int r) W
theorem take_lift {K : PySem.W.Frag} {vs : List V} {H : Hp} {Q : VK} {E : XK} (h : lift K F_take vs H Q E) : spTake vs H Q E := by
  obtain ⟨U, W, ds, Qd, Ed, r, dv, ⟨m, rfl, hm, hq⟩, kq, _⟩ := h
  cases dv with
  | cons d1 dv =>
  cases dv with
  | cons d2 dv =>
  cases dv
  cases d1 with
  | tape ht =>
  cases d2
  rename_i t
  have htp := (r.tape t ht).2.1
  have hut := (r.tape t ht).1
  refine ⟨t, m, rfl, htp, hm, fun x H' h0 h1 d => ?_⟩
  have kp : ∀ b o, H b = some o → b ≠ t → H' b = some o := d.keep
  refine kq (.int x) W _ H' U (hq x h0 h1) ?_ ?_ (.int x)
  · have sm : Same (Hd U H) (Hd U H') := fun b o q => by
      obtain ⟨q, n⟩ := Hd.of q
      exact Hd.get (kp b o q fun z => n (z ▸ hut)) n
    refine ⟨fun b u => ?_, fun b hb => ?_, fun a c hc => ?_⟩
    · by_cases q : b = t
      · subst q
        obtain ⟨ns, z⟩ := d.tape
        rw [z]; intro z; cases z
      · cases z : H b with
        | none => exact absurd z (r.dom b u)
        | some o => rw [kp b o z q]; intro z; cases z
    · obtain ⟨a1, a2, a3⟩ := r.tape b hb
      refine ⟨a1, ?_, a3⟩
      by_cases q : b = t
      · subst q; exact d.tape
      · exact a2.le fun o z => kp b o z q
    · obtain ⟨u, ck⟩ := r.cell a c hc
      refine ⟨u, ck.le (Same.lq sm) (fun _ z => z) fun o z => kp a o z fun q => ?_⟩
      have := (r.tape t ht).2.2
      rw [← q, hc] at this; cases this
  · refine ⟨fun b o q n => .inl (kp b o q fun z => n (.inl (z ▸ ht))), fun _ u => u, fun _ u => .inl u, fun _ z => .inl z, fun _ z => z, fun b q => ?_, fun _ _ z _ => z⟩
    by_cases z : b = t
    · subst z
      obtain ⟨ns, z⟩ := d.tape
      rw [z]; intro z; cases z
    · cases q2 : H b with
      | none => exact absurd q2 q
      | some o => rw [kp b o q2 z]; intro z; cases z
/-- a new tape -/
def F_tape : FSpec := fun ds W Q _ => ∃ k n : Int, ds = [.scr, .int k, .int n] ∧ 0 ≤ k ∧ 0 ≤ n ∧ n ≤ 1000 ∧ ∀ Tp' : Addr → Prop, (∀ t, W.Tp t → Tp' t) → Q .tape ⟨Tp', W.ω⟩
theorem tape_lift {K : PySem.W.Frag} {vs : List V} {H : Hp} {Q : VK} {E : XK} (h : lift K F_tape vs H Q E) : ∃ (a : Addr) (k n : Int) (ns : List Int), vs = [.ref a, .int k, .int n] ∧ SqL K H a (ns.map V.int) ∧ 0 ≤ k ∧ 0 ≤ n ∧ n ≤ 1000 ∧
    ∀ (t : Addr) (H' : Hp), H t = none → Same H H' → Tape H' t → Q (.ref t) H' := by
  obtain ⟨U, W, ds, Qd, Ed, r, dv, ⟨k, n, rfl, hk, hn0, hn, hq⟩, kq, _⟩ := h
  cases dv with
  | cons d1 dv =>
  cases dv with
  | cons d2 dv =>
  cases dv with
  | cons d3 dv =>
  cases dv
  cases d1 with
  | scr hs hl =>
  cases d2
  cases d3
  rename_i a ns
  refine ⟨a, k, n, ns, rfl, Same.seq Hd.sub hs, hk, hn0, hn, fun t H' ht sm tp => ?_⟩
  have nt : ∀ b o, H b = some o → b ≠ t := fun b o q => ne_of_none q ht
  have smd : Same (Hd U H) (Hd (fun b => U b ∨ b = t) H') := fun b o q => by
    obtain ⟨q, n⟩ := Hd.of q
    exact Hd.get (sm b o q) fun z => z.elim n (nt b o q)
  refine kq .tape ⟨fun b => W.Tp b ∨ b = t, W.ω⟩ (.ref t) H' (fun b => U b ∨ b = t) (hq _ fun _ z => .inl z) ?_ ?_ (.tape (.inr rfl))
  · refine ⟨fun b u => ?_, fun b hb => ?_, fun a c hc => ?_⟩
    · rcases u with u | rfl
      · cases z : H b with
        | none => exact absurd z (r.dom b u)
        | some o => rw [sm b o z]; intro z; cases z
      · obtain ⟨ms, z⟩ := tp
        rw [z]; intro z; cases z
    · rcases hb with hb | rfl
      · obtain ⟨a1, a2, a3⟩ := r.tape b hb
        exact ⟨.inl a1, a2.le fun o z => sm b o z, a3⟩
      · refine ⟨.inr rfl, tp, ?_⟩
        show W.ω b = none
        cases z : W.ω b with
        | none => rfl
        | some c => exact absurd ht (r.dom b (r.cell b c z).1)
    · obtain ⟨u, ck⟩ := r.cell a c hc
      exact ⟨.inl u, ck.le (Same.lq smd) (fun _ z => .inl z) fun o z => sm a o z⟩
  · refine ⟨fun b o q _ => .inl (sm b o q), fun _ u => .inl u, fun b u => u.elim .inl fun z => .inr (z ▸ ht), fun b z => ?_, fun _ z => .inl z, fun b q => ?_, fun _ _ z _ => z⟩
    · rcases z with (z | z) | z
      · exact .inl (.inl z)
      · exact .inr (z ▸ ht)
      · exact .inl (.inr z)
    · cases q2 : H b with
      | none => exact absurd q2 q
      | some o => rw [sm b o q2]; intro z; cases z
end Kn

set_option Elab.async false
set_option maxRecDepth 100000
set_option linter.all false
set_option autoImplicit false
namespace Kn
open PySem L2
section
variable {α : Type} {g : TDG} {tt : TDT} {te : TDE} {vs : List Nat} {Q : List D → PSt → Prop} {tb : TDS} {E : DEnds} {S : PSt}
/-- one turn of a comprehension -/
def turnD (g : TDG) (tt : TDT) (te : TDE) (vs : List Nat) (d : D) (S : PSt) (N : D → PSt → Prop) (M : PSt → Prop) : Prop := g d S fun S2 => tt S2 fun b S3 => if b = true then te S3 fun r S4 => frc r S4 fun y S5 => N y (S5.wipe vs) else M (S3.wipe vs)
theorem compD_fm (h : α → D) (f : α → Option D) : ∀ (xs : List α) (acc : List D), acc.length + xs.length ≤ 1000000 → (∀ x ∈ xs, ∀ (N : D → PSt → Prop) (M : PSt → Prop), (∀ y, f x = some y → N y S) → (f x = none → M S) → turnD g tt te vs (h x) S N M) → Q (acc ++ xs.filterMap f) S → compD g tt te vs Q (xs.map h) acc S
  | [], acc, _, _, q => by simpa [compD] using q
  | x :: xs, acc, hl, hs, q => by
    refine ⟨fun a S' => S' = S ∧ a = acc ++ (f x).toList, ?_, hs x (by simp) (fun y S' => acc.length ≤ 999999 ∧ S' = S ∧ acc ++ [y] = acc ++ (f x).toList) (fun S' => S' = S ∧ acc = acc ++ (f x).toList) (fun y hy => ⟨by simp at hl; omega, rfl, by rw [hy]; rfl⟩) fun hy => ⟨rfl, by rw [hy]; simp⟩⟩
    rintro a S' ⟨e, rfl⟩
    rw [e]
    refine compD_fm h f xs _ ?_ (fun y hy => hs y (by simp [hy])) ?_
    · cases f x <;> simp at hl ⊢ <;> omega
    · cases e : f x <;> simp [e] at q ⊢ <;> exact q
theorem compD_map (h f : α → D) (xs : List α) (acc : List D) (hl : acc.length + xs.length ≤ 1000000) (hs : ∀ x ∈ xs, ∀ (N : D → PSt → Prop) (M : PSt → Prop), N (f x) S → turnD g tt te vs (h x) S N M) (q : Q (acc ++ xs.map f) S) : compD g tt te vs Q (xs.map h) acc S :=
  compD_fm h (fun x => some (f x)) xs acc hl (fun x hx N M h1 _ => hs x hx N M (h1 _ rfl)) (by simpa [List.filterMap_eq_map] using q)
/-- each item gives one of those that P says -/
inductive All2 {α β : Type} (P : α → β → Prop) : List α → List β → Prop
  | nil : All2 P [] []
  | cons {a : α} {b : β} {as : List α} {bs : List β} : P a b → All2 P as bs → All2 P (a :: as) (b :: bs)
theorem compD_rel (h : α → D) (P : α → D → Prop) : ∀ (xs : List α) (acc : List D), acc.length + xs.length ≤ 1000000 → (∀ x ∈ xs, ∀ (N : D → PSt → Prop) (M : PSt → Prop), (∀ y, P x y → N y S) → turnD g tt te vs (h x) S N M) → (∀ ys, All2 P xs ys → Q (acc ++ ys) S) → compD g tt te vs Q (xs.map h) acc S
  | [], acc, _, _, q => by simpa [compD] using q [] .nil
  | x :: xs, acc, hl, hs, q => by
    refine ⟨fun a S' => S' = S ∧ ∃ y, P x y ∧ a = acc ++ [y], ?_, hs x (by simp) (fun y S' => acc.length ≤ 999999 ∧ S' = S ∧ ∃ y', P x y' ∧ acc ++ [y] = acc ++ [y']) (fun S' => S' = S ∧ ∃ y', P x y' ∧ acc = acc ++ [y']) fun y hy => ⟨by simp at hl; omega, rfl, y, hy, rfl⟩⟩
    rintro a S' ⟨e, y, hy, rfl⟩
    rw [e]
    refine compD_rel h P xs _ ?_ (fun y hy => hs y (by simp [hy])) fun ys h2 => ?_
    · simp at hl ⊢; omega
    · simpa using q (y :: ys) (.cons hy h2)
theorem All2.len {α β : Type} {P : α → β → Prop} : ∀ {as : List α} {bs : List β}, All2 P as bs → as.length = bs.length
  | _, _, .nil => rfl
  | _, _, .cons _ t => by simp [All2.len t]
theorem All2.mem {α β : Type} {P : α → β → Prop} {Q : β → Prop} (h : ∀ a b, P a b → Q b) : ∀ {as : List α} {bs : List β}, All2 P as bs → ∀ b ∈ bs, Q b
  | _, _, .cons p t, b, hb => by
    rcases List.mem_cons.mp hb with rfl | hb
    · exact h _ _ p
    · exact All2.mem h t b hb
theorem forD_ix (h : α → D) (xs : List α) (I : Nat → PSt → Prop) (h0 : I 0 S) (hs : ∀ (i : Nat) x S, xs[i]? = some x → I i S → g (h x) S fun S2 => tb ⟨I (i + 1), E.rt, E.nx, I (i + 1), E.rn⟩ S2) (hd : ∀ S, I xs.length S → E.nx S) : forD g tb E (xs.map h) S := by
  have key : ∀ (ys : List α) (i : Nat) (S : PSt), i ≤ xs.length → xs.drop i = ys → I i S → forD g tb E (ys.map h) S := by
    intro ys
    induction ys with
    | nil =>
      intro i S hle e hi
      have hge : i = xs.length := by
        have := congrArg List.length e
        simp at this; omega
      subst hge
      exact hd S hi
    | cons y ys ih =>
      intro i S hle e hi
      have hlt : i < xs.length := by
        have := congrArg List.length e
        simp at this; omega
      have hy : xs[i]? = some y := by
        rw [List.drop_eq_getElem_cons hlt] at e
        rw [List.getElem?_eq_getElem hlt]
        exact congrArg some (List.cons.inj e).1
      refine ⟨I (i + 1), fun S' h' => ih (i + 1) S' hlt ?_ h', hs i y S hy hi⟩
      rw [List.drop_eq_getElem_cons hlt] at e
      exact (List.cons.inj e).2
  exact key xs 0 S (Nat.zero_le _) (by simp) h0
theorem forD_one {d : D} {ds : List D} (h : g d S fun S2 => tb ⟨forD g tb E ds, E.rt, E.nx, forD g tb E ds, E.rn⟩ S2) : forD g tb E (d :: ds) S := ⟨_, fun _ z => z, h⟩
theorem forD_id (xs : List D) (I : Nat → PSt → Prop) (h0 : I 0 S) (hs : ∀ (i : Nat) x S, xs[i]? = some x → I i S → g x S fun S2 => tb ⟨I (i + 1), E.rt, E.nx, I (i + 1), E.rn⟩ S2) (hd : ∀ S, I xs.length S → E.nx S) : forD g tb E xs S := by
  have := forD_ix (g := g) (tb := tb) (E := E) (S := S) id xs I h0 hs hd
  rwa [List.map_id] at this
/-- a search: the state stays, a turn goes on or ends all -/
theorem forD_all (h : α → D) (xs : List α) (hs : ∀ x ∈ xs, ∀ N : PSt → Prop, N S → g (h x) S fun S2 => tb ⟨N, E.rt, E.nx, N, E.rn⟩ S2) (hd : E.nx S) : forD g tb E (xs.map h) S :=
  forD_ix h xs (fun _ S' => S' = S) rfl (fun i x S' hx e => by subst e; exact hs x (List.mem_of_getElem? hx) _ rfl) fun S' e => by subst e; exact hd
theorem compD_mapI (f : D → D) (xs acc : List D) (hl : acc.length + xs.length ≤ 1000000) (hs : ∀ x ∈ xs, ∀ (N : D → PSt → Prop) (M : PSt → Prop), N (f x) S → turnD g tt te vs x S N M) (q : Q (acc ++ xs.map f) S) : compD g tt te vs Q xs acc S := by
  have := compD_map (g := g) (tt := tt) (te := te) (vs := vs) (Q := Q) (S := S) id f xs acc hl hs q
  rwa [List.map_id] at this
theorem compD_fmI (f : D → Option D) (xs acc : List D) (hl : acc.length + xs.length ≤ 1000000) (hs : ∀ x ∈ xs, ∀ (N : D → PSt → Prop) (M : PSt → Prop), (∀ y, f x = some y → N y S) → (f x = none → M S) → turnD g tt te vs x S N M) (q : Q (acc ++ xs.filterMap f) S) : compD g tt te vs Q xs acc S := by
  have := compD_fm (g := g) (tt := tt) (te := te) (vs := vs) (Q := Q) (S := S) id f xs acc hl hs q
  rwa [List.map_id] at this
theorem compD_relI (P : D → D → Prop) (xs acc : List D) (hl : acc.length + xs.length ≤ 1000000) (hs : ∀ x ∈ xs, ∀ (N : D → PSt → Prop) (M : PSt → Prop), (∀ y, P x y → N y S) → turnD g tt te vs x S N M) (q : ∀ ys, All2 P xs ys → Q (acc ++ ys) S) : compD g tt te vs Q xs acc S := by
  have := compD_rel (g := g) (tt := tt) (te := te) (vs := vs) (Q := Q) (S := S) id P xs acc hl hs q
  rwa [List.map_id] at this
end
theorem eqOk_ii (a b : Int) : eqOk (.int a) (.int b) ↔ True := iff_true_intro (.inl rfl)
theorem eqOk_ss (a b : Str) : eqOk (.str a) (.str b) ↔ True := iff_true_intro (.inl rfl)
theorem eqOk_bb (a b : Bool) : eqOk (.bl a) (.bl b) ↔ True := iff_true_intro (.inl rfl)
theorem eqOk_nn : eqOk .non .non ↔ True := iff_true_intro (.inl rfl)
theorem eqOk_ns (a : Str) : eqOk .non (.str a) ↔ True := iff_true_intro (.inl rfl)
theorem eqOk_sn (a : Str) : eqOk (.str a) .non ↔ True := iff_true_intro (.inl rfl)
theorem eqOk_ni (a : Int) : eqOk .non (.int a) ↔ True := iff_true_intro (.inl rfl)
theorem eqOk_in (a : Int) : eqOk (.int a) .non ↔ True := iff_true_intro (.inl rfl)
theorem eqOk_si (a : Str) (b : Int) : eqOk (.str a) (.int b) ↔ True := iff_true_intro (.inl rfl)
theorem eqOk_is (a : Int) (b : Str) : eqOk (.int a) (.str b) ↔ True := iff_true_intro (.inl rfl)
theorem ite_bl {b : Bool} {Q : D → Prop} (h : Q (.bl b)) : if b = true then Q (.bl true) else Q (.bl false) := by cases b <;> simpa using h
theorem at_get {α : Type} {xs : List α} {i : Int} {j : Nat} {x : α} (h : i = (j : Int)) (hx : xs[j]? = some x) : atI xs i = some x := by rw [h]; exact atI_nat hx
section
variable {α : Type} (a b c d f : α) (xs : List α)
theorem atI_0 : atI (a :: xs) 0 = some a := at_get (j := 0) rfl rfl
theorem atI_1 : atI (a :: b :: xs) 1 = some b := at_get (j := 1) rfl rfl
theorem atI_2 : atI (a :: b :: c :: xs) 2 = some c := at_get (j := 2) rfl rfl
theorem atI_3 : atI (a :: b :: c :: d :: xs) 3 = some d := at_get (j := 3) rfl rfl
theorem atI_4 : atI (a :: b :: c :: d :: f :: xs) 4 = some f := at_get (j := 4) rfl rfl
theorem cut1 : cut (a :: xs) (some 1) none = xs := by
  unfold cut
  rw [show HT.sIx (a :: xs).length 0 (some (1 : Int)) = 1 from sIx_nat (i := 1) rfl (by simp), show HT.sIx (a :: xs).length (a :: xs).length none = (a :: xs).length from rfl]
  simp
end
theorem cut_to {α : Type} {xs : List α} {i : Nat} {z : Int} (e : z = (i : Int)) (h : i ≤ xs.length) : cut xs none (some z) = xs.take i := by
  unfold cut
  rw [sIx_nat e h, show HT.sIx xs.length 0 none = 0 from rfl]
  simp
theorem cut_from {α : Type} {xs : List α} {i : Nat} {z : Int} (e : z = (i : Int)) (h : i ≤ xs.length) : cut xs (some z) none = xs.drop i := by
  unfold cut
  rw [sIx_nat e h, show HT.sIx xs.length xs.length none = xs.length from rfl]
  rw [List.take_of_length_le (by simp)]
theorem take_succ_get {α : Type} {l : List α} {i : Nat} {y : α} (h : l[i]? = some y) : l.take (i + 1) = l.take i ++ [y] := by
  obtain ⟨hi, e⟩ := List.getElem?_eq_some_iff.mp h
  rw [List.take_succ_eq_append_getElem hi, e]
end Kn

set_option Elab.async false
set_option maxRecDepth 100000
set_option linter.all false
set_option autoImplicit false
namespace Kn
open PySem L2
section
variable {K : PySem.W.Frag} {e : Ent}
/-! ### a dict is changed -/
def mutDO (S : PSt) (j : Nat) (F : List (Key × D) → (List (Key × D) → Prop) → Prop) (Q : PSt → Prop) : Option (Option PC) → Prop
  | some (some (.ownD ds)) => F ds fun es => Q (S.set j (.ownD es))
  | _ => False
def mutDC (S : PSt) (a : Addr) (F : List (Key × D) → (List (Key × D) → Prop) → Prop) (Q : PSt → Prop) : Option Cell → Prop
  | some (.dct ds) => F ds fun es => Q ⟨S.ρ, S.W.put a (.dct es)⟩
  | _ => False
def mutD (S : PSt) (r : Rv) (F : List (Key × D) → (List (Key × D) → Prop) → Prop) (Q : PSt → Prop) : Prop := match r with
  | .own j => mutDO S j F Q S.ρ[j]?
  | .d (.ref a) => mutDC S a F Q (S.W.ω a)
  | _ => False
theorem R.mutD {σ : St} {H : Hp} {S : PSt} {T : List Tm} {v : V} {r : Rv} {F : List (Key × D) → (List (Key × D) → Prop) → Prop} {Q : PSt → Prop} {C : Prop} (x : R K e σ H S (.v v r :: T)) (h : Kn.mutD S r F Q)
    (k : ∀ (l : Addr) (vs : List (Key × V)) (ds : List (Key × D)) (U : Addr → Prop) (Qs : List (Key × D) → Prop), v = .ref l → H l = some (.dK vs) → DvK K S.W.Tp (Hd U H) vs ds → RU K e σ H S (.v v r :: T) U → F ds Qs →
      (∀ (vs' : List (Key × V)) (es : List (Key × D)), Qs es → DvK K S.W.Tp (Hd U H) vs' es → ∃ S', Q S' ∧ RU K e σ (upd H l (.dK vs')) S' T U) → C) : C := by
  obtain ⟨U, x⟩ := x
  match r, x, h with
  | .own j, x, h =>
    have hs : σ[j]? = some (some v) := x.tmp (.v v (.own j)) (by simp)
    have xT := x.less (T' := T) fun p hp => List.mem_cons_of_mem _ hp
    have h : mutDO S j F Q S.ρ[j]? := h
    match q : S.ρ[j]?, h with
    | some (some (.ownD ds)), h =>
      obtain ⟨l, vs, e1, ow, e2, e3⟩ := x.ownD q
      rw [hs] at e1; cases e1
      refine k l vs ds U _ rfl e2 e3 x h fun vs' es q1 d1 => ⟨_, q1, ?_⟩
      exact xT.updO (c' := .ownD es) q trivial trivial hs ow ⟨l, vs', rfl, ow, upd_same, DvK.le (Same.lq (Hd.upd ow.u)) (fun _ z => z) d1⟩
  | .d (.ref a), x, h =>
    have hv : Dv K S.W.Tp (Hd U H) v (.ref a) := x.tmp (.v v (.d (.ref a))) (by simp)
    cases hv
    have xT := x.less (T' := T) fun p hp => List.mem_cons_of_mem _ hp
    have h : mutDC S a F Q (S.W.ω a) := h
    cases q : S.W.ω a with
    | none => rw [q] at h; exact h.elim
    | some c =>
      rw [q] at h
      cases c with
      | dct ds =>
        obtain ⟨u, vs, e2, e3⟩ := x.wo.cell a _ q
        refine k a vs ds U _ rfl e2 e3 x h fun vs' es q1 d1 => ⟨_, q1, ?_⟩
        exact xT.updC (c' := .dct es) q trivial ⟨vs', upd_same, DvK.le (Same.lq (Hd.upd u)) (fun _ z => z) d1⟩
      | ins C fs => exact h.elim
      | lst ks => exact h.elim
      | lk od vs ks => exact h.elim
/-- d[k] = v -/
def tdDPut (td ty tv : TDE) : TDS := fun E S => tv S fun rv S1 => td S1 fun rx S2 => ty S2 fun ry S3 => frc rv S3 fun d S4 => dd1 S4 ry fun dk => opt (keyD dk) fun k => mutD S4 rx (fun ks c => ks.length ≤ 999999 ∧ c (put ks k d)) E.nx
instance simDPut {td ty tv : TE} {td' ty' tv' : TDE} [h1 : SimE K e td td'] [h2 : SimE K e ty ty'] [h3 : SimE K e tv tv'] : SimS K e (sDPut td ty tv) (tdDPut td' ty' tv') := ⟨fun σ H S T Ed E hT x h k => by
  refine h3.run σ H S T _ _ x h fun rv S1 v H1 hr x1 => ?_
  refine h1.run σ H1 S1 _ _ _ x1 hr fun rx S2 xx H2 hr x2 => ?_
  refine h2.run σ H2 S2 _ _ _ x2 hr fun ry S3 y H3 hr x3 => ?_
  have x3' : R K e σ H3 S3 (.v v rv :: .v y ry :: .v xx rx :: T) := x3.less fun p hp => by
    simp at hp ⊢
    rcases hp with h | h | h | h <;> simp [h]
  refine x3'.frc hr fun d S4 h4 x4 => ?_
  obtain ⟨dk, hk, h4⟩ := dd1_inv h4
  obtain ⟨key, hkey, h4⟩ := opt_inv h4
  have x4' : R K e σ H3 S4 (.v y ry :: .v xx rx :: .v v (.d d) :: T) := x4.less fun p hp => by
    simp at hp ⊢
    rcases hp with h | h | h | h <;> simp [h]
  obtain ⟨Uy, _, vy, _⟩ := x4'.one hk
  have ey := keyD_v vy hkey
  refine R.mutD (v := xx) (r := rx) (T := .v v (.d d) :: T) x4'.pop h4 fun l vs ds U Qs e1 e2 e3 x5 hq kk => ?_
  obtain ⟨S5, q5, x6⟩ := kk (putK vs key v) _ hq.2 (e3.put (x5.tmp (.v v (.d d)) (by simp)))
  refine ⟨l, _, e1, .inl ⟨vs, key, e2, ey, bigl_of (by rw [e3.len]; have := hq.1; omega), rfl⟩, k.nx _ _ _ q5 ⟨U, x6.less fun p hp => List.mem_cons_of_mem _ hp⟩⟩⟩
/-- dict(d) -/
def rDictOf : List V → Hp → VK → Prop := fun xs H Q => ∃ (a : Addr) (kvs : List (Key × V)), xs = [.ref a] ∧ Rd H a (.dK kvs) ∧ ∀ p, H p = none → Q (.ref p) (upd H p (.dK kvs))
theorem call_dictU {X : Cx} (K : PySem.W.Frag) (hc : X.calm = true) (h : X.K = K := by rfl) : CallR X (.type "dict") rDictOf := call_dictD
def tkDict (t : TDA) : TDK := fun S Q => t S fun rs S1 => arg1 rs fun r => dd1 S1 r fun d => match d with
  | .dct ks => Q ks S1
  | _ => False
instance simDictOf {t : TA} {t' : TDA} [h1 : SimA K e t t'] : SimK K e (tCB rDictOf t) (tkDict t') := ⟨fun σ H S T Qd Q x h k => by
  refine h1.run σ H S T _ _ x h fun rs S1 vs H1 hr hl x1 => ?_
  obtain ⟨r, rfl, hr⟩ := arg1_inv hr
  obtain ⟨v, rfl⟩ := len1 hl
  obtain ⟨d, hd, hr⟩ := dd1_inv hr
  obtain ⟨U, wT, vw, _⟩ := R.one (T := T) x1 hd
  match d, hr, vw with
  | .dct ks, hr, ⟨a, xs, e1, g1, g2⟩ =>
    subst e1
    exact ⟨a, xs, rfl, g1, fun p hp => k _ _ _ _ hr (wT.newD hp g2)⟩⟩
end
end Kn

set_option Elab.async false
set_option maxRecDepth 100000
set_option linter.all false
set_option autoImplicit false
namespace Kn
open PySem L2
/-! ### a new list becomes a shared thing -/
section
variable {K : PySem.W.Frag} {e : Ent} {σ : St} {H : Hp} {S : PSt} {T : List Tm}
theorem RU.share {U : Addr → Prop} {l : Addr} {c : Cell} (x : RU K e σ H S T U) (ow : Ow e U S.W l) (ns : NoSlot σ S l) (nt : NoTm T l) (ck : CellOk K S.W.Tp U H l c) : RU K e σ H ⟨S.ρ, S.W.put l c⟩ T U := by
  exact {
    wo := {
      dom := x.wo.dom
      tape := fun t ht => by
        obtain ⟨a, b, d⟩ := x.wo.tape t ht
        refine ⟨a, b, ?_⟩
        have : t ≠ l := fun z => ow.tp (z ▸ ht)
        show (S.W.put l c).ω t = none
        rw [Wd.put_ne this]; exact d
      cell := fun a c1 h => by
        have h : (S.W.put l c).ω a = some c1 := h
        by_cases q : a = l
        · subst q
          rw [Wd.put_same] at h
          cases h
          exact ⟨ow.u, ck⟩
        · rw [Wd.put_ne q] at h
          exact x.wo.cell a c1 h }
    fr := { x.fr with
      wnew := fun b h => by
        by_cases q : b = l
        · subst q; exact .inr ow.e0
        · refine x.fr.wnew b ?_
          rcases h with h | ⟨c1, h⟩
          · exact .inl h
          · have h : (S.W.put l c).ω b = some c1 := h
            rw [Wd.put_ne q] at h; exact .inr ⟨c1, h⟩
      lk := fun b c1 h n => by
        show (S.W.put l c).ω b = some c1
        by_cases q : b = l
        · subst q
          have := x.fr.lk b c1 h n
          rw [ow.w] at this; cases this
        · rw [Wd.put_ne q]; exact x.fr.lk b c1 h n }
    ed := x.ed
    len := x.len
    slot := fun i c1 h => by
      obtain ⟨v, h1, h2⟩ := x.slot i c1 h
      refine ⟨v, h1, ?_⟩
      cases c1 with
      | val d => exact h2
      | ownL es =>
        obtain ⟨l', vs, e1, o, e2, e3⟩ := h2
        refine ⟨l', vs, e1, ⟨o.u, o.e0, o.tp, ?_⟩, e2, e3⟩
        show (S.W.put l c).ω l' = none
        rw [Wd.put_ne fun z => ns i _ h trivial (by rw [h1, e1, z])]; exact o.w
      | ownD es =>
        obtain ⟨l', vs, e1, o, e2, e3⟩ := h2
        refine ⟨l', vs, e1, ⟨o.u, o.e0, o.tp, ?_⟩, e2, e3⟩
        show (S.W.put l c).ω l' = none
        rw [Wd.put_ne fun z => ns i _ h trivial (by rw [h1, e1, z])]; exact o.w
    sep := x.sep
    tmp := fun p hp => by
      have h := x.tmp p hp
      match p, h, hp with
      | .v v (.d d), h, _ => exact h
      | .v v (.own j), h, _ => exact h
      | .pin b o w, h, _ => exact h
      | .nw l' es, h, hp =>
        obtain ⟨o, a, b⟩ := h
        refine ⟨⟨o.u, o.e0, o.tp, ?_⟩, a, b⟩
        show (S.W.put l c).ω l' = none
        rw [Wd.put_ne fun z => by subst z; exact nt es hp]; exact o.w }
theorem RN.share {l : Addr} {ds : List D} (y : RN K e σ H S T l ds) : S.W.ω l = none ∧ ¬ S.W.Tp l ∧ R K e σ H ⟨S.ρ, S.W.put l (.lst ds)⟩ (.v (.ref l) (.d (.ref l)) :: T) := by
  obtain ⟨U, xs, x, ow, ns, nt, hl, dv⟩ := y.ex
  exact ⟨ow.w, ow.tp, U, RU.push (x.share (c := .lst ds) ow ns nt ⟨xs, hl, dv⟩) (.ref l)⟩
/-- x = a new list, to be shared and changed -/
def gRef (i : Nat) : TG := gName i
def tdAsgR (i : Nat) (t : TDN) : TDS := fun E S => t S fun ds S1 => ∀ a : Addr, S1.W.ω a = none → ¬ S1.W.Tp a → E.nx (PSt.set ⟨S1.ρ, S1.W.put a (.lst ds)⟩ i (.val (.ref a)))
instance simAsgR {te : TE} {i : Nat} {t : TDN} [h1 : SimN K e te t] : SimS K e (tAsg te (gRef i)) (tdAsgR i t) := ⟨fun σ H S T Ed E hT x h k =>
  h1.run σ H S T _ _ x h fun ds S1 l H1 hr x1 => by
    obtain ⟨a, b, x2⟩ := x1.share
    exact simName.run (.ref l) (.ref l) σ H1 _ T _ _ hT x2 (hr l a b) k.nx⟩
theorem setR_of {X : Cx} {st : Stmt} {i : Nat} {te : TE} (h : PS X st (tAsg te (gName i))) : PS X st (tAsg te (gRef i)) := h
/-! ### for over a shared list: it must stand as it is at each turn -/
def refC (Q : List D → Prop) : Option Cell → Prop
  | some (.lst ds) => Q ds
  | _ => False
def refF (S : PSt) (Q : Addr → List D → Prop) : Rv → Prop
  | .d (.ref a) => refC (Q a) (S.W.ω a)
  | _ => False
def forR (g : TDG) (tb : TDS) (E : DEnds) (a : Addr) (es : List D) : List D → PSt → Prop
  | [], S => S.W.ω a = some (.lst es) ∧ E.nx S
  | d :: ds, S => S.W.ω a = some (.lst es) ∧ ∃ N : PSt → Prop, (∀ S', N S' → forR g tb E a es ds S') ∧ g d S fun S2 => tb ⟨N, E.rt, E.nx, N, E.rn⟩ S2
def iRef (K : PySem.W.Frag) (td : TE) : TI := iAny K td
theorem pi_ref {X : Cx} {tg l : Expr} {tl : TE} (K : PySem.W.Frag) (hl : PE X l tl) (hK : X.K = K := by rfl) : PI X tg l (iRef K tl) := pi_any K hl hK
def tdForR (td : TDE) (g : TDG) (tb : TDS) : TDS := fun E S => td S fun r S1 => refF S1 (fun a ds => forR g tb E a ds ds S1) r
theorem refF_inv {S : PSt} {Q : Addr → List D → Prop} {r : Rv} (h : refF S Q r) : ∃ a ds, r = .d (.ref a) ∧ S.W.ω a = some (.lst ds) ∧ Q a ds := by
  cases r with
  | own j => exact h.elim
  | d d =>
    cases d with
    | ref a =>
      have h : refC (Q a) (S.W.ω a) := h
      cases q : S.W.ω a with
      | none => rw [q] at h; exact h.elim
      | some c =>
        rw [q] at h
        cases c with
        | lst ds => exact ⟨a, ds, rfl, q, h⟩
        | ins C fs => exact h.elim
        | dct ks => exact h.elim
        | lk od vs ks => exact h.elim
    | _ => exact h.elim
theorem cell_list {a : Addr} {es : List D} {i : Nat} {σ : St} {H : Hp} {S : PSt} {T : List Tm} (w : S.W.ω a = some (.lst es)) (x : R K e σ H S T) : (es.length ≤ i → (Itl K a).stop i H) ∧ (i < es.length → (Itl K a).go i H ∧ ∀ x H', (Itl K a).yld i H x H' → ∃ d, es[i]? = some d ∧ R K e σ H' S (.v x (.d d) :: T)) := by
  obtain ⟨U, x⟩ := x
  obtain ⟨u, vs, e2, t⟩ := x.wo.cell a _ w
  refine ⟨fun hi => ⟨vs, SqL.of e2, by rw [t.len]; exact hi⟩, fun hi => ?_⟩
  obtain ⟨v, h1, h2⟩ := t.get (List.getElem?_eq_getElem hi)
  refine ⟨⟨vs, v, SqL.of e2, h1⟩, ?_⟩
  rintro w H' ⟨rfl, hw⟩
  have := hw vs (SqL.of e2)
  rw [h1] at this; cases this
  exact ⟨_, List.getElem?_eq_getElem hi, U, x.push h2⟩
instance simForR {td : TE} {g : TG} {tb : TS} {td' : TDE} {g' : TDG} {tb' : TDS} [h1 : SimE K e td td'] [h2 : SimG K e g g'] [h3 : SimS K e tb tb'] : SimS K e (tFor (iRef K td) g tb) (tdForR td' g' tb') := ⟨fun σ H S T Ed E hT x h k => by
  refine h1.run σ H S T _ _ x h fun r S1 v H1 hd x1 => ?_
  obtain ⟨a, ds, rfl, q, hd⟩ := refF_inv hd
  have hv : v = .ref a := by
    obtain ⟨U, x⟩ := x1
    have hv : Dv K S1.W.Tp (Hd U H1) v (.ref a) := x.tmp (.v v (.d (.ref a))) (by simp)
    cases hv; rfl
  subst hv
  have xT : R K e σ H1 S1 T := x1.pop
  have hsq : ∃ xs, SqL K H1 a xs := by
    obtain ⟨U, x⟩ := xT
    obtain ⟨u, vs, e2, t⟩ := x.wo.cell a _ q
    exact ⟨vs, SqL.of e2⟩
  refine .inl ⟨a, rfl, .inl ⟨hsq, ?_⟩⟩
  refine ⟨fun i m σ H => m = ds.length - i ∧ i ≤ ds.length ∧ ∃ S, forR g' tb' Ed a ds (ds.drop i) S ∧ R K e σ H S T, ⟨_, rfl, Nat.zero_le _, S1, hd, xT⟩, ?_⟩
  rintro i m σ H ⟨rfl, hi, S, hf, x⟩
  by_cases c : i < ds.length
  · rw [List.drop_eq_getElem_cons c] at hf
    obtain ⟨hw, N, hN, hf⟩ := hf
    obtain ⟨i1, i2⟩ := cell_list (i := i) hw x
    obtain ⟨g1, g2⟩ := i2 c
    refine .inr ⟨g1, fun σ' H' => ∃ S', N S' ∧ R K e σ' H' S' T, ?_, fun v H' hy => ?_⟩
    · rintro σ' H' ⟨S', n, x'⟩
      exact ⟨ds.length - (i + 1), by omega, rfl, by omega, S', hN S' n, x'⟩
    · obtain ⟨d, hd', x'⟩ := g2 v H' hy
      have : d = ds[i] := by rw [List.getElem?_eq_getElem c] at hd'; exact (Option.some.inj hd').symm
      subst this
      refine h2.run v _ σ H' S T _ _ hT x' hf fun S2 σ2 H2 hb x2 => ?_
      exact h3.run σ2 H2 S2 T _ _ hT x2 hb ⟨fun S' σ' H' n x' => ⟨S', n, x'⟩, k.rt, k.nx, fun S' σ' H' n x' => ⟨S', n, x'⟩, k.rn⟩
  · rw [List.drop_of_length_le (by omega)] at hf
    obtain ⟨hw, hf⟩ := hf
    obtain ⟨i1, i2⟩ := cell_list (i := i) hw x
    exact .inl ⟨i1 (by omega), k.nx _ _ _ hf x⟩⟩
end
end Kn

set_option Elab.async false
set_option maxRecDepth 100000
set_option linter.all false
set_option autoImplicit false
namespace Kn
open PySem L2
/-! ### objects of own classes -/
section
variable {K : PySem.W.Frag} {e : Ent} {σ : St} {H : Hp} {S : PSt} {T : List Tm} {U : Addr → Prop}
/-- o.f -/
def fldF (C : Addr) (f : Str) (Q : D → Prop) : D → Prop
  | .obj C' fs => C' = C ∧ opt (look fs f) Q
  | _ => False
theorem fldF_inv {C : Addr} {f : Str} {Q : D → Prop} {d : D} (h : fldF C f Q d) : ∃ fs v, d = .obj C fs ∧ look fs f = some v ∧ Q v := by
  cases d with
  | obj C' fs =>
    obtain ⟨rfl, h⟩ := h
    cases q : look fs f with
    | none => rw [q] at h; exact h.elim
    | some v => rw [q] at h; exact ⟨fs, v, rfl, q, h⟩
  | _ => exact h.elim
def tdFldC (C : Addr) (f : Str) (t : TDE) : TDE := fun S Q => t S fun r S1 => dd1 S1 r (fldF C f fun d => Q (.d d) S1)
instance simFldC {C : Addr} {f : Str} {ta : TE} {ta' : TDE} [h1 : SimE K e ta ta'] : SimE K e (tFldC C f ta) (tdFldC C f ta') := ⟨fun σ H S T Qd Q x h k => by
  refine h1.run σ H S T _ _ x h fun r S1 v H1 hr x1 => ?_
  obtain ⟨d, hd, hr⟩ := dd1_inv hr
  obtain ⟨fs, y, rfl, hl, q⟩ := fldF_inv hr
  obtain ⟨U, xT, vw, x2⟩ := x1.one hd
  obtain ⟨a, dx, xs, rfl, ha, dv⟩ : Vw K S1.W.Tp U H1 v (.obj C fs) := vw
  obtain ⟨z, hz, dz⟩ := DvF.look_some dv hl
  exact ⟨a, dx, xs, z, rfl, ha, hz, k _ _ _ _ q ⟨U, xT.push dz⟩⟩⟩
/-- o.f = e, o a shared object -/
def insC (C : Addr) (Q : List (Str × D) → Prop) : Option Cell → Prop
  | some (.ins C' fs) => C' = C ∧ Q fs
  | _ => False
def insF (S : PSt) (C : Addr) (Q : Addr → List (Str × D) → Prop) : Rv → Prop
  | .d (.ref a) => insC C (Q a) (S.W.ω a)
  | _ => False
theorem insF_inv {S : PSt} {C : Addr} {Q : Addr → List (Str × D) → Prop} {r : Rv} (h : insF S C Q r) : ∃ a fs, r = .d (.ref a) ∧ S.W.ω a = some (.ins C fs) ∧ Q a fs := by
  cases r with
  | own j => exact h.elim
  | d d =>
    cases d with
    | ref a =>
      have h : insC C (Q a) (S.W.ω a) := h
      cases q : S.W.ω a with
      | none => rw [q] at h; exact h.elim
      | some c =>
        rw [q] at h
        cases c with
        | ins C' fs =>
          obtain ⟨z, h2⟩ := h
          subst z
          exact ⟨a, fs, rfl, q, h2⟩
        | lst ks => exact h.elim
        | dct ks => exact h.elim
        | lk od vs ks => exact h.elim
    | _ => exact h.elim
def tdSetC (C : Addr) (f : Str) (ta tv : TDE) : TDS := fun E S => tv S fun r S1 => frc r S1 fun d S2 => ta S2 fun rx S3 => insF S3 C (fun a fs => fs.length < 1000 ∧ E.nx ⟨S3.ρ, S3.W.put a (.ins C (putFd f d fs))⟩) rx
instance simSetC {C : Addr} {f : Str} {ta tv : TE} {ta' tv' : TDE} [h1 : SimE K e ta ta'] [h2 : SimE K e tv tv'] : SimS K e (sFldC C f ta tv) (tdSetC C f ta' tv') := ⟨fun σ H S T Ed E hT x h k => by
  refine h2.run σ H S T _ _ x h fun r S1 y H1 hr x1 => x1.frc hr fun d S2 h3 x2 => ?_
  refine h1.run σ H1 S2 _ _ _ x2 h3 fun rx S3 v H2 hq x3 => ?_
  obtain ⟨a, fs, rfl, hw, hl, q⟩ := insF_inv hq
  obtain ⟨U, x3⟩ := x3
  have hv : Dv K S3.W.Tp (Hd U H2) v (.ref a) := x3.tmp (.v v (.d (.ref a))) (by simp)
  cases hv
  obtain ⟨u, dx, vs, e2, e3⟩ := x3.wo.cell a _ hw
  have dy : Dv K S3.W.Tp (Hd U H2) y d := x3.tmp (.v y (.d d)) (by simp)
  refine ⟨a, dx, vs, rfl, e2, by rw [e3.len]; exact hl, k.nx _ _ _ q ⟨U, ?_⟩⟩
  have xT := x3.less (T' := T) fun p hp => List.mem_cons_of_mem _ (List.mem_cons_of_mem _ hp)
  exact xT.updC (c' := .ins C (putFd f d fs)) hw trivial ⟨dx, _, upd_same, DvF.le (Same.lq (Hd.upd u)) (fun _ z => z) (DvF.put dy e3)⟩⟩
/-- what fills up the arguments -/
class DvC (vs : List V) (ds : outParam (List D)) : Prop where
  run : ∀ (K : PySem.W.Frag) (Tp : Addr → Prop) (H : Hp), DvL K Tp H vs ds
instance dvcNil : DvC [] [] := ⟨fun _ _ _ => .nil⟩
instance dvcNon {vs : List V} {ds : List D} [h : DvC vs ds] : DvC (.non :: vs) (.non :: ds) := ⟨fun K Tp H => .cons .non (h.run K Tp H)⟩
instance dvcBl {b : Bool} {vs : List V} {ds : List D} [h : DvC vs ds] : DvC (.bl b :: vs) (.bl b :: ds) := ⟨fun K Tp H => .cons (.bl b) (h.run K Tp H)⟩
instance dvcInt {b : Int} {vs : List V} {ds : List D} [h : DvC vs ds] : DvC (.int b :: vs) (.int b :: ds) := ⟨fun K Tp H => .cons (.int b) (h.run K Tp H)⟩
theorem DvL.cat {Tp : Addr → Prop} {H : Hp} : ∀ {vs ws : List V} {ds es : List D}, DvL K Tp H vs ds → DvL K Tp H ws es → DvL K Tp H (vs ++ ws) (ds ++ es)
  | _, _, _, _, .nil, h => h
  | _, _, _, _, .cons a t, h => .cons a (DvL.cat t h)
/-- the receiver: an object of the class, the name no field of it -/
def recF (C : Addr) (m : Str) (Q : Prop) : D → Prop
  | .obj C' fs => C' = C ∧ look fs m = none ∧ Q
  | _ => False
theorem recF_inv {C : Addr} {m : Str} {Q : Prop} {d : D} (h : recF C m Q d) : ∃ fs, d = .obj C fs ∧ look fs m = none ∧ Q := by
  cases d with
  | obj C' fs =>
    obtain ⟨z, h2, h3⟩ := h
    subst z
    exact ⟨fs, rfl, h2, h3⟩
  | _ => exact h.elim
def tdMeth (C : Addr) (m : Str) (F : FSpec) (w : Exn → PSt → Prop) (dds : List D) (ta : TDE) (t : TDA) : TDE := fun S Q => ta S fun r S1 => frc r S1 fun d S2 => dd1 S2 (.d d) (recF C m (t S2 fun rs S3 => frcL rs S3 fun ds S4 => CallF F (d :: (ds ++ dds)) S4 Q w))
instance simMethX {C : Addr} {m : Str} {F : FSpec} {dvs : List V} {dds : List D} {Wx : WX} {w : Exn → PSt → Prop} {ta : TE} {t : TA} {ta' : TDE} {t' : TDA} [h0 : SimE K e ta ta'] [h1 : SimA K e t t'] [h2 : WLk K e Wx w] [hd : DvC dvs dds] :
    SimE K e (tMethX C m (lift K F) dvs (WE Wx) ta t) (tdMeth C m F w dds ta' t') := ⟨fun σ H S T Qd Q x h k => by
  refine h0.run σ H S T _ _ x h fun r S1 v H1 hr x1 => x1.frc hr fun d S2 hr x2 => ?_
  obtain ⟨o, ho, hr⟩ := dd1_inv hr
  obtain ⟨fs, rfl, hl, hr⟩ := recF_inv hr
  obtain ⟨U1, xT1, vw, x3⟩ := x2.one ho
  obtain ⟨a, dx, xs, rfl, ha, dv⟩ : Vw K S2.W.Tp U1 H1 v (.obj C fs) := vw
  refine ⟨a, dx, xs, rfl, ha, DvF.look_none dv hl, ?_⟩
  refine h1.run σ H1 S2 _ _ _ ⟨U1, x3⟩ hr fun rs S3 vs H2 hc hl2 x4 => ?_
  refine R.frcL hl2 x4 hc fun ds S4 h3 hl3 x5 => ?_
  obtain ⟨U, x5⟩ := x5
  have xT := x5.less (T' := T) fun p hp => List.mem_append_right _ (List.mem_cons_of_mem _ hp)
  have dv0 : Dv K S4.W.Tp (Hd U H2) (.ref a) d := x5.tmp (.v (.ref a) (.d d)) (List.mem_append_right _ (List.mem_cons_self))
  refine ⟨U, S4.W, d :: (ds ++ dds), _, _, x5.wo, .cons dv0 (DvL.cat (RU.tms hl3 x5) (hd.run K _ _)), h3, fun d W' v H' U' q r f dv => k _ _ _ _ q (xT.callBack r f dv), fun x W' c dd H' U' q r f ex => ?_⟩
  exact h2.run x ⟨S4.ρ, W'⟩ σ H' U' c dd q ((xT.to r f).less fun p hp => by cases hp) ex⟩
/-- o.p, a property -/
def ofC (C : Addr) (Q : Prop) : D → Prop
  | .obj C' _ => C' = C ∧ Q
  | _ => False
def tdProp (C : Addr) (F : FSpec) (ta : TDE) : TDE := fun S Q => ta S fun r S1 => frc r S1 fun d S2 => dd1 S2 (.d d) (ofC C (CallF F [d] S2 Q fun _ _ => False))
theorem propF_inv {C : Addr} {Q : Prop} {d : D} (h : ofC C Q d) : ∃ fs, d = .obj C fs ∧ Q := by
  cases d with
  | obj C' fs =>
    obtain ⟨z, h3⟩ := h
    subst z
    exact ⟨fs, rfl, h3⟩
  | _ => exact h.elim
instance simProp {C : Addr} {F : FSpec} {ta : TE} {ta' : TDE} [h0 : SimE K e ta ta'] : SimE K e (tProp C (lift K F) [] E0 ta) (tdProp C F ta') := ⟨fun σ H S T Qd Q x h k => by
  refine h0.run σ H S T _ _ x h fun r S1 v H1 hr x1 => x1.frc hr fun d S2 hr x2 => ?_
  obtain ⟨o, ho, hr⟩ := dd1_inv hr
  obtain ⟨fs, rfl, hr2⟩ := propF_inv hr
  obtain ⟨U, xT, vw, x3⟩ := x2.one ho
  obtain ⟨a, dx, xs, rfl, ha, dv⟩ : Vw K S2.W.Tp U H1 v (.obj C fs) := vw
  have dv0 : Dv K S2.W.Tp (Hd U H1) (.ref a) d := x3.tmp (.v (.ref a) (.d d)) (by simp)
  refine ⟨a, dx, xs, rfl, ha, ?_⟩
  refine ⟨U, S2.W, [d], _, _, x3.wo, .cons dv0 .nil, hr2, fun d W' v H' U' q r f dv => k _ _ _ _ q (xT.callBack r f dv), fun x W' c dd H' U' q r f ex => ?_⟩
  exact False.elim q⟩
/-! ### making -/
open Classical in
noncomputable def Wd.del (W : Wd) (a : Addr) : Wd := ⟨W.Tp, fun b => if b = a then none else W.ω b⟩
theorem Wd.del_same {W : Wd} {a : Addr} : (W.del a).ω a = none := by unfold Wd.del; simp
theorem Wd.del_ne {W : Wd} {a b : Addr} (h : b ≠ a) : (W.del a).ω b = W.ω b := by unfold Wd.del; simp [h]
theorem Wd.del_put {W : Wd} {a : Addr} {c : Cell} (h : W.ω a = none) : (W.put a c).del a = W := by
  obtain ⟨Tp, ω⟩ := W
  unfold Wd.del Wd.put
  congr 1
  funext b
  by_cases q : b = a
  · subst q; simp only [if_true]; exact h.symm
  · simp only [if_neg q]
/-- a new instance -/
theorem RU.newI (x : RU K e σ H S T U) {a dx C : Addr} (ha : H a = none) (hx : H dx = none) (ne : dx ≠ a) : S.W.ω a = none ∧ ¬ S.W.Tp a ∧ RU K e σ (upd (upd H dx (.own a)) a (.ins C dx [])) ⟨S.ρ, S.W.put a (.ins C [])⟩ T (fun b => U b ∨ b = a) := by
  have x1 := x.alloc (o := .own a) hx
  obtain ⟨x2, o, ns, nt⟩ := x1.moreU (o := .ins C dx []) (p := a) (by rw [upd_ne ne.symm]; exact ha)
  exact ⟨o.w, o.tp, x2.share (c := .ins C []) o ns nt ⟨dx, [], upd_same, .nil⟩⟩
/-- it will not change any more -/
theorem RU.del (x : RU K e σ H S T U) {a : Addr} {c : Cell} (h : S.W.ω a = some c) (mc : c.isMut) (e0 : e.H a = none) : RU K e σ H ⟨S.ρ, S.W.del a⟩ T U ∧ Ow e U (S.W.del a) a ∧ NoSlot σ S a ∧ NoTm T a := by
  have u := (x.wo.cell a c h).1
  have ntp : ¬ S.W.Tp a := fun z => by have := (x.wo.tape a z).2.2; rw [h] at this; cases this
  have ns : NoSlot σ S a := fun i c1 h1 oc z => by
    obtain ⟨v, h2, h3⟩ := x.slot i c1 h1
    rw [h2] at z; cases z
    match c1, oc, h3 with
    | .ownL ds, _, ⟨l, vs, e1, o, _⟩ => cases e1; have := o.w; rw [h] at this; cases this
    | .ownD ds, _, ⟨l, vs, e1, o, _⟩ => cases e1; have := o.w; rw [h] at this; cases this
  have nt : NoTm T a := fun ds hm => by
    obtain ⟨o, _⟩ := x.tmp _ hm
    have := o.w; rw [h] at this; cases this
  have dn : ∀ b, S.W.ω b = none → (S.W.del a).ω b = none := fun b z => by
    by_cases q : b = a
    · subst q; exact Wd.del_same
    · rw [Wd.del_ne q]; exact z
  refine ⟨?_, ⟨u, e0, ntp, Wd.del_same⟩, ns, nt⟩
  exact {
    wo := {
      dom := x.wo.dom
      tape := fun t ht => let ⟨p, q, r⟩ := x.wo.tape t ht; ⟨p, q, dn t r⟩
      cell := fun b c1 hb => by
        have hb : (S.W.del a).ω b = some c1 := hb
        by_cases q : b = a
        · subst q; rw [Wd.del_same] at hb; cases hb
        · rw [Wd.del_ne q] at hb; exact x.wo.cell b c1 hb }
    fr := { x.fr with
      wnew := fun b hb => by
        refine x.fr.wnew b ?_
        rcases hb with hb | ⟨c1, hb⟩
        · exact .inl hb
        · have hb : (S.W.del a).ω b = some c1 := hb
          by_cases q : b = a
          · subst q; rw [Wd.del_same] at hb; cases hb
          · rw [Wd.del_ne q] at hb; exact .inr ⟨c1, hb⟩
      lk := fun b c1 hb n => by
        show (S.W.del a).ω b = some c1
        have hb := x.fr.lk b c1 hb n
        by_cases q : b = a
        · subst q; rw [h] at hb; cases hb; exact (n mc).elim
        · rw [Wd.del_ne q]; exact hb }
    ed := x.ed
    len := x.len
    slot := fun i c1 h1 => by
      obtain ⟨v, h2, h3⟩ := x.slot i c1 h1
      refine ⟨v, h2, ?_⟩
      cases c1 with
      | val d => exact h3
      | ownL es =>
        obtain ⟨l', vs, e1, o, e2, e3⟩ := h3
        exact ⟨l', vs, e1, ⟨o.u, o.e0, o.tp, dn _ o.w⟩, e2, e3⟩
      | ownD es =>
        obtain ⟨l', vs, e1, o, e2, e3⟩ := h3
        exact ⟨l', vs, e1, ⟨o.u, o.e0, o.tp, dn _ o.w⟩, e2, e3⟩
    sep := x.sep
    tmp := fun p hp => by
      have h := x.tmp p hp
      match p, h, hp with
      | .v v (.d d), h, _ => exact h
      | .v v (.own j), h, _ => exact h
      | .pin b o w, h, _ => exact h
      | .nw l' es, ⟨o, a1, b1⟩, hp => exact ⟨⟨o.u, o.e0, o.tp, dn _ o.w⟩, a1, b1⟩ }
theorem RU.freezeI (x : RU K e σ H S T U) {a C : Addr} {fs : List (Str × D)} (h : S.W.ω a = some (.ins C fs)) (e0 : e.H a = none) : R K e σ H ⟨S.ρ, S.W.del a⟩ (.v (.ref a) (.d (.obj C fs)) :: T) := by
  obtain ⟨x1, o, ns, nt⟩ := x.del h trivial e0
  obtain ⟨u, dx, vs, e2, e3⟩ := x.wo.cell a _ h
  exact ⟨_, (x1.thaw o ns nt).push (.obj (Hd.get e2 fun z => z.2 rfl) (DvF.le (Same.lq Hd.less) (fun _ z => z) e3))⟩
def insB (C : Addr) (Q : List (Str × D) → Prop) : Option Cell → Prop
  | some (.ins C' fs) => C' = C ∧ Q fs
  | _ => False
theorem insC_inv {C : Addr} {Q : List (Str × D) → Prop} {o : Option Cell} (h : insC C Q o) : ∃ fs, o = some (.ins C fs) ∧ Q fs := by
  cases o with
  | none => exact h.elim
  | some c =>
    cases c with
    | ins C' fs =>
      obtain ⟨z, h2⟩ := h
      subst z
      exact ⟨fs, rfl, h2⟩
    | lst ks => exact h.elim
    | dct ks => exact h.elim
    | lk od vs ks => exact h.elim
/-- C(..), to be changed further -/
def tdMakeR (C : Addr) (F : FSpec) (w : Exn → PSt → Prop) (dds : List D) (t : TDA) : TDE := fun S Q => t S fun rs S1 => frcL rs S1 fun ds S2 => ∀ a : Addr, S2.W.ω a = none → ¬ S2.W.Tp a → CallF F (.ref a :: (ds ++ dds)) ⟨S2.ρ, S2.W.put a (.ins C [])⟩ (fun r S' => r = .d .non ∧ Q (.d (.ref a)) S') (fun x S' => insC C (fun _ => w x ⟨S'.ρ, S'.W.del a⟩) (S'.W.ω a))
/-- C(..), not changed any more -/
def tdMakeF (C : Addr) (F : FSpec) (w : Exn → PSt → Prop) (dds : List D) (t : TDA) : TDE := fun S Q => t S fun rs S1 => frcL rs S1 fun ds S2 => ∀ a : Addr, S2.W.ω a = none → ¬ S2.W.Tp a → CallF F (.ref a :: (ds ++ dds)) ⟨S2.ρ, S2.W.put a (.ins C [])⟩ (fun r S' => r = .d .non ∧ insC C (fun fs => Q (.d (.obj C fs)) ⟨S'.ρ, S'.W.del a⟩) (S'.W.ω a)) (fun x S' => insC C (fun _ => w x ⟨S'.ρ, S'.W.del a⟩) (S'.W.ω a))
def tMakeF (C : Addr) (sp : Sp) (dvs : List V) (E : St → XK) (t : TA) : TE := tMakeX C sp dvs E t
theorem mkF_of {X : Cx} {ex : Expr} {C : Addr} {sp : Sp} {dvs : List V} {E : St → XK} {t : TA} (h : PE X ex (tMakeX C sp dvs E t)) : PE X ex (tMakeF C sp dvs E t) := h
theorem Dv.non_inv {Tp : Addr → Prop} {H : Hp} {v : V} (h : Dv K Tp H v .non) : v = .non := by cases h; rfl
theorem exc_del {Wx : WX} {w : Exn → PSt → Prop} (h2 : WLk K e Wx w) {a C : Addr} {fs : List (Str × D)} {ρ : List (Option PC)} {W' : Wd} {x : Exn} {c : Value} {dd : Option Addr} (hw : W'.ω a = some (.ins C fs)) (e0 : e.H a = none) (q : w x ⟨ρ, W'.del a⟩) (r : RU K e σ H ⟨ρ, W'⟩ T U) (ex : ExOk K U W' H x c dd) : Wx c dd σ H := by
  obtain ⟨x1, _, _, _⟩ := RU.del (S := ⟨ρ, W'⟩) r hw trivial e0
  exact h2.run x ⟨ρ, W'.del a⟩ σ H U c dd q (x1.less fun p hp => by cases hp) ex
instance simMakeX {C : Addr} {F : FSpec} {dvs : List V} {dds : List D} {Wx : WX} {w : Exn → PSt → Prop} {t : TA} {t' : TDA} [h1 : SimA K e t t'] [h2 : WLk K e Wx w] [hd : DvC dvs dds] :
    SimE K e (tMakeX C (lift K F) dvs (WE Wx) t) (tdMakeR C F w dds t') := ⟨fun σ H S T Qd Q x h k => by
  refine h1.run σ H S T _ _ x h fun rs S1 vs H1 hc hl x1 => ?_
  refine R.frcL hl x1 hc fun ds S2 h3 hl2 x2 => ?_
  intro a dx ha hx ne
  obtain ⟨U, x2⟩ := x2
  obtain ⟨w0, tp0, x3⟩ := x2.newI (C := C) ha hx ne
  have e0 := x2.free0 ha
  have xT := x3.less (T' := T) fun p hp => List.mem_append_right _ hp
  refine ⟨_, _, .ref a :: (ds ++ dds), _, _, x3.wo, .cons (.ref a) (DvL.cat (RU.tms hl2 x3) (hd.run K _ _)), h3 a w0 tp0, fun d W' v H' U' q r f dv => ?_, fun x W' c dd H' U' q r f ex => ?_⟩
  · obtain ⟨q0, q⟩ := q
    cases q0
    exact ⟨dv.non_inv, k _ _ _ _ q ⟨U', (xT.to r f).push (.ref a)⟩⟩
  · obtain ⟨fs, hw, q⟩ := insC_inv q
    exact exc_del h2 hw e0 q (xT.to r f) ex⟩
instance simMakeF {C : Addr} {F : FSpec} {dvs : List V} {dds : List D} {Wx : WX} {w : Exn → PSt → Prop} {t : TA} {t' : TDA} [h1 : SimA K e t t'] [h2 : WLk K e Wx w] [hd : DvC dvs dds] :
    SimE K e (tMakeF C (lift K F) dvs (WE Wx) t) (tdMakeF C F w dds t') := ⟨fun σ H S T Qd Q x h k => by
  refine h1.run σ H S T _ _ x h fun rs S1 vs H1 hc hl x1 => ?_
  refine R.frcL hl x1 hc fun ds S2 h3 hl2 x2 => ?_
  intro a dx ha hx ne
  obtain ⟨U, x2⟩ := x2
  obtain ⟨w0, tp0, x3⟩ := x2.newI (C := C) ha hx ne
  have e0 := x2.free0 ha
  have xT := x3.less (T' := T) fun p hp => List.mem_append_right _ hp
  refine ⟨_, _, .ref a :: (ds ++ dds), _, _, x3.wo, .cons (.ref a) (DvL.cat (RU.tms hl2 x3) (hd.run K _ _)), h3 a w0 tp0, fun d W' v H' U' q r f dv => ?_, fun x W' c dd H' U' q r f ex => ?_⟩
  · obtain ⟨q0, q⟩ := q
    cases q0
    obtain ⟨fs, hw, q⟩ := insC_inv q
    exact ⟨dv.non_inv, k _ _ _ _ q (RU.freezeI (S := ⟨S2.ρ, W'⟩) (xT.to r f) hw e0)⟩
  · obtain ⟨fs, hw, q⟩ := insC_inv q
    exact exc_del h2 hw e0 q (xT.to r f) ex⟩
end
section
variable {P : Program} {w : World} {K : PySem.W.Frag} {mg : Str → Option Value} {base : Heap}
def BodyD (P : Program) (w : World) (K : PySem.W.Frag) (mg : Str → Option Value) (base : Heap) (N : List Str) (qual : Str) (st : Stmt) (k : Nat) (Fs : FSpec) : Prop := ∀ (f : Addr) (cdv : Value) (A : Around) (outer : List Env) (s : Shared) (H : Hp) (E : XK) (e : Ent) (ds : List D) (Qd : D → Wd → Prop) (Ed : Exn → Wd → Prop), Room k (A.deeper (PyProof.Rows.envOfC qual (defScope st) s.heap.objs.size f cdv)) → WLk K e (fun c d _ H => E c d H) (fun x S => Ed x S.W) → Fs ds e.W Qd Ed →
      ∃ t td, PSs (cxOf (L2.CX P w) P w K mg base N qual (defScope st) f cdv A outer s H E) (defBody st) t ∧ SimZ K e t td ∧ td ⟨fun S => Qd .non S.W, Qd, fun _ => False, fun _ => False, fun _ _ => False⟩ (S0 N ds e.W)
theorem BodyD.run {N : List Str} {qual : Str} {st : Stmt} {k : Nat} {Fs : FSpec} (hbody : BodyD P w K mg base N qual st k Fs) (f : Addr) (cdv : Value) (A : Around) (outer : List Env) (s : Shared) (H : Hp) (vs : List V) (Q : VK) (E : XK) (hr : Room k (A.deeper (PyProof.Rows.envOfC qual (defScope st) s.heap.objs.size f cdv))) (h : lift K Fs vs H Q E) :
    ∃ t, PSs (cxOf (L2.CX P w) P w K mg base N qual (defScope st) f cdv A outer s H E) (defBody st) t ∧ t { nx := fun _ H' => Q .non H', rt := Q } (start N vs) H := by
  obtain ⟨U, W, ds, Qd, Ed, r, dv, hF, kq, ke⟩ := h
  obtain ⟨t, td, hp, hs, ht⟩ := hbody f cdv A outer s H E ⟨U, W, H⟩ ds Qd Ed hr ⟨fun x S σ H' U' c d hw ru ex => ke x S.W c d H' U' hw ru.wo ru.fr ex⟩ hF
  refine ⟨t, hp, hs.run (start N vs) H (S0 N ds W) _ _ ⟨U, RU.start r dv⟩ ht ⟨fun S' σ' H' q ⟨U', x'⟩ => ?_, fun d S' σ' v H' q ⟨U', x'⟩ => ?_, fun _ _ _ q => q.elim, fun _ _ _ q => q.elim, fun _ _ _ _ _ q => q.elim⟩⟩
  · exact kq _ _ _ _ U' q x'.wo x'.fr .non
  · exact kq _ _ _ _ U' q x'.wo x'.fr (x'.tmp (.v v (.d d)) (by simp))
theorem lift_len {Fs : FSpec} {ps : List Str} (hl : ∀ ds W Q E, Fs ds W Q E → ds.length = ps.length) (vs : List V) (H : Hp) (Q : VK) (E : XK) (h : lift K Fs vs H Q E) : vs.length = ps.length := by
  obtain ⟨U, W, ds, Qd, Ed, r, dv, hF, _⟩ := h
  rw [dv.len]; exact hl _ _ _ _ hF
theorem Mz.okD {C : Addr} {m qual : Str} {st : Stmt} {ps N : List Str} {dvs : List V} {k : Nat} {Fs : FSpec} (F : Mz K C m qual st ps dvs) (S : FnScope N ps (defScope st)) (hl : ∀ ds W Q E, Fs ds W Q E → ds.length = ps.length) (hbody : BodyD P w K mg base N qual st k Fs) : Mx P w K mg base C m (k + 1) ps dvs (lift K Fs) := F.okX S (lift_len hl) hbody.run
theorem Kz.okD {C : Addr} {qual : Str} {st : Stmt} {ps N : List Str} {dvs : List V} {k : Nat} {Fs : FSpec} (F : Kz K C qual st ps dvs) (S : FnScope N ps (defScope st)) (hl : ∀ ds W Q E, Fs ds W Q E → ds.length = ps.length) (hbody : BodyD P w K mg base N qual st k Fs) : Kx P w K mg base C (k + 1) ps dvs (lift K Fs) := F.okX S (lift_len hl) hbody.run
theorem Pz.okD {C : Addr} {m qual : Str} {st : Stmt} {ps N : List Str} {k : Nat} {Fs : FSpec} (F : Pz K C m qual st ps) (S : FnScope N ps (defScope st)) (hl : ∀ ds W Q E, Fs ds W Q E → ds.length = ps.length) (hbody : BodyD P w K mg base N qual st k Fs) : Pp P w K mg base C m (k + 1) ps (lift K Fs) := F.okX S (lift_len hl) hbody.run
end
end Kn

set_option Elab.async false
set_option maxRecDepth 100000
set_option linter.all false
set_option autoImplicit false
namespace Kn
open PySem L2
/-! ### x is True, x is not True -/
def rIsB : R2 := fun x y H Q => ∃ a b, x = .bl a ∧ y = .bl b ∧ Q (.bl (a == b)) H
def rNotB : R2 := fun x y H Q => ∃ a b, x = .bl a ∧ y = .bl b ∧ Q (.bl (!(a == b))) H
theorem op_isBU {X : Cx} : OpR X (compareOp .Is) rIsB := by
  intro pins s σ H x y v u Q I rx ry h
  obtain ⟨a, b, rfl, rfl, q⟩ := h
  cases rx
  cases ry
  exact wpAny_is_plain rfl (fin_bl I q (by cases a <;> cases b <;> rfl))
theorem op_notBU {X : Cx} : OpR X (compareOp .IsNot) rNotB := by
  intro pins s σ H x y v u Q I rx ry h
  obtain ⟨a, b, rfl, rfl, q⟩ := h
  cases rx
  cases ry
  exact wpAny_isNot_plain rfl (fin_bl I q (by cases a <;> cases b <;> rfl))
section
variable {K : PySem.W.Frag} {e : Ent}
def isBF (neg : Bool) (Q : D → Prop) : D → D → Prop
  | .bl a, .bl b => Q (.bl (if neg then !(a == b) else a == b))
  | _, _ => False
def isBD (neg : Bool) (S : PSt) (rx ry : Rv) (Q : D → PSt → Prop) : Prop := dd2 S rx ry (isBF neg fun d => Q d S)
theorem isBF_inv {neg : Bool} {Q : D → Prop} {x y : D} (h : isBF neg Q x y) : ∃ a b, x = .bl a ∧ y = .bl b ∧ Q (.bl (if neg then !(a == b) else a == b)) := by
  cases x with
  | bl a =>
    cases y with
    | bl b => exact ⟨a, b, rfl, rfl, h⟩
    | _ => exact h.elim
  | _ => exact h.elim
instance simIsB : SimO K e rIsB (isBD false) := ⟨fun σ H S T x y rx ry Qd Q w h k => by
  obtain ⟨a, b, ha, hb, h⟩ := dd2_inv h
  obtain ⟨p, q, rfl, rfl, h2⟩ := isBF_inv h
  obtain ⟨U, wT, vx, vy, w2⟩ := w.two ha hb
  exact ⟨p, q, Vw.bl vx, Vw.bl vy, k _ _ _ _ h2 ⟨U, wT.push (.bl _)⟩⟩⟩
instance simNotB : SimO K e rNotB (isBD true) := ⟨fun σ H S T x y rx ry Qd Q w h k => by
  obtain ⟨a, b, ha, hb, h⟩ := dd2_inv h
  obtain ⟨p, q, rfl, rfl, h2⟩ := isBF_inv h
  obtain ⟨U, wT, vx, vy, w2⟩ := w.two ha hb
  exact ⟨p, q, Vw.bl vx, Vw.bl vy, k _ _ _ _ h2 ⟨U, wT.push (.bl _)⟩⟩⟩
end
end Kn

set_option Elab.async false
set_option maxRecDepth 100000
set_option linter.all false
set_option autoImplicit false
namespace Kn
open PySem L2
section
variable {K : PySem.W.Frag} {e : Ent}
/-! ### raise of a class with fields -/
theorem DvF.app {Tp : Addr → Prop} {H : Hp} : ∀ {a b : List (Str × V)} {c d : List (Str × D)}, DvF K Tp H a c → DvF K Tp H b d → DvF K Tp H (a ++ b) (c ++ d)
  | _, _, _, _, .nil, h => h
  | _, _, _, _, .cons h t, g => .cons h (DvF.app t g)
theorem DvF.zipR {Tp : Addr → Prop} {H : Hp} : ∀ {fs : List Str} {vs : List V} {ds : List D}, DvL K Tp H vs ds → DvF K Tp H (fs.zip vs).reverse (fs.zip ds).reverse
  | [], _, _, _ => .nil
  | _ :: _, _, _, .nil => .nil
  | f :: fs, _, _, .cons h t => by
    rw [List.zip_cons_cons, List.zip_cons_cons, List.reverse_cons, List.reverse_cons]
    exact DvF.app (DvF.zipR t) (.cons h .nil)
theorem ps_raiseF {X : Cx} {W : WX} {t : St → Hp → XK → Prop} {ex : Expr} {pos : Pos} (hc : X.calm = true) (tk : Takes X W) (he : PMk X ex t) : PS X (.Raise (some ex) none pos) (tRaise t W) := ps_raise hc tk he
def okDm (m : Bool) (ds : List D) : Prop := m = true → ∃ y, ds = [.str y] ∧ y.length ≤ 1000
def tdRaiseS (C : Addr) (fs : List Str) (m : Bool) (w : Exn → PSt → Prop) (t : TDA) : TDS := fun _ S => t S fun rs S1 => frcL rs S1 fun ds S2 => fs ≠ [] ∧ ds.length = fs.length ∧ okDm m ds ∧ w ⟨C, (fs.zip ds).reverse⟩ S2
instance simRaiseS {C : Addr} {fs : List Str} {m : Bool} {Wx : WX} {w : Exn → PSt → Prop} {t : TA} {t' : TDA} [h1 : SimA K e t t'] [h : WLk K e Wx w] : SimS K e (tRaise (tMkS C fs m t) Wx) (tdRaiseS C fs m w t') := ⟨fun σ H S T Ed E hT x q k => by
  refine h1.run σ H S T _ _ x q fun rs S1 vs H1 hc hl x1 => ?_
  refine R.frcL hl x1 hc fun ds S2 ⟨nf, ld, ok, hw⟩ hl2 ⟨U, x2⟩ => ?_
  have dv := RU.tms hl2 x2
  refine ⟨by rw [hl2, ld], fun hm => ?_, fun d hd => ?_⟩
  · obtain ⟨y, rfl, hy⟩ := ok hm
    cases dv with
    | cons a b => cases b; cases a; exact ⟨y, rfl, hy⟩
  · have x3 := (x2.less (T' := []) fun p hp => by cases hp).alloc (o := .xd (fs.zip vs).reverse) hd
    refine h.run ⟨C, (fs.zip ds).reverse⟩ S2 σ _ U _ _ hw x3 ⟨rfl, .inr ⟨fun z => ?_, d, _, rfl, x2.fresh hd, upd_same, DvF.le (Same.lq (same_upd hd)) (fun _ z => z) (DvF.zipR dv)⟩⟩
    have z : (fs.zip ds).reverse = [] := z
    rw [List.reverse_eq_nil_iff] at z
    match fs, ds, nf, ld, z with
    | f :: fs, d :: ds, _, _, z => cases z⟩
/-! ### try -/
def PSt.unset (S : PSt) (i : Nat) : PSt := ⟨S.ρ.set i none, S.W⟩
theorem RU.unset {σ : St} {H : Hp} {S : PSt} {T : List Tm} {U : Addr → Prop} (x : RU K e σ H S T U) (hT : NoOwn T) (i : Nat) : RU K e (σ.set i none) H (S.unset i) T U :=
  x.slots (by simp [x.len]) (fun j c hj => by
    rw [List.getElem?_set] at hj ⊢
    by_cases q : i = j
    · rw [if_pos q] at hj
      split at hj
      · cases hj
      · cases hj
    · rw [if_neg q] at hj ⊢
      exact ⟨hj, rfl⟩) hT
def DEnds.un (i : Nat) (E : DEnds) : DEnds := { E with nx := fun S => E.nx (S.unset i), bk := fun S => E.bk (S.unset i), ct := fun S => E.ct (S.unset i) }
/-- an exception meets a clause -/
def exB (K : PySem.W.Frag) (c : Value) (x : Exn) (Y N : Prop) : Prop := ∃ b, PySem.W.exmOne K (.ref x.cls) c = some b ∧ (b = true → Y) ∧ (b = false → N)
def tTryAs (K : PySem.W.Frag) (c : Value) (i : Nat) (tb : WX → TS) (ts : Addr → Value → Option Addr → TS) (Wout : WX) : TS := fun D σ H => tb (wAs K c i ts Wout D) D σ H
theorem tryAs_of {X : Cx} {st : Stmt} {c : Value} {i : Nat} {tb : WX → TS} {ts : Addr → Value → Option Addr → TS} {Wout : WX} (K : PySem.W.Frag) (h : PS X st (fun D σ H => tb (wAs X.K c i ts Wout D) D σ H)) (hK : X.K = K := by rfl) : PS X st (tTryAs K c i tb ts Wout) := by subst hK; exact h
def tdTryAs (K : PySem.W.Frag) (c : Value) (i : Nat) (tb : (Exn → PSt → Prop) → TDS) (ts : Addr → Value → Option Addr → TDS) (wo : Exn → PSt → Prop) : TDS := fun E S =>
  tb (fun x S' => exB K c x (∀ a d, ts a (.ref x.cls) d (E.un i) (S'.set i (.val (.exc a x.cls d x.fs)))) (wo x S')) E S
theorem ExOk.dv {U : Addr → Prop} {W : Wd} {H : Hp} {x : Exn} {c : Value} {d : Option Addr} (h : ExOk K U W H x c d) (a : Addr) : c = .ref x.cls ∧ Dv K W.Tp (Hd U H) (.ref a) (.exc a x.cls d x.fs) := by
  obtain ⟨h1, ⟨h2, h3⟩ | ⟨_, b, vs, rfl, nu, hb, t⟩⟩ := h
  · rw [h2, h3]; exact ⟨h1, .exc0 a x.cls⟩
  · exact ⟨h1, .exc1 (Hd.get hb nu) t⟩
/-- a wish and what it is over data -/
def TagW {K : PySem.W.Frag} {e : Ent} {W : WX} {w : Exn → PSt → Prop} (_ : WLk K e W w) : WX := W
instance tagW {W : WX} {w : Exn → PSt → Prop} {h : WLk K e W w} : WLk K e (TagW h) w := h
instance simTryAs {c : Value} {i : Nat} {tb : WX → TS} {ts : Addr → Value → Option Addr → TS} {Wout : WX} {tb' : (Exn → PSt → Prop) → TDS} {ts' : Addr → Value → Option Addr → TDS} {wo : Exn → PSt → Prop}
    [h1 : ∀ (W : WX) (w : Exn → PSt → Prop) (h : WLk K e W w), SimZ K e (tb (TagW h)) (tb' w)] [h2 : ∀ a cls d, SimZ K e (ts a cls d) (ts' a cls d)] [h3 : WLk K e Wout wo] : SimZ K e (tTryAs K c i tb ts Wout) (tdTryAs K c i tb' ts' wo) := ⟨fun σ H S Ed E x h k => by
  have lk : WLk K e (wAs K c i ts Wout E) (fun x S' => exB K c x (∀ a d, ts' a (.ref x.cls) d (Ed.un i) (S'.set i (.val (.exc a x.cls d x.fs)))) (wo x S')) := ⟨fun x S σ H U cv d hw ru ex => by
    obtain ⟨b, hb, hy, hn⟩ := hw
    have ec := (ex.dv 0).1
    subst ec
    refine ⟨b, hb, fun z a ha => ?_, fun z => h3.run x S σ H U _ d (hn z) ru ex⟩
    refine (h2 a (.ref x.cls) d).run _ H _ (Ed.un i) _ ⟨U, ru.setVal (i := i) (ex.dv a).2 (fun p hp => by cases hp)⟩ (hy z a d) ⟨?_, ?_, ?_, ?_, ?_⟩
    · rintro S' σ' H' q ⟨U', x'⟩; exact k.nx _ _ _ q ⟨U', x'.unset noOwn0 i⟩
    · exact k.rt
    · rintro S' σ' H' q ⟨U', x'⟩; exact k.bk _ _ _ q ⟨U', x'.unset noOwn0 i⟩
    · rintro S' σ' H' q ⟨U', x'⟩; exact k.ct _ _ _ q ⟨U', x'.unset noOwn0 i⟩
    · exact k.rn⟩
  exact (h1 _ _ lk).run σ H S Ed E x h k⟩
/-- several clauses, without a name -/
def tTryN (K : PySem.W.Frag) (l : List (Value × (Addr → Value → Option Addr → TS))) (tb : WX → TS) (Wout : WX) : TS := fun D σ H => tb (wMany K Wout D l) D σ H
theorem tryN_of {X : Cx} {st : Stmt} {l : List (Value × (Addr → Value → Option Addr → TS))} {tb : WX → TS} {Wout : WX} (K : PySem.W.Frag) (h : PS X st (fun D σ H => tb (wMany X.K Wout D l) D σ H)) (hK : X.K = K := by rfl) : PS X st (tTryN K l tb Wout) := by subst hK; exact h
/-- the clauses, over data -/
class SimCl (K : PySem.W.Frag) (e : Ent) (l : List (Value × (Addr → Value → Option Addr → TS))) (t : outParam (List (Value × (Addr → Value → Option Addr → TDS)))) : Prop where
  run : ∀ (Ed : DEnds) (E : Ends) (Wout : WX) (wo : Exn → PSt → Prop), Lnk K e [] Ed E → WLk K e Wout wo → WLk K e (wMany K Wout E l) (t.foldr (fun p w x S' => exB K p.1 x (∀ a d, p.2 a (.ref x.cls) d Ed S') (w x S')) wo)
instance simClNil : SimCl K e [] [] := ⟨fun Ed E Wout wo k h => h⟩
instance simClCons {c : Value} {ts : Addr → Value → Option Addr → TS} {l : List (Value × (Addr → Value → Option Addr → TS))} {ts' : Addr → Value → Option Addr → TDS} {l' : List (Value × (Addr → Value → Option Addr → TDS))} [h1 : ∀ a cls d, SimZ K e (ts a cls d) (ts' a cls d)] [h2 : SimCl K e l l'] : SimCl K e ((c, ts) :: l) ((c, ts') :: l') := ⟨fun Ed E Wout wo k h => ⟨fun x S σ H U cv d hw ru ex => by
  obtain ⟨b, hb, hy, hn⟩ := hw
  have ec := (ex.dv 0).1
  subst ec
  exact ⟨b, hb, fun z a ha => (h1 a (.ref x.cls) d).run σ H S Ed E ⟨U, ru⟩ (hy z a d) k, fun z => (h2.run Ed E Wout wo k h).run x S σ H U _ d (hn z) ru ex⟩⟩⟩
def tdTryN (K : PySem.W.Frag) (l : List (Value × (Addr → Value → Option Addr → TDS))) (tb : (Exn → PSt → Prop) → TDS) (wo : Exn → PSt → Prop) : TDS := fun E S =>
  tb (l.foldr (fun p w x S' => exB K p.1 x (∀ a d, p.2 a (.ref x.cls) d E S') (w x S')) wo) E S
instance simTryN {l : List (Value × (Addr → Value → Option Addr → TS))} {tb : WX → TS} {Wout : WX} {tb' : (Exn → PSt → Prop) → TDS} {l' : List (Value × (Addr → Value → Option Addr → TDS))} {wo : Exn → PSt → Prop}
    [h1 : ∀ (W : WX) (w : Exn → PSt → Prop) (h : WLk K e W w), SimZ K e (tb (TagW h)) (tb' w)] [h2 : SimCl K e l l'] [h3 : WLk K e Wout wo] : SimZ K e (tTryN K l tb Wout) (tdTryN K l' tb' wo) := ⟨fun σ H S Ed E x h k => by
  have lk := h2.run Ed E Wout wo k h3
  exact (h1 _ _ lk).run σ H S Ed E x h k⟩
theorem z_seq {t u : TS} {t' u' : TDS} (h1 : SimZ K e t t') (h2 : SimZ K e u u') : SimZ K e (tSeq t u) (tdSeq t' u') := simZSeq
theorem z_if {c : TT} {t u : TS} {c' : TDT} {t' u' : TDS} (h0 : SimT K e c c') (h1 : SimZ K e t t') (h2 : SimZ K e u u') : SimZ K e (tIfS c t u) (tdIfS c' t' u') := simZIf
theorem z_while {c : TT} {tb : TS} {c' : TDT} {tb' : TDS} (h1 : SimT K e c c') (h2 : SimZ K e tb tb') : SimZ K e (tWhile c tb) (tdWhile c' tb') := simZWhile
theorem z_for {wi : TI} {g : TG} {tb : TS} {wi' : TDI} {g' : TDG} {tb' : TDS} (h1 : SimI0 K e wi wi') (h2 : SimG K e g g') (h3 : SimZ K e tb tb') : SimZ K e (tFor wi g tb) (tdFor wi' g' tb') := simZFor
theorem z_try {c : Value} {i : Nat} {tb : WX → TS} {ts : Addr → Value → Option Addr → TS} {Wout : WX} {tb' : (Exn → PSt → Prop) → TDS} {ts' : Addr → Value → Option Addr → TDS} {wo : Exn → PSt → Prop}
    (h1 : ∀ (W : WX) (w : Exn → PSt → Prop) (h : WLk K e W w), SimZ K e (tb (TagW h)) (tb' w)) (h2 : ∀ a cls d, SimZ K e (ts a cls d) (ts' a cls d)) (h3 : WLk K e Wout wo) : SimZ K e (tTryAs K c i tb ts Wout) (tdTryAs K c i tb' ts' wo) := simTryAs
theorem z_tryN {l : List (Value × (Addr → Value → Option Addr → TS))} {tb : WX → TS} {Wout : WX} {tb' : (Exn → PSt → Prop) → TDS} {l' : List (Value × (Addr → Value → Option Addr → TDS))} {wo : Exn → PSt → Prop}
    (h1 : ∀ (W : WX) (w : Exn → PSt → Prop) (h : WLk K e W w), SimZ K e (tb (TagW h)) (tb' w)) (h2 : SimCl K e l l') (h3 : WLk K e Wout wo) : SimZ K e (tTryN K l tb Wout) (tdTryN K l' tb' wo) := simTryN
theorem z_cl {c : Value} {ts : Addr → Value → Option Addr → TS} {l : List (Value × (Addr → Value → Option Addr → TS))} {ts' : Addr → Value → Option Addr → TDS} {l' : List (Value × (Addr → Value → Option Addr → TDS))} (h1 : ∀ a cls d, SimZ K e (ts a cls d) (ts' a cls d)) (h2 : SimCl K e l l') : SimCl K e ((c, ts) :: l) ((c, ts') :: l') := simClCons
theorem zBox {t : TS} {td : TDS} {Ed : DEnds} {S : PSt} (h : SimZ K e t td) (k : td Ed S) : ∃ td, SimZ K e t td ∧ td Ed S := ⟨td, h, k⟩
theorem zEx {X : Cx} {b : List Stmt} {t : TS} {Ed : DEnds} {S : PSt} (hp : PSs X b t) (h : ∃ td, SimZ K e t td ∧ td Ed S) : ∃ t td, PSs X b t ∧ SimZ K e t td ∧ td Ed S := let ⟨td, a, c⟩ := h; ⟨t, td, hp, a, c⟩
/-! ### in a suite -/
def excF (a : Addr) (cls : Value) (d : Option Addr) (F : Addr → List (Str × D) → Prop) : Rv → Prop
  | .d (.exc a' C d' fs) => a' = a ∧ d' = d ∧ cls = .ref C ∧ F C fs
  | _ => False
theorem excF_inv {a : Addr} {cls : Value} {d : Option Addr} {F : Addr → List (Str × D) → Prop} {r : Rv} (h : excF a cls d F r) : ∃ C fs, r = .d (.exc a C d fs) ∧ cls = .ref C ∧ F C fs := by
  cases r with
  | own j => exact h.elim
  | d z =>
    cases z with
    | exc a' C d' fs => obtain ⟨rfl, rfl, h1, h2⟩ := h; exact ⟨C, fs, rfl, h1, h2⟩
    | _ => exact h.elim
/-- e.f -/
def tdXf (a : Addr) (cls : Value) (d : Option Addr) (C : Addr) (f : Str) (t : TDE) : TDE := fun S Q => t S fun r S1 => excF a cls d (fun C' fs => C' = C ∧ opt (look fs f) fun v => Q (.d v) S1) r
instance simXf {a C : Addr} {cls : Value} {d : Option Addr} {f : Str} {te : TE} {t : TDE} [h1 : SimE K e te t] : SimE K e (tXf a cls d C f te) (tdXf a cls d C f t) := ⟨fun σ H S T Qd Q x h k => by
  refine h1.run σ H S T _ _ x h fun r S1 v H1 hr x1 => ?_
  obtain ⟨C', fs, e1, e2, e3, q1⟩ := excF_inv hr
  subst e1 e2 e3
  obtain ⟨y, hy, q2⟩ := opt_inv q1
  obtain ⟨U, x3, dv, x4⟩ := R.frz x1
  cases dv with
  | exc0 _ _ => cases hy
  | exc1 hb tb =>
    obtain ⟨y', l1, l2⟩ := DvF.look_some tb hy
    exact ⟨rfl, rfl, _, _, y', rfl, Hd.sub _ _ hb, l1, k (.d y) _ _ _ q2 ⟨U, x3.push (p := .v y' (.d y)) l2⟩⟩⟩
/-- isinstance(e, C) -/
def clsV (F : Value → Prop) : Rv → Prop
  | .d (.ref A) => F (.ref A)
  | .d (.ty n) => F (.type n)
  | _ => False
def isYD (K : PySem.W.Frag) (cls : Value) (d : Option Addr) (a : Addr) (S : PSt) (rs : List Rv) (Q : D → PSt → Prop) : Prop := arg2 rs fun r q => excF a cls d (fun C fs => clsV (fun cv => ExcC K C ∧ ∃ b, PySem.W.kitOne K (.ref C) cv = some b ∧ Q (.bl b) S) q) r
instance simIsY {cls : Value} {d : Option Addr} {a : Addr} : SimC K e (rIsY K cls d a) (isYD K cls d a) := ⟨fun σ H S T vs rs Qd Q hl x h k => by
  obtain ⟨r, q, e0, h0⟩ := arg2_inv h
  subst e0
  obtain ⟨v, u, rfl⟩ := len2 hl
  obtain ⟨C, fs, e1, e2, h2⟩ := excF_inv h0
  subst e1 e2
  obtain ⟨U, x⟩ := x
  have d1 : Dv K S.W.Tp (Hd U H) v (.exc a C d fs) := x.tmp (.v v (.d (.exc a C d fs))) (by simp [tms])
  have xT := x.less (T' := T) fun p hp => by simp [tms]; exact .inr (.inr hp)
  have hd : d = none ∨ ∃ dd fs, d = some dd ∧ H dd = some (.xd fs) := by
    cases d1 with
    | exc0 _ _ => exact .inl rfl
    | exc1 hb tb => exact .inr ⟨_, _, rfl, Hd.sub _ _ hb⟩
  have ev : v = .ref a := by cases d1 <;> rfl
  subst ev
  match q, h2, x with
  | .d (.ref A), ⟨he, b, hb, hq⟩, x =>
    have d2 : Dv K S.W.Tp (Hd U H) u (.ref A) := x.tmp (.v u (.d (.ref A))) (by simp [tms])
    cases d2
    exact ⟨C, _, _, b, rfl, hd, he, rfl, fun w hw => hw, hb, k _ _ _ _ hq ⟨U, xT.push (.bl b)⟩⟩
  | .d (.ty n), ⟨he, b, hb, hq⟩, x =>
    have d2 : Dv K S.W.Tp (Hd U H) u (.ty n) := x.tmp (.v u (.d (.ty n))) (by simp [tms])
    cases d2
    exact ⟨C, _, _, b, rfl, hd, he, rfl, fun w hw => hw, hb, k _ _ _ _ hq ⟨U, xT.push (.bl b)⟩⟩⟩
end
end Kn

set_option Elab.async false
set_option maxRecDepth 100000
set_option linter.all false
set_option autoImplicit false
namespace Kn
open PySem L2
section
variable {K : PySem.W.Frag} {e : Ent}
/-! ### texts: join, split, partition, f-strings -/
def strsD : List D → Option (List Str)
  | [] => some []
  | .str x :: ds => (strsD ds).map (x :: ·)
  | _ => none
theorem strsD_inv {Tp : Addr → Prop} {H : Hp} : ∀ {vs : List V} {ds : List D} {ys : List Str}, DvL K Tp H vs ds → strsD ds = some ys → vs = ys.map V.str
  | _, _, _, .nil, h => by cases h; rfl
  | _, d :: ds, ys, .cons hv t, h => by
    cases d with
    | str x =>
      cases hv
      rw [strsD, Option.map_eq_some_iff] at h
      obtain ⟨zs, h1, rfl⟩ := h
      rw [strsD_inv t h1]; rfl
    | _ => cases h
theorem strsD_map : ∀ ys : List Str, strsD (ys.map D.str) = some ys
  | [] => rfl
  | y :: ys => by rw [List.map_cons, strsD, strsD_map ys]; rfl
theorem strsD_mapF {α : Type} (f : α → Str) (xs : List α) : strsD (xs.map fun x => D.str (f x)) = some (xs.map f) := by
  have := strsD_map (xs.map f)
  rwa [List.map_map] at this
def asS : Rv → (Str → Prop) → Prop
  | .d (.str x), F => F x
  | _, _ => False
theorem asS_inv {r : Rv} {F : Str → Prop} (h : asS r F) : ∃ x, r = .d (.str x) ∧ F x := by
  cases r with
  | own j => exact h.elim
  | d z => cases z with
    | str x => exact ⟨x, rfl, h⟩
    | _ => exact h.elim
def joinF (a : Str) (Q : Str → Prop) : D → Prop
  | .lst ds => opt (strsD ds) fun ys => (ys.map (·.length)).sum + ys.length * a.length ≤ 16777216 ∧ Q (Txt.join a ys)
  | .tup ds => opt (strsD ds) fun ys => (ys.map (·.length)).sum + ys.length * a.length ≤ 16777216 ∧ Q (Txt.join a ys)
  | _ => False
def tdJoin (to : TDE) (t : TDA) : TDE := fun S Q => to S fun rx S1 => asS rx fun a => t S1 fun rs S2 => arg1 rs fun r => dd1 S2 r (joinF a fun y => Q (.d (.str y)) S2)
theorem R.strV {σ : St} {H : Hp} {S : PSt} {T : List Tm} {v : V} {x : Str} (h : R K e σ H S (.v v (.d (.str x)) :: T)) : v = .str x := by
  obtain ⟨U, h⟩ := h
  have : Dv K S.W.Tp (Hd U H) v (.str x) := h.tmp (.v v (.d (.str x))) (by simp)
  cases this; rfl
instance simJoin {to : TE} {t : TA} {to' : TDE} {t' : TDA} [h1 : SimE K e to to'] [h2 : SimA K e t t'] : SimE K e (tBM K "str" (rJoin K) to t) (tdJoin to' t') := ⟨fun σ H S T Qd Q x h k => by
  refine h1.run σ H S T _ _ x h fun rx S1 v H1 hr x1 => ?_
  obtain ⟨a, rfl, hr⟩ := asS_inv hr
  obtain rfl := x1.strV
  refine ⟨rfl, h2.run σ H1 S1 _ _ _ x1 hr fun rs S2 vs H2 hr hl x2 => ?_⟩
  obtain ⟨r, rfl, hr⟩ := arg1_inv hr
  obtain ⟨y, rfl⟩ := len1 hl
  obtain ⟨d, hd, hr⟩ := dd1_inv hr
  obtain ⟨U, wT, vw, _⟩ := R.one x2 hd
  have wT := wT.less (T' := T) fun p hp => List.mem_cons_of_mem _ hp
  match d, hr, vw with
  | .lst ds, hr, ⟨p, xs, e1, g1, g2⟩ =>
    obtain ⟨ys, hy, hz, hq⟩ := opt_inv hr
    subst e1
    rw [strsD_inv g2 hy] at g1
    exact ⟨a, p, ys, rfl, rfl, .inl (SqL.of g1), hz, k _ _ _ _ hq ⟨U, wT.push (.str _)⟩⟩
  | .tup ds, hr, ⟨p, xs, e1, g1, g2⟩ =>
    obtain ⟨ys, hy, hz, hq⟩ := opt_inv hr
    subst e1
    rw [strsD_inv g2 hy] at g1
    exact ⟨a, p, ys, rfl, rfl, .inr (SqT.same Hd.sub g1), hz, k _ _ _ _ hq ⟨U, wT.push (.str _)⟩⟩⟩
def rSplit : V → List V → Hp → VK → Prop := fun x xs H Q => ∃ a b, x = .str a ∧ xs = [.str b] ∧ (b.length == 0) = false ∧ a.length + 2 ≤ sizeLine ∧ rNewStrs (Txt.split a b) H Q
theorem mt_splitU {X : Cx} : MtR X "str.split" rSplit := mt_split
def tnSplit (to : TDE) (t : TDA) : TDN := fun S Q => to S fun rx S1 => asS rx fun a => t S1 fun rs S2 => arg1 rs fun r => asS r fun b => (b.length == 0) = false ∧ a.length ≤ 1000000 ∧ Q ((Txt.split a b).map D.str) S2
instance simSplit {to : TE} {t : TA} {to' : TDE} {t' : TDA} [h1 : SimE K e to to'] [h2 : SimA K e t t'] : SimN K e (tBM K "str" rSplit to t) (tnSplit to' t') := ⟨fun σ H S T Qd Q x h k => by
  refine h1.run σ H S T _ _ x h fun rx S1 v H1 hr x1 => ?_
  obtain ⟨a, rfl, hr⟩ := asS_inv hr
  obtain rfl := x1.strV
  refine ⟨rfl, h2.run σ H1 S1 _ _ _ x1 hr fun rs S2 vs H2 hr hl x2 => ?_⟩
  obtain ⟨r, rfl, hr⟩ := arg1_inv hr
  obtain ⟨y, rfl⟩ := len1 hl
  obtain ⟨b, rfl, h1, h2, hq⟩ := asS_inv hr
  obtain rfl := R.strV (T := .v (.str a) (.d (.str a)) :: T) x2
  obtain ⟨U, x2⟩ := x2
  have wT := x2.less (T' := T) fun p hp => by simp [tms]; exact .inr (.inr hp)
  refine ⟨a, b, rfl, rfl, h1, by rw [sizeLine_eq]; omega, fun p hp => k _ _ _ _ hq (wT.newL hp (DvL.strs _))⟩⟩
def rPart : V → List V → Hp → VK → Prop := fun x xs H Q => ∃ a b, x = .str a ∧ xs = [.str b] ∧ (b.length == 0) = false ∧ a.length ≤ sizeLine ∧ ∀ p, H p = none → Q (.ref p) (upd H p (.tup [.str (Txt.partition a b).1, .str (Txt.partition a b).2.1, .str (Txt.partition a b).2.2]))
theorem mt_partU {X : Cx} : MtR X "str.partition" rPart := mt_partition
def tdPartn (to : TDE) (t : TDA) : TDE := fun S Q => to S fun rx S1 => asS rx fun a => t S1 fun rs S2 => arg1 rs fun r => asS r fun b => (b.length == 0) = false ∧ a.length ≤ 1000000 ∧ Q (.d (.tup [.str (Txt.partition a b).1, .str (Txt.partition a b).2.1, .str (Txt.partition a b).2.2])) S2
instance simPartn {to : TE} {t : TA} {to' : TDE} {t' : TDA} [h1 : SimE K e to to'] [h2 : SimA K e t t'] : SimE K e (tBM K "str" rPart to t) (tdPartn to' t') := ⟨fun σ H S T Qd Q x h k => by
  refine h1.run σ H S T _ _ x h fun rx S1 v H1 hr x1 => ?_
  obtain ⟨a, rfl, hr⟩ := asS_inv hr
  obtain rfl := x1.strV
  refine ⟨rfl, h2.run σ H1 S1 _ _ _ x1 hr fun rs S2 vs H2 hr hl x2 => ?_⟩
  obtain ⟨r, rfl, hr⟩ := arg1_inv hr
  obtain ⟨y, rfl⟩ := len1 hl
  obtain ⟨b, rfl, h1, h2, hq⟩ := asS_inv hr
  obtain rfl := R.strV (T := .v (.str a) (.d (.str a)) :: T) x2
  obtain ⟨U, x2⟩ := x2
  have wT := x2.less (T' := T) fun p hp => by simp [tms]; exact .inr (.inr hp)
  refine ⟨a, b, rfl, rfl, h1, by rw [sizeLine_eq]; omega, fun p hp => k _ _ _ _ hq ⟨U, (wT.alloc hp).push (.tup (.inl (.inl (Hd.get upd_same (wT.fresh hp)))) (.cons (.str _) (.cons (.str _) (.cons (.str _) .nil))))⟩⟩⟩
/-! ### f-strings -/
def fmtF (Q : Str → Prop) : D → Prop
  | .str y => y.length ≤ 1000000 ∧ Q y
  | .int i => i.natAbs < 2 ^ 1000 ∧ Q (toString i)
  | _ => False
def tdFmt (te : TDE) : TDE := fun S Q => te S fun r S1 => dd1 S1 r (fmtF fun y => Q (.d (.str y)) S1)
instance simFmt {te : TE} {t : TDE} [h1 : SimE K e te t] : SimE K e (tFmt te) (tdFmt t) := ⟨fun σ H S T Qd Q x h k => by
  refine h1.run σ H S T _ _ x h fun r S1 v H1 hr x1 => ?_
  obtain ⟨d, hd, hr⟩ := dd1_inv hr
  obtain ⟨U, wT, vw, _⟩ := R.one (T := T) x1 hd
  match d, hr, vw with
  | .str y, hr, vw => rw [vw.str]; exact .inl ⟨y, rfl, big_of hr.1, k _ _ _ _ hr.2 ⟨U, wT.push (.str _)⟩⟩
  | .int i, hr, vw =>
    rw [vw.int]
    refine .inr ⟨i, rfl, ?_, k _ _ _ _ hr.2 ⟨U, wT.push (.str _)⟩⟩
    by_cases c : i.natAbs = 0
    · rw [c]; decide
    · exact Nat.lt_trans ((Nat.log2_lt c).mpr hr.1) (by decide)⟩
class SimJ (K : PySem.W.Frag) (e : Ent) (ts : List TE) (t : outParam (List TDE)) : Prop where
  run : ∀ (acc : Str) (σ : St) (H : Hp) (S : PSt) (T : List Tm) (Qd : Str → PSt → Prop) (Q : Str → Hp → Prop), R K e σ H S T → (t.foldr (fun te k (acc : Str) S => te S fun r S1 => asS r fun y => (acc ++ y).length ≤ 1000000 ∧ k (acc ++ y) S1) Qd) acc S → (∀ o S' H', Qd o S' → R K e σ H' S' T → Q o H') → tJs ts acc σ H Q
instance simJNil : SimJ K e [] [] := ⟨fun acc σ H S T Qd Q x h k => k _ _ _ h x⟩
instance simJCons {te : TE} {ts : List TE} {te' : TDE} {ts' : List TDE} [h1 : SimE K e te te'] [h2 : SimJ K e ts ts'] : SimJ K e (te :: ts) (te' :: ts') := ⟨fun acc σ H S T Qd Q x h k => by
  refine h1.run σ H S T _ _ x h fun r S1 v H1 hr x1 => ?_
  obtain ⟨y, rfl, hl, hr⟩ := asS_inv hr
  obtain rfl := x1.strV
  exact ⟨y, rfl, big_of hl, h2.run _ σ H1 S1 T _ _ x1.pop hr k⟩⟩
def tdJoined (ts : List TDE) : TDE := fun S Q => (ts.foldr (fun te k (acc : Str) S => te S fun r S1 => asS r fun y => (acc ++ y).length ≤ 1000000 ∧ k (acc ++ y) S1) (fun o S1 => Q (.d (.str o)) S1)) Str.empty S
instance simJoined {ts : List TE} {ts' : List TDE} [h1 : SimJ K e ts ts'] : SimE K e (tJoined ts) (tdJoined ts') := ⟨fun σ H S T Qd Q x h k =>
  h1.run _ σ H S T (fun o S1 => Qd (.d (.str o)) S1) _ x h fun o S' H' q ⟨U, x'⟩ => k _ _ _ _ q ⟨U, x'.push (.str o)⟩⟩
/-! ### a comprehension whose elements may raise: R: it gives a value -/
theorem comp_seq {g : TDG} {tt : TDT} {te : TDE} {vs : List Nat} {Q : List D → PSt → Prop} {S : PSt} {α : Type} (h f : α → D) (R : α → Prop) : ∀ (xs : List α) (acc : List D), acc.length + xs.length ≤ 1000000 →
    (∀ (pre : List α) (x : α) (post : List α), xs = pre ++ x :: post → (∀ y ∈ pre, R y) → ∀ (N : D → PSt → Prop) (M : PSt → Prop), (R x → N (f x) S) → turnD g tt te vs (h x) S N M) → ((∀ x ∈ xs, R x) → Q (acc ++ xs.map f) S) → compD g tt te vs Q (xs.map h) acc S
  | [], acc, _, _, q => by simpa [compD] using q (fun x hx => by cases hx)
  | x :: xs, acc, hl, hs, q => by
    refine ⟨fun a S' => S' = S ∧ R x ∧ a = acc ++ [f x], ?_, hs [] x xs rfl (fun y hy => by cases hy) (fun y S' => acc.length ≤ 999999 ∧ S' = S ∧ R x ∧ acc ++ [y] = acc ++ [f x]) (fun S' => S' = S ∧ R x ∧ acc = acc ++ [f x]) fun hR => ⟨by simp at hl; omega, rfl, hR, rfl⟩⟩
    rintro a S' ⟨rfl, hR, rfl⟩
    refine comp_seq h f R xs _ (by simp at hl ⊢; omega) (fun pre y post e hp => hs (x :: pre) y post (by rw [e]; rfl) fun z hz => (List.mem_cons.mp hz).elim (fun e => e ▸ hR) (hp z)) fun hA => ?_
    have := q fun z hz => (List.mem_cons.mp hz).elim (fun e => e ▸ hR) (hA z)
    simpa using this
end
end Kn

set_option Elab.async false
set_option maxRecDepth 100000
set_option linter.all false
set_option autoImplicit false
namespace Kn
open PySem L2
/-! ### == of dicts -/
inductive HitsV (K : PySem.W.Frag) (H : Hp) (ls : List (Key × V)) : List (Key × V) → Bool → Prop
  | nil : HitsV K H ls [] true
  | miss {k : Key} {v : V} {r : List (Key × V)} (h : valV ls k = none) : HitsV K H ls ((k, v) :: r) false
  | hit {k : Key} {v u : V} {r : List (Key × V)} {d c : PyData} {b : Bool} (h : valV ls k = some u) (h1 : Dp K H v d) (h2 : Dp K H u c) (s1 : SeqAt.shaped d = true) (s2 : SeqAt.shaped c = true) (t : HitsV K H ls r b) : HitsV K H ls ((k, v) :: r) (PyData.eqv d c && b)
def rEqK (K : PySem.W.Frag) (neg : Bool) : R2 := fun x y H Q => ∃ (a b : Addr) (ks ls : List (Key × V)) (r : Bool), x = .ref a ∧ y = .ref b ∧ Rd H a (.dK ks) ∧ Rd H b (.dK ls) ∧ HitsV K H ls ks r ∧ Q (.bl (if neg then !(ks.length == ls.length && r) else (ks.length == ls.length && r))) H
theorem hits_of {X : Cx} {pins : List (Addr × Obj)} {σ : St} {H : Hp} {s : Shared} (I : Inv X pins σ H s) {A : Around} (hu : A.in1.units + 64 < cLine) {ls : List (Key × V)} {vb : List (Key × Value)} (rb : KV ls vb) : ∀ {ks : List (Key × V)} {va : List (Key × Value)} {r : Bool}, HitsV X.K H ls ks r → KV ks va → PySem.W.KeqHits A.in1 s vb va r
  | _, _, _, .nil, ra => by cases ra; exact .nil
  | (k0, v0) :: _, _, _, .miss h, ra => by
    cases ra with
    | @cons _ q ps qs hq t =>
      obtain ⟨h1, h2⟩ := hq
      obtain ⟨key, v⟩ := q
      have h1 : k0 = key := h1
      subst h1
      refine .miss ?_
      have := rb.val k0
      have hn : valV ls k0 = none := h
      rw [hn] at this
      cases z : valueAt vb k0 with
      | none => rfl
      | some y => rw [z] at this; exact this.elim
  | (k0, v0) :: _, _, _, .hit h d1 d2 s1 s2 t, ra => by
    cases ra with
    | @cons _ q ps qs hq tl =>
      obtain ⟨h1, h2⟩ := hq
      obtain ⟨key, v⟩ := q
      have h1 : k0 = key := h1
      subst h1
      have rr := rb.val k0
      rw [h] at rr
      obtain ⟨y, hy, ry⟩ := rr.some_of
      obtain ⟨as, r1⟩ := Dp.reads I _ _ _ d1 h2
      obtain ⟨bs, r2⟩ := Dp.reads I _ _ _ d2 ry
      exact .hit hy (PySem.W.keq_at r1 r2 s1 s2 hu) (hits_of I hu rb t tl)
theorem op_eqK {X : Cx} (K : PySem.W.Frag) (hu : X.A.units + 65 < cLine) (hK : X.K = K := by rfl) : OpR X (compareOp .Eq) (rEqK K false) := by
  subst hK
  intro pins s σ H x y v u Q I rx ry h
  obtain ⟨a, b, ks, ls, r, rfl, rfl, ha, hb, hh, q⟩ := h
  cases (show v = Value.ref a from rx)
  cases (show u = Value.ref b from ry)
  obtain ⟨_, ya, va, ra, da⟩ := dk_rd I.hok ha
  obtain ⟨_, yb, vb, rb, db⟩ := dk_rd I.hok hb
  refine PySem.W.keq_eq ya yb da db (by omega) (fun _ => hits_of I (by show X.A.units + 1 + 64 < cLine; omega) rb hh ra) ⟨.bl _, H, I, ?_, q⟩
  show _ = _
  rw [← ra.length, ← rb.length]; rfl
theorem op_neK {X : Cx} (K : PySem.W.Frag) (hu : X.A.units + 65 < cLine) (hK : X.K = K := by rfl) : OpR X (compareOp .NotEq) (rEqK K true) := by
  subst hK
  intro pins s σ H x y v u Q I rx ry h
  obtain ⟨a, b, ks, ls, r, rfl, rfl, ha, hb, hh, q⟩ := h
  cases (show v = Value.ref a from rx)
  cases (show u = Value.ref b from ry)
  obtain ⟨_, ya, va, ra, da⟩ := dk_rd I.hok ha
  obtain ⟨_, yb, vb, rb, db⟩ := dk_rd I.hok hb
  refine PySem.W.keq_ne ya yb da db (by omega) (fun _ => hits_of I (by show X.A.units + 1 + 64 < cLine; omega) rb hh ra) ⟨.bl _, H, I, ?_, q⟩
  show _ = _
  rw [← ra.length, ← rb.length]; rfl
section
variable {K : PySem.W.Frag} {e : Ent}
def hitsD (ls ks : List (Key × D)) : Bool := ks.all fun p => match look ls p.1 with
  | none => false
  | some d => decide (p.2 = d)
def eqKb (ks ls : List (Key × D)) : Bool := ks.length == ls.length && hitsD ls ks
/-- the values are plain -/
def plK (b : Bool) (ks : List (Key × D)) : Prop := ∀ p ∈ ks, okD b p.2 = true ∧ dpD p.2 ≤ 64
theorem hits_dv {Tp : Addr → Prop} {H H' : Hp} (sm : Same H H') {b : Bool} {vl : List (Key × V)} {ls : List (Key × D)} (tl : DvK K Tp H vl ls) (pl : plK b ls) : ∀ {vk : List (Key × V)} {ks : List (Key × D)}, DvK K Tp H vk ks → plK b ks → HitsV K H' vl vk (hitsD ls ks)
  | _, _, .nil, _ => .nil
  | (k, v) :: vs, (_, d) :: ds, .cons h t, pk => by
    have ih := hits_dv sm tl pl t fun p hp => pk p (List.mem_cons_of_mem _ hp)
    unfold hitsD
    rw [List.all_cons]
    have p0 : okD b d = true ∧ dpD d ≤ 64 := pk (k, d) List.mem_cons_self
    cases q : look ls k with
    | none => rw [Bool.false_and]; exact .miss (tl.look_none q)
    | some c =>
      obtain ⟨u, e1, e2⟩ := tl.look_some q
      have pc : okD b c = true ∧ dpD c ≤ 64 := by
        have : ∃ p ∈ ls, p.2 = c := by
          clear tl pl e1 e2 ih
          induction ls with
          | nil => cases q
          | cons p l ihl =>
            rw [look] at q
            by_cases z : p.1 = k
            · rw [if_pos z] at q; cases q; exact ⟨p, List.mem_cons_self, rfl⟩
            · rw [if_neg z] at q
              obtain ⟨p', h1, h2⟩ := ihl q
              exact ⟨p', List.mem_cons_of_mem _ h1, h2⟩
        obtain ⟨p, hp, rfl⟩ := this
        exact pl p hp
      have eb : decide (d = c) = PyData.eqv (toP d) (toP c) := by rw [eqv_toP d c p0.1 pc.1, beqD_dec]
      show HitsV K H' vl ((k, v) :: vs) (decide (d = c) && _)
      rw [eb]
      exact .hit e1 (h.dp sm p0.1) (e2.dp sm pc.1) (toP_shaped p0.1 p0.2) (toP_shaped pc.1 pc.2) ih
def eqKF (neg : Bool) (Q : Bool → Prop) : D → D → Prop
  | .dct ks, .dct ls => (∃ b, plK b ks ∧ plK b ls) ∧ Q (if neg then !eqKb ks ls else eqKb ks ls)
  | _, _ => False
def eqKD (neg : Bool) (S : PSt) (rx ry : Rv) (Q : D → PSt → Prop) : Prop := dd2 S rx ry (eqKF neg fun b => Q (.bl b) S)
instance simEqK {neg : Bool} : SimO K e (rEqK K neg) (eqKD neg) := ⟨fun σ H S T x y rx ry Qd Q w h k => by
  obtain ⟨a, b, ha, hb, h⟩ := dd2_inv h
  obtain ⟨U, wT, vx, vy, w2⟩ := w.two ha hb
  match a, b, h, vx, vy with
  | .dct ks, .dct ls, ⟨⟨b, pk, pl⟩, hq⟩, ⟨p, xs, e1, g1, t1⟩, ⟨q, ys, e2, g2, t2⟩ =>
    subst e1 e2
    refine ⟨p, q, xs, ys, _, rfl, rfl, g1, g2, hits_dv (Hd.sub) t2 pl t1 pk, ?_⟩
    rw [t1.len, t2.len]
    exact k _ _ _ _ hq ⟨U, wT.push (.bl _)⟩⟩
theorem look_self {ks : List (Key × D)} (hn : (ks.map (·.1)).Nodup) : ∀ p ∈ ks, look ks p.1 = some p.2 := by
  induction ks with
  | nil => intro p hp; cases hp
  | cons q l ih =>
    intro p hp
    rw [List.map_cons, List.nodup_cons] at hn
    rcases List.mem_cons.mp hp with rfl | hp
    · rw [look, if_pos rfl]
    · have nz : ¬ q.1 = p.1 := fun z => hn.1 (z ▸ List.mem_map.mpr ⟨p, hp, rfl⟩)
      rw [look, if_neg nz, ih hn.2 p hp]
theorem eqKb_refl {ks : List (Key × D)} (hn : (ks.map (·.1)).Nodup) : eqKb ks ks = true := by
  unfold eqKb hitsD
  rw [Bool.and_eq_true, List.all_eq_true]
  refine ⟨by simp, fun p hp => ?_⟩
  rw [look_self hn p hp]
  exact decide_eq_true rfl
end
end Kn

set_option Elab.async false
set_option maxRecDepth 100000
set_option linter.all false
set_option autoImplicit false
namespace Kn
open PySem L2
section
variable {K : PySem.W.Frag} {e : Ent}
/-! ### {k: v, ..} -/
def mergeD (ks : List (Key × D)) : List (Key × D) → List (Key × D)
  | [] => ks
  | p :: l => mergeD (put ks p.1 p.2) l
theorem DvK.merge {Tp : Addr → Prop} {H : Hp} : ∀ {vs ws : List (Key × V)} {ks ls : List (Key × D)}, DvK K Tp H vs ks → DvK K Tp H ws ls → DvK K Tp H (mergeK vs ws) (mergeD ks ls)
  | vs, [], ks, _, h, .nil => h
  | vs, (k, v) :: ws, ks, (_, d) :: ls, h, .cons g t => by
    show DvK K Tp H (mergeK (putK vs k v) ws) (mergeD (Kn.put ks k d) ls)
    exact DvK.merge (h.put g) t
/-- an expression that changes nothing -/
class SimV (K : PySem.W.Frag) (e : Ent) (te : TE) (f : outParam (PSt → (D → Prop) → Prop)) : Prop where
  run : ∀ (σ : St) (H : Hp) (S : PSt) (T : List Tm) (U : Addr → Prop) (Qd : D → Prop) (Q : VK), RU K e σ H S T U → f S Qd → (∀ d v, Qd d → Dv K S.W.Tp (Hd U H) v d → Q v H) → te σ H Q
def valV1 (Q : D → Prop) : Option (Option PC) → Prop
  | some (some (.val d)) => Q d
  | _ => False
instance simVVar {i : Nat} : SimV K e (tVar i) (fun S Q => valV1 Q S.ρ[i]?) := ⟨fun σ H S T U Qd Q x h k => by
  cases q : S.ρ[i]? with
  | none => rw [q] at h; exact h.elim
  | some c =>
    cases c with
    | none => rw [q] at h; exact h.elim
    | some c =>
      rw [q] at h
      cases c with
      | val d =>
        obtain ⟨v, h1, h2⟩ := x.slot i _ q
        exact ⟨v, h1, k d v h h2⟩
      | ownL ds => exact h.elim
      | ownD ds => exact h.elim⟩
instance simVStr {z : Str} : SimV K e (tC (.str z)) (fun _ Q => Q (.str z)) := ⟨fun σ H S T U Qd Q x h k => k _ _ h (.str z)⟩
instance simVInt {z : Int} : SimV K e (tC (.int z)) (fun _ Q => Q (.int z)) := ⟨fun σ H S T U Qd Q x h k => k _ _ h (.int z)⟩
instance simVNon : SimV K e (tC .non) (fun _ Q => Q .non) := ⟨fun σ H S T U Qd Q x h k => k _ _ h .non⟩
/-- the pairs of a display, over data -/
class SimPs (K : PySem.W.Frag) (e : Ent) (trs : List (TE × TE)) (t : outParam (PSt → (List (Key × D) → Prop) → Prop)) : Prop where
  run : ∀ (σ : St) (H : Hp) (S : PSt) (T : List Tm) (U : Addr → Prop) (Qd : List (Key × D) → Prop) (Q : List (V × V) → Hp → Prop), RU K e σ H S T U → t S Qd →
    (∀ ks kvs, Qd ks → DvK K S.W.Tp (Hd U H) kvs ks → Q (kvs.map fun kv => (kV kv.1, kv.2)) H) → tPairs trs σ H Q
instance simPsNil : SimPs K e [] (fun _ Q => Q []) := ⟨fun σ H S T U Qd Q x h k => k [] [] h .nil⟩
instance simPsCons {tk tv : TE} {trs : List (TE × TE)} {fk fv : PSt → (D → Prop) → Prop} {t : PSt → (List (Key × D) → Prop) → Prop} [h1 : SimV K e tk fk] [h2 : SimV K e tv fv] [h3 : SimPs K e trs t] :
    SimPs K e ((tk, tv) :: trs) (fun S Q => fk S fun dk => opt (keyD dk) fun k => fv S fun d => t S fun ks => Q ((k, d) :: ks)) := ⟨fun σ H S T U Qd Q x h k => by
  refine h1.run σ H S T U _ _ x h fun dk v hk dv => ?_
  obtain ⟨key, hkey, hk⟩ := opt_inv hk
  refine h2.run σ H S T U _ _ x hk fun d u hd du => ?_
  refine h3.run σ H S T U _ _ x hd fun ks kvs hq dks => ?_
  have ev : v = kV key := keyD_v (Dv.vw dv) hkey
  subst ev
  exact k _ _ hq (.cons du dks)⟩
def tkDisp (t : PSt → (List (Key × D) → Prop) → Prop) : TDK := fun S Q => t S fun ks => ks.length ≤ 15 ∧ Q (mergeD [] ks) S
instance simDisp {trs : List (TE × TE)} {t : PSt → (List (Key × D) → Prop) → Prop} [h1 : SimPs K e trs t] : SimK K e (tDisp trs) (tkDisp t) := ⟨fun σ H S T Qd Q ⟨U, x⟩ h k => fun p hp => by
  obtain ⟨U1, vs, x1, ow, ns, nt, hp1, hv⟩ := (x.newD (vs := []) (ks := []) hp .nil).ex
  refine h1.run σ _ S T U1 _ _ x1 h fun ks kvs hq dk => ⟨upd_same, kvs, rfl, by rw [dk.len]; exact hq.1, k _ _ _ _ hq.2 ⟨U1, mergeK [] kvs, x1.updN ow ns nt, ow, ns, nt, upd_same, ?_⟩⟩
  exact DvK.le (Same.lq (Hd.upd ow.u)) (fun _ z => z) (DvK.merge .nil dk)⟩
/-! ### a new dict as a shared thing -/
def tShare (te : TE) : TE := te
theorem share_of {X : Cx} {ex : Expr} {te : TE} (h : PE X ex te) : PE X ex (tShare te) := h
theorem RNd.share {σ : St} {H : Hp} {S : PSt} {T : List Tm} {l : Addr} {ks : List (Key × D)} (y : RNd K e σ H S T l ks) : S.W.ω l = none ∧ ¬ S.W.Tp l ∧ R K e σ H ⟨S.ρ, S.W.put l (.dct ks)⟩ (.v (.ref l) (.d (.ref l)) :: T) := by
  obtain ⟨U, xs, x, ow, ns, nt, hl, dv⟩ := y.ex
  exact ⟨ow.w, ow.tp, U, RU.push (x.share (c := .dct ks) ow ns nt ⟨xs, hl, dv⟩) (.ref l)⟩
def tdShK (t : TDK) : TDE := fun S Q => t S fun ks S1 => ∀ a : Addr, S1.W.ω a = none → ¬ S1.W.Tp a → Q (.d (.ref a)) ⟨S1.ρ, S1.W.put a (.dct ks)⟩
instance simShK {te : TE} {t : TDK} [h1 : SimK K e te t] : SimE K e (tShare te) (tdShK t) := ⟨fun σ H S T Qd Q x h k => h1.run σ H S T _ _ x h fun ks S1 l H1 hq x1 => by
  obtain ⟨a, b, x2⟩ := x1.share
  exact k _ _ _ _ (hq l a b) x2⟩
/-! ### d.clear() -/
def tdClear (to : TDE) : TDE := fun S Q => to S fun r S1 => (∃ ks, derefD S1 r = some (.dct ks)) ∧ mutD S1 r (fun _ c => c []) fun S2 => Q (.d .non) S2
theorem pe_dclearK {X : Cx} {o : Expr} {to : TE} {apos cpos : Pos} (K : PySem.W.Frag) (ho : PE X o to) (hK : X.K = K := by rfl) (hbase : attributeBase o "clear" X.env (eval o X.env) = eval o X.env := by rfl) (hline : (apos.endLine == cpos.line) = true := by rfl) : PE X (.Call (.Attribute o "clear" apos) [] [] cpos) (tBM0 K "dict" rDClear to) := by
  subst hK; exact pe_dclear ho hbase hline
instance simClear {to : TE} {t : TDE} [h1 : SimE K e to t] : SimE K e (tBM0 K "dict" rDClear to) (tdClear t) := ⟨fun σ H S T Qd Q x h k => by
  refine h1.run σ H S T _ _ x h fun r S1 v H1 hr x1 => ?_
  obtain ⟨_, hr⟩ := hr
  refine x1.mutD hr fun l vs ds U Qs e1 e2 e3 x2 hq kk => ?_
  subst e1
  obtain ⟨S2, q2, x3⟩ := kk [] [] hq .nil
  exact ⟨.inr (.inr (.inl ⟨rfl, .inl ⟨vs, e2⟩⟩)), l, vs, rfl, rfl, e2, k _ _ _ _ q2 ⟨U, x3.push .non⟩⟩⟩
end
/-- two shared things -/
theorem put_comm {W : Wd} {a b : Addr} {c d : Cell} (h : a ≠ b) : (W.put a c).put b d = (W.put b d).put a c := by
  unfold Wd.put
  congr 1
  funext x
  by_cases h1 : x = b
  · by_cases h2 : x = a
    · exact absurd (h2.symm.trans h1) h
    · subst h1; simp [h2]
  · by_cases h2 : x = a
    · subst h2; simp [h1]
    · simp [h1, h2]
theorem put_ne {W : Wd} {a b : Addr} {c : Cell} (h : (W.put a c).ω b = none) : b ≠ a := fun z => by
  subst z
  rw [Wd.put_same] at h; cases h
theorem put_none' {W : Wd} {a b : Addr} {c : Cell} (h : (W.put a c).ω b = none) : W.ω b = none := by
  rw [Wd.put_ne (put_ne h)] at h; exact h
end Kn

set_option Elab.async false
set_option maxRecDepth 100000
set_option linter.all false
set_option autoImplicit false
namespace Kn
open PySem L2
section
variable {K : PySem.W.Frag} {e : Ent}
/-! ### operators of own classes -/
def tdOGet (C : Addr) (F : FSpec) (w : Exn → PSt → Prop) (ta ti : TDE) : TDE := fun S Q => ta S fun r S1 => frc r S1 fun d S2 => ti S2 fun r2 S3 => frc r2 S3 fun k S4 => dd1 S4 (.d d) (ofC C (CallF F [d, k] S4 Q w))
instance simOGet {C : Addr} {F : FSpec} {Wx : WX} {w : Exn → PSt → Prop} {ta ti : TE} {ta' ti' : TDE} [h0 : SimE K e ta ta'] [h1 : SimE K e ti ti'] [h2 : WLk K e Wx w] : SimE K e (tOGet C (lift K F) (WE Wx) ta ti) (tdOGet C F w ta' ti') := ⟨fun σ H S T Qd Q x h k => by
  refine h0.run σ H S T _ _ x h fun r S1 v H1 hr x1 => x1.frc hr fun d S2 hr x2 => ?_
  refine h1.run σ H1 S2 _ _ _ x2 hr fun r2 S3 y H2 hr3 x3 => x3.frc hr3 fun kd S4 hr4 x4 => ?_
  obtain ⟨o, ho, hr5⟩ := dd1_inv hr4
  obtain ⟨fs, rfl, hr6⟩ := propF_inv hr5
  have x5 : R K e σ H2 S4 (.v v (.d d) :: .v y (.d kd) :: T) := x4.less fun p hp => by
    rcases List.mem_cons.mp hp with rfl | hp
    · simp
    · rcases List.mem_cons.mp hp with rfl | hp
      · simp
      · exact List.mem_cons_of_mem _ (List.mem_cons_of_mem _ hp)
  obtain ⟨U, xT1, vw, x6⟩ := x5.one ho
  obtain ⟨a, dx, xs, rfl, ha, dv⟩ : Vw K S4.W.Tp U H2 v (.obj C fs) := vw
  have dv0 : Dv K S4.W.Tp (Hd U H2) (.ref a) d := x6.tmp (.v (.ref a) (.d d)) (by simp)
  have dv1 : Dv K S4.W.Tp (Hd U H2) y kd := x6.tmp (.v y (.d kd)) (by simp)
  have xT := x6.less (T' := T) fun p hp => List.mem_cons_of_mem _ (List.mem_cons_of_mem _ hp)
  refine ⟨a, dx, xs, rfl, ha, U, S4.W, [d, kd], _, _, x6.wo, .cons dv0 (.cons dv1 .nil), hr6, fun d W' v H' U' q r f dv => k _ _ _ _ q (xT.callBack r f dv), fun x W' c dd H' U' q r f ex => ?_⟩
  exact h2.run x ⟨S4.ρ, W'⟩ σ H' U' c dd q ((xT.to r f).less fun p hp => by cases hp) ex⟩
def tdOSet (C : Addr) (F : FSpec) (w : Exn → PSt → Prop) (ta ti tv : TDE) : TDS := fun E S => tv S fun r S1 => frc r S1 fun v S2 => ta S2 fun r2 S3 => frc r2 S3 fun d S4 => ti S4 fun r3 S5 => frc r3 S5 fun k S6 => dd1 S6 (.d d) (ofC C (CallF F [d, k, v] S6 (fun _ S' => E.nx S') w))
instance simOSet {C : Addr} {F : FSpec} {Wx : WX} {w : Exn → PSt → Prop} {ta ti tv : TE} {ta' ti' tv' : TDE} [h0 : SimE K e ta ta'] [h1 : SimE K e ti ti'] [h3 : SimE K e tv tv'] [h2 : WLk K e Wx w] : SimS K e (sOSet C (lift K F) (WE Wx) ta ti tv) (tdOSet C F w ta' ti' tv') := ⟨fun σ H S T Ed E hT x h k => by
  refine h3.run σ H S T _ _ x h fun r S1 vv H1 hr x1 => x1.frc hr fun dv S2 hr x2 => ?_
  refine h0.run σ H1 S2 _ _ _ x2 hr fun r S3 v H2 hr x3 => x3.frc hr fun d S4 hr x4 => ?_
  refine h1.run σ H2 S4 _ _ _ x4 hr fun r2 S5 y H3 hr3 x5 => x5.frc hr3 fun kd S6 hr4 x6 => ?_
  obtain ⟨o, ho, hr5⟩ := dd1_inv hr4
  obtain ⟨fs, rfl, hr6⟩ := propF_inv hr5
  have x7 : R K e σ H3 S6 (.v v (.d d) :: .v y (.d kd) :: .v vv (.d dv) :: T) := x6.less fun p hp => by
    rcases List.mem_cons.mp hp with rfl | hp
    · simp
    · rcases List.mem_cons.mp hp with rfl | hp
      · simp
      · exact List.mem_cons_of_mem _ (List.mem_cons_of_mem _ hp)
  obtain ⟨U, xT1, vw, x8⟩ := x7.one ho
  obtain ⟨a, dx, xs, rfl, ha, dvf⟩ : Vw K S6.W.Tp U H3 v (.obj C fs) := vw
  have dv0 : Dv K S6.W.Tp (Hd U H3) (.ref a) d := x8.tmp (.v (.ref a) (.d d)) (by simp)
  have dv1 : Dv K S6.W.Tp (Hd U H3) y kd := x8.tmp (.v y (.d kd)) (by simp)
  have dv2 : Dv K S6.W.Tp (Hd U H3) vv dv := x8.tmp (.v vv (.d dv)) (by simp)
  have xT := x8.less (T' := T) fun p hp => List.mem_cons_of_mem _ (List.mem_cons_of_mem _ (List.mem_cons_of_mem _ hp))
  refine ⟨a, dx, xs, rfl, ha, U, S6.W, [d, kd, dv], _, _, x8.wo, .cons dv0 (.cons dv1 (.cons dv2 .nil)), hr6, fun d W' v H' U' q r f dv => k.nx _ _ _ q ⟨U', xT.to r f⟩, fun x W' c dd H' U' q r f ex => ?_⟩
  exact h2.run x ⟨S6.ρ, W'⟩ σ H' U' c dd q ((xT.to r f).less fun p hp => by cases hp) ex⟩
def tdOIn (C : Addr) (F : FSpec) (w : Exn → PSt → Prop) (n : Bool) (ti ta : TDE) : TDE := fun S Q => ti S fun r2 S1 => frc r2 S1 fun k S2 => ta S2 fun r S3 => frc r S3 fun d S4 => dd1 S4 (.d d) (ofC C (CallF F [d, k] S4 (fun r S' => asB r fun b => Q (.d (.bl (if n then !b else b))) S') w))
instance simOIn {C : Addr} {F : FSpec} {n : Bool} {Wx : WX} {w : Exn → PSt → Prop} {ta ti : TE} {ta' ti' : TDE} [h0 : SimE K e ta ta'] [h1 : SimE K e ti ti'] [h2 : WLk K e Wx w] : SimE K e (tOIn C (lift K F) (WE Wx) n ti ta) (tdOIn C F w n ti' ta') := ⟨fun σ H S T Qd Q x h k => by
  refine h1.run σ H S T _ _ x h fun r2 S1 y H1 hr x1 => x1.frc hr fun kd S2 hr x2 => ?_
  refine h0.run σ H1 S2 _ _ _ x2 hr fun r S3 v H2 hr3 x3 => x3.frc hr3 fun d S4 hr4 x4 => ?_
  obtain ⟨o, ho, hr5⟩ := dd1_inv hr4
  obtain ⟨fs, rfl, hr6⟩ := propF_inv hr5
  obtain ⟨U, xT1, vw, x6⟩ := x4.one ho
  obtain ⟨a, dx, xs, rfl, ha, dv⟩ : Vw K S4.W.Tp U H2 v (.obj C fs) := vw
  have dv0 : Dv K S4.W.Tp (Hd U H2) (.ref a) d := x6.tmp (.v (.ref a) (.d d)) (by simp)
  have dv1 : Dv K S4.W.Tp (Hd U H2) y kd := x6.tmp (.v y (.d kd)) (by simp)
  have xT := x6.less (T' := T) fun p hp => List.mem_cons_of_mem _ (List.mem_cons_of_mem _ hp)
  refine ⟨a, dx, xs, rfl, ha, U, S4.W, [d, kd], _, _, x6.wo, .cons dv0 (.cons dv1 .nil), hr6, fun d W' v H' U' q r f dv => ?_, fun x W' c dd H' U' q r f ex => ?_⟩
  · cases d with
    | bl b =>
      cases dv
      exact ⟨b, rfl, k _ _ _ _ q (xT.callBack r f (.bl _))⟩
    | _ => exact q.elim
  · exact h2.run x ⟨S4.ρ, W'⟩ σ H' U' c dd q ((xT.to r f).less fun p hp => by cases hp) ex⟩
/-! ### -i -/
def tdNeg (t : TDE) : TDE := fun S Q => t S fun r S1 => asI r fun i => Q (.d (.int (-i))) S1
instance simNeg {te : TE} {t : TDE} [h : SimE K e te t] : SimE K e (tUn (rU fun i => .int (-i)) te) (tdNeg t) := ⟨fun σ H S T Qd Q x ht k => by
  refine h.run σ H S T _ _ x ht fun r S1 v H1 h1 x1 => ?_
  match r, h1, x1 with
  | .d (.int b), h1, ⟨U, x1⟩ =>
    have hv : Dv K S1.W.Tp (Hd U H1) v (.int b) := x1.tmp (.v v (.d (.int b))) (by simp)
    cases hv
    have xT := x1.less (T' := T) fun p hp => List.mem_cons_of_mem _ hp
    exact ⟨b, rfl, k _ _ _ _ h1 ⟨U, xT.push (.int (-b))⟩⟩⟩
end
section
variable {P : Program} {w : World} {K : PySem.W.Frag} {mg : Str → Option Value} {base : Heap}
theorem Mz.okOD {C : Addr} {m qual : Str} {st : Stmt} {ps N : List Str} {k : Nat} {Fs : FSpec} (F : Mz K C m qual st ps []) (ns : PySem.W.noSeq K C = true) (S : FnScope N ps (defScope st)) (hl : ∀ ds W Q E, Fs ds W Q E → ds.length = ps.length) (hbody : BodyD P w K mg base N qual st k Fs) : Ox P w K mg base C m (k + 1) ps (lift K Fs) := F.okO ns S (lift_len hl) hbody.run
end
end Kn

set_option Elab.async false
set_option maxRecDepth 100000
set_option linter.all false
set_option autoImplicit false
namespace Kn
open PySem L2
section
variable {K : PySem.W.Frag} {e : Ent} {σ : St} {H : Hp} {S : PSt} {T : List Tm} {U : Addr → Prop}
/-- a shared thing changes, be it locked -/
theorem RU.updC2 (x : RU K e σ H S T U) {a : Addr} {o : HO} {c c' : Cell} (hc : S.W.ω a = some c) (hm : ∀ c0, e.W.ω a = some c0 → c0.isMut) (hn : CellOk K S.W.Tp U (L2.upd H a o) a c') : RU K e σ (L2.upd H a o) ⟨S.ρ, S.W.put a c'⟩ T U := by
  have u := (x.wo.cell a c hc).1
  have h0 : e.H a = none ∨ e.W.mt a := by
    rcases x.fr.wnew a (.inr ⟨c, hc⟩) with (z | ⟨c0, z⟩) | z
    · exact .inr (.inl z)
    · exact .inr (.inr ⟨c0, z, hm c0 z⟩)
    · exact .inl z
  have f1 : Fr e U (S.W.put a c') (L2.upd H a o) := by
    have f := x.fr.upd (o := o) h0
    exact { f with
      wnew := fun b h => by
        by_cases q : b = a
        · subst q; exact x.fr.wnew b (.inr ⟨c, hc⟩)
        · refine x.fr.wnew b ?_
          rcases h with h | ⟨c1, h⟩
          · exact .inl h
          · rw [Wd.put_ne q] at h; exact .inr ⟨c1, h⟩
      lk := fun b c1 h n => by
        by_cases q : b = a
        · subst q
          exact (n (hm c1 h)).elim
        · rw [Wd.put_ne q]; exact x.fr.lk b c1 h n }
  exact {
    wo := {
      dom := fun b h => by
        by_cases q : b = a
        · subst q; rw [upd_same]; intro z; cases z
        · rw [upd_ne q]; exact x.wo.dom b h
      tape := fun t h => by
        obtain ⟨a1, b1, c1⟩ := x.wo.tape t h
        have nt : t ≠ a := fun z => by rw [z, hc] at c1; cases c1
        exact ⟨a1, b1.le fun o q => by rw [upd_ne nt]; exact q, by rw [Wd.put_ne nt]; exact c1⟩
      cell := fun b c1 h => by
        by_cases q : b = a
        · subst q
          rw [Wd.put_same] at h; cases h
          exact ⟨u, hn⟩
        · rw [Wd.put_ne q] at h
          obtain ⟨u', k⟩ := x.wo.cell b c1 h
          exact ⟨u', k.le (Same.lq (Hd.upd u)) (fun _ z => z) fun o k => by rw [upd_ne q]; exact k⟩ }
    fr := f1
    ed := x.ed
    len := x.len
    slot := fun i c1 h => by
      obtain ⟨v, h1, h2⟩ := x.slot i c1 h
      refine ⟨v, h1, ?_⟩
      have nv : ∀ m, Ow e U S.W m → m ≠ a := fun m ow z => by rw [← z, ow.w] at hc; cases hc
      match c1, h2 with
      | .val d, h2 => exact Dv.le (Same.lq (Hd.upd u)) (fun _ z => z) h2
      | .ownL ds, ⟨m, vs, e1, ow, e2, e3⟩ => exact ⟨m, vs, e1, ⟨ow.u, ow.e0, ow.tp, by rw [Wd.put_ne (nv m ow)]; exact ow.w⟩, by rw [upd_ne (nv m ow)]; exact e2, DvL.le (Same.lq (Hd.upd u)) (fun _ z => z) e3⟩
      | .ownD ds, ⟨m, vs, e1, ow, e2, e3⟩ => exact ⟨m, vs, e1, ⟨ow.u, ow.e0, ow.tp, by rw [Wd.put_ne (nv m ow)]; exact ow.w⟩, by rw [upd_ne (nv m ow)]; exact e2, DvK.le (Same.lq (Hd.upd u)) (fun _ z => z) e3⟩
    sep := x.sep
    tmp := fun p hp => by
      have := x.tmp p hp
      match p, this with
      | .v v (.d d), h => exact Dv.le (Same.lq (Hd.upd u)) (fun _ z => z) h
      | .v v (.own j), h => exact h
      | .nw m ds, ⟨om, ms, vs, h, h2⟩ =>
        have nv : m ≠ a := fun z => by rw [← z, om.w] at hc; cases hc
        exact ⟨⟨om.u, om.e0, om.tp, by rw [Wd.put_ne nv]; exact om.w⟩, ms, vs, by rw [upd_ne nv]; exact h, DvL.le (Same.lq (Hd.upd u)) (fun _ z => z) h2⟩
      | .pin b o w, ⟨n, h⟩ => exact ⟨n, by rw [upd_ne (show b ≠ _ from fun z => n (z ▸ u))]; exact h⟩ }

theorem RU.mutE (x : RU K e σ H S T U) {a : Addr} {c : Cell} (hc : S.W.ω a = some c) (mc : c.isMut) : ∀ c0, e.W.ω a = some c0 → c0.isMut := fun c0 z => by
  by_cases q : c0.isMut
  · exact q
  · have := x.fr.lk a c0 z q
    rw [hc] at this
    cases this
    exact mc
/-- a shared dict is locked, a locked one let loose -/
theorem RU.lockC (x : RU K e σ H S T U) {a : Addr} {vs : List (Key × V)} {ks : List (Key × D)} (hc : S.W.ω a = some (.dct ks)) (hh : H a = some (.dK vs)) (od : Obj) : RU K e σ (upd H a (.frz od (.dK vs))) ⟨S.ρ, S.W.put a (.lk od vs ks)⟩ T U := by
  obtain ⟨u, vs', e2, dk⟩ := x.wo.cell a _ hc
  rw [hh] at e2
  cases e2
  exact x.updC2 (c' := .lk od vs ks) hc (x.mutE hc trivial) ⟨upd_same, DvK.le (Same.lq (Hd.upd u)) (fun _ z => z) dk⟩
theorem RU.looseC (x : RU K e σ H S T U) {a : Addr} {od : Obj} {vs : List (Key × V)} {ks : List (Key × D)} (hc : S.W.ω a = some (.lk od vs ks)) (hm : ∀ c0, e.W.ω a = some c0 → c0.isMut) : H a = some (.frz od (.dK vs)) ∧ RU K e σ (upd H a (.dK vs)) ⟨S.ρ, S.W.put a (.dct ks)⟩ T U := by
  obtain ⟨u, e2, dk⟩ := x.wo.cell a _ hc
  exact ⟨e2, x.updC2 (c' := .dct ks) hc hm ⟨vs, upd_same, DvK.le (Same.lq (Hd.upd u)) (fun _ z => z) dk⟩⟩
theorem cell_keys {b : Addr} {od : Obj} {vs : List (Key × V)} {ks : List (Key × D)} {i : Nat} (w : S.W.ω b = some (.lk od vs ks)) (x : R K e σ H S T) : ((ks.map fun p : Key × D => keyV p.1).length ≤ i → (Itk b od vs).stop i H) ∧ (i < (ks.map fun p : Key × D => keyV p.1).length → (Itk b od vs).go i H ∧ ∀ y H', (Itk b od vs).yld i H y H' → ∃ d, (ks.map fun p : Key × D => keyV p.1)[i]? = some d ∧ R K e σ H' S (.v y (.d d) :: T)) := by
  obtain ⟨U, x⟩ := x
  obtain ⟨u, e2, dk⟩ := x.wo.cell b _ w
  have hl : (ks.map fun p : Key × D => keyV p.1).length = vs.length := by rw [dk.keys, List.length_map]
  rw [hl]
  refine ⟨fun hi => ⟨e2, hi⟩, fun hi => ⟨⟨e2, hi⟩, ?_⟩⟩
  rintro y H' ⟨rfl, k, v, hk, rfl⟩
  refine ⟨keyV k, ?_, U, x.push (keyV_dv k)⟩
  rw [dk.keys, List.getElem?_map, hk]
  rfl
/-- an expression that changes nothing and has one value -/
class SimX (K : PySem.W.Frag) (e : Ent) (te : TE) (f : outParam (PSt → (D → Prop) → Prop)) : Prop where
  run : ∀ (σ : St) (H : Hp) (S : PSt) (T : List Tm) (U : Addr → Prop) (Qd : D → Prop) (Q : VK), RU K e σ H S T U → f S Qd → (∀ d v, Qd d → Dv K S.W.Tp (Hd U H) v d → Q v H) → te σ H Q
  ex : ∀ (S : PSt) (Q : D → Prop), f S Q → ∃ d, Q d
def tvVar (i : Nat) : PSt → (D → Prop) → Prop := fun S Q => valV1 Q S.ρ[i]?
instance simXVar {i : Nat} : SimX K e (tVar i) (tvVar i) := ⟨(simVVar (K := K) (e := e) (i := i)).run, fun S Q h => by
  have h : valV1 Q S.ρ[i]? := h
  match q : S.ρ[i]?, h with
  | some (some (.val d)), h => exact ⟨d, h⟩⟩
def tvFld (C : Addr) (f : Str) (fv : PSt → (D → Prop) → Prop) : PSt → (D → Prop) → Prop := fun S Q => fv S fun d => dd1 S (.d d) (fldF C f Q)
instance simXFld {C : Addr} {f : Str} {te : TE} {fv : PSt → (D → Prop) → Prop} [h : SimX K e te fv] : SimX K e (tFldC C f te) (tvFld C f fv) := ⟨fun σ H S T U Qd Q x hf k => by
  refine h.run σ H S T U _ _ x hf fun d v hq dv => ?_
  obtain ⟨o, ho, hq⟩ := dd1_inv hq
  obtain ⟨fs, y, rfl, hl, q⟩ := fldF_inv hq
  obtain ⟨a, dx, xs, rfl, ha, dvf⟩ : Vw K S.W.Tp U H v (.obj C fs) := x.vw (r := .d d) dv ho
  obtain ⟨z, hz, dz⟩ := DvF.look_some dvf hl
  exact ⟨a, dx, xs, z, rfl, ha, hz, k _ _ q dz⟩, fun S Q hf => by
  obtain ⟨d, hd⟩ := h.ex S _ hf
  obtain ⟨o, ho, hq⟩ := dd1_inv hd
  obtain ⟨fs, y, rfl, hl, q⟩ := fldF_inv hq
  exact ⟨y, q⟩⟩
/-! ### for x in o, o of an own class -/
def forL (g : TDG) (tb : TDS) (E : DEnds) (b : Addr) (od : Obj) (vs : List (Key × V)) (ks : List (Key × D)) : List D → PSt → Prop
  | [], S => S.W.ω b = some (.lk od vs ks) ∧ E.nx ⟨S.ρ, S.W.put b (.dct ks)⟩
  | d :: ds, S => S.W.ω b = some (.lk od vs ks) ∧ ∃ N : PSt → Prop, (∀ S', N S' → forL g tb E b od vs ks ds S') ∧ g d S fun S2 => tb ⟨N, fun r W => W.ω b = some (.lk od vs ks) ∧ E.rt r (W.put b (.dct ks)), fun S' => S'.W.ω b = some (.lk od vs ks) ∧ E.nx ⟨S'.ρ, S'.W.put b (.dct ks)⟩, N, fun _ _ => False⟩ S2
def refD (Q : Addr → Prop) : D → Prop
  | .ref b => Q b
  | _ => False
def dctC (Q : List (Key × D) → Prop) : Option Cell → Prop
  | some (.dct ks) => Q ks
  | _ => False
theorem refD_inv {Q : Addr → Prop} {d : D} (h : refD Q d) : ∃ b, d = .ref b ∧ Q b := by
  cases d with
  | ref b => exact ⟨b, rfl, h⟩
  | _ => exact h.elim
theorem dctC_inv {Q : List (Key × D) → Prop} {o : Option Cell} (h : dctC Q o) : ∃ ks, o = some (.dct ks) ∧ Q ks := by
  cases o with
  | none => exact h.elim
  | some c =>
    cases c with
    | dct ks => exact ⟨ks, rfl, h⟩
    | lst ds => exact h.elim
    | ins C fs => exact h.elim
    | lk od vs ks => exact h.elim
/-- what is walked: the dict at b, its keys -/
def ownW (C : Addr) (fld : Str) (fv : PSt → (D → Prop) → Prop) (S : PSt) (Q : Addr → Obj → List (Key × V) → List (Key × D) → Prop) : Prop :=
  fv S fun d => dd1 S (.d d) (fldF C fld (refD fun b => dctC (fun ks => ∀ od vs, fv ⟨S.ρ, S.W.put b (.lk od vs ks)⟩ fun d' => dd1 ⟨S.ρ, S.W.put b (.lk od vs ks)⟩ (.d d') (fldF C fld fun v' => v' = .ref b ∧ Q b od vs ks)) (S.W.ω b)))
def tdForO (C : Addr) (fld : Str) (fv : PSt → (D → Prop) → Prop) (g : TDG) (tb : TDS) : TDS := fun E S => ownW C fld fv S fun b od vs ks => forL g tb E b od vs ks (ks.map fun p : Key × D => keyV p.1) ⟨S.ρ, S.W.put b (.lk od vs ks)⟩
theorem own_lock {C : Addr} {fld : Str} {te : TE} {fv : PSt → (D → Prop) → Prop} [h1 : SimX K e te fv] {Q : Addr → Obj → List (Key × V) → List (Key × D) → Prop} (x : RU K e σ H S T U) (h : ownW C fld fv S Q) :
    ∃ (b : Addr) (vs : List (Key × V)) (ks : List (Key × D)), S.W.ω b = some (.dct ks) ∧ H b = some (.dK vs) ∧ (∀ c0, e.W.ω b = some c0 → c0.isMut) ∧
      ∀ (od : Obj) (R' : It → Hp → Prop), (Q b od vs ks → RU K e σ (upd H b (.frz od (.dK vs))) ⟨S.ρ, S.W.put b (.lk od vs ks)⟩ T U → R' (Itk b od vs) (upd H b (.frz od (.dK vs)))) → iOwnK C fld te σ (upd H b (.frz od (.dK vs))) R' := by
  obtain ⟨d, hd⟩ := h1.ex S _ h
  obtain ⟨o, ho, hd⟩ := dd1_inv hd
  obtain ⟨fs, y, rfl, hl, hd⟩ := fldF_inv hd
  obtain ⟨b, rfl, hd⟩ := refD_inv hd
  obtain ⟨ks, hb, hd⟩ := dctC_inv hd
  obtain ⟨u, vs, hH, dk⟩ := x.wo.cell b _ hb
  refine ⟨b, vs, ks, hb, hH, x.mutE hb trivial, fun od R' k => ?_⟩
  have x1 := x.lockC hb hH od
  refine h1.run σ _ _ T U _ _ x1 (hd od vs) fun d' v hq dv => ?_
  obtain ⟨o, ho, hq⟩ := dd1_inv hq
  obtain ⟨fs', y', rfl, hl, rfl, hq⟩ := fldF_inv hq
  obtain ⟨a, dx, xs, rfl, ha, dvf⟩ := x1.vw (r := .d d') dv ho
  obtain ⟨z, hz, dz⟩ := DvF.look_some dvf hl
  cases dz
  exact ⟨a, dx, xs, b, od, vs, rfl, ha, hz, upd_same, k hq x1⟩
instance simForO {C : Addr} {fld : Str} {te : TE} {fv : PSt → (D → Prop) → Prop} {g : TG} {tb : TS} {g' : TDG} {tb' : TDS} [h1 : SimX K e te fv] [h2 : SimG K e g g'] [h3 : SimS K e tb tb'] : SimS K e (tLock (tFor (iOwnK C fld te) g tb)) (tdForO C fld fv g' tb') := ⟨fun σ H S T Ed E hT ⟨U, x⟩ h k => by
  obtain ⟨b, vs, ks, hb, hH, hm, hlk⟩ := own_lock (te := te) x h
  refine ⟨b, .dK vs, hH, trivial, fun od => hlk od _ fun hf x1 => ?_⟩
  refine ⟨fun i m σ H => m = (ks.map fun p : Key × D => keyV p.1).length - i ∧ i ≤ (ks.map fun p : Key × D => keyV p.1).length ∧ ∃ S, forL g' tb' Ed b od vs ks ((ks.map fun p : Key × D => keyV p.1).drop i) S ∧ R K e σ H S T, ⟨_, rfl, Nat.zero_le _, _, hf, U, x1⟩, ?_⟩
  rintro i m σ H ⟨rfl, hi, S, hf, x⟩
  by_cases c : i < (ks.map fun p : Key × D => keyV p.1).length
  · rw [List.drop_eq_getElem_cons c] at hf
    obtain ⟨hw, N, hN, hf⟩ := hf
    obtain ⟨i1, i2⟩ := cell_keys (i := i) hw x
    obtain ⟨g1, g2⟩ := i2 c
    refine .inr ⟨g1, fun σ' H' => ∃ S', N S' ∧ R K e σ' H' S' T, ?_, fun v H' hy => ?_⟩
    · rintro σ' H' ⟨S', n, x'⟩
      exact ⟨_, by omega, rfl, by omega, S', hN S' n, x'⟩
    · obtain ⟨d, hd', x'⟩ := g2 v H' hy
      have : d = (ks.map fun p : Key × D => keyV p.1)[i] := by rw [List.getElem?_eq_getElem c] at hd'; exact (Option.some.inj hd').symm
      subst this
      refine h2.run v _ σ H' S T _ _ hT x' hf fun S2 σ2 H2 hb2 x2 => ?_
      refine h3.run σ2 H2 S2 T _ _ hT x2 hb2 ⟨fun S' σ' H' n x' => ⟨S', n, x'⟩, fun d S' σ' v H' q ⟨U', x'⟩ => ?_, fun S' σ' H' q ⟨U', x'⟩ => ?_, fun S' σ' H' n x' => ⟨S', n, x'⟩, fun _ _ _ _ _ q => q.elim⟩
      · obtain ⟨e1, x2⟩ := x'.looseC q.1 hm
        exact ⟨e1, k.rt d ⟨S'.ρ, S'.W.put b (.dct ks)⟩ σ' v _ q.2 ⟨U', x2⟩⟩
      · obtain ⟨e1, x2⟩ := x'.looseC q.1 hm
        exact ⟨e1, k.nx _ _ _ q.2 ⟨U', x2⟩⟩
  · rw [List.drop_of_length_le (by omega)] at hf
    obtain ⟨hw, hf⟩ := hf
    obtain ⟨i1, i2⟩ := cell_keys (i := i) hw x
    obtain ⟨U', x'⟩ := x
    obtain ⟨e1, x2⟩ := x'.looseC hw hm
    exact .inl ⟨i1 (by omega), e1, k.nx _ _ _ hf ⟨U', x2⟩⟩⟩
/-! ### [.. for x in o], o of an own class -/
def compL (g : TDG) (tt : TDT) (te : TDE) (vs : List Nat) (Q : List D → PSt → Prop) (b : Addr) (od : Obj) (vk : List (Key × V)) (ks : List (Key × D)) : List D → List D → PSt → Prop
  | [], acc, S => S.W.ω b = some (.lk od vk ks) ∧ Q acc ⟨S.ρ, S.W.put b (.dct ks)⟩
  | d :: ds, acc, S => S.W.ω b = some (.lk od vk ks) ∧ ∃ N : List D → PSt → Prop, (∀ a S', N a S' → compL g tt te vs Q b od vk ks ds a S') ∧
    g d S fun S2 => tt S2 fun b S3 => if b = true then te S3 fun r S4 => frc r S4 fun y S5 => acc.length ≤ 999999 ∧ N (acc ++ [y]) (S5.wipe vs) else N acc (S3.wipe vs)
def tnLcO (C : Addr) (fld : Str) (fv : PSt → (D → Prop) → Prop) (g : TDG) (tt : TDT) (te : TDE) (vs : List Nat) : TDN := fun S Q => ownW C fld fv S fun b od vk ks => compL g tt te vs Q b od vk ks (ks.map fun p : Key × D => keyV p.1) [] (PSt.wipe ⟨S.ρ, S.W.put b (.lk od vk ks)⟩ vs)
instance simLcO {C : Addr} {fld : Str} {tx : TE} {fv : PSt → (D → Prop) → Prop} {g : TG} {tt : TT} {te : TE} {vs : List Nat} {g' : TDG} {tt' : TDT} {te' : TDE} [h1 : SimX K e tx fv] [h2 : SimG K e g g'] [hw : GW g vs] [h3 : SimT K e tt tt'] [h4 : SimE K e te te'] : SimN K e (tLockE (tLc (iOwnK C fld tx) g tt te vs)) (tnLcO C fld fv g' tt' te' vs) := ⟨fun σ H S T Qd Q x0 h k => by
  obtain ⟨U0, x0⟩ := x0
  have xf := x0.less (T' := T.filter notOwn) fun p hp => (List.mem_filter.mp hp).1
  have hT := noOwn_filter T
  obtain ⟨b, vk, ks, hb, hH, hm, hlk⟩ := own_lock (te := tx) xf h
  refine ⟨b, .dK vk, hH, trivial, fun od => hlk od _ fun hd x1 => ?_⟩
  intro l hl
  have nt : NoTm (T.filter notOwn) l := by
    obtain ⟨_, _, _, f⟩ := x1.moreU (o := .lst []) hl
    exact f
  refine ⟨fun i m H => m = (ks.map fun p : Key × D => keyV p.1).length - i ∧ i ≤ (ks.map fun p : Key × D => keyV p.1).length ∧ ∃ S acc, compL g' tt' te' vs Qd b od vk ks ((ks.map fun p : Key × D => keyV p.1).drop i) acc S ∧ (∃ S0 : PSt, S = S0.wipe vs) ∧ RN K e (wipe σ vs) H S (T.filter notOwn) l acc, ⟨_, rfl, Nat.zero_le _, _, [], hd, ⟨_, rfl⟩, ?_⟩, ?_⟩
  · exact (x1.wipe vs hT).newL hl .nil
  rintro i m H ⟨rfl, hi, S, acc, hf, ⟨S0, hS0⟩, x⟩
  obtain ⟨U, xs, xu, ow, ns, _, hlm, hxs⟩ := x.ex
  have xr : R K e (wipe σ vs) H S (.nw l acc :: T.filter notOwn) := ⟨U, xu.push (p := .nw l acc) ⟨ow, ns, xs, hlm, hxs⟩⟩
  have hTn : NoOwn (.nw l acc :: T.filter notOwn) := fun p hp w j z => by
    rcases List.mem_cons.mp hp with rfl | hp
    · cases z
    · exact hT p hp w j z
  have back : ∀ {σ2 : St} {H2 : Hp} {S2 : PSt}, wipe σ2 vs = wipe σ vs → R K e σ2 H2 S2 (.nw l acc :: T.filter notOwn) → RN K e (wipe σ vs) H2 (S2.wipe vs) (T.filter notOwn) l acc := by
    intro σ2 H2 S2 e2 x2
    obtain ⟨U2, x2⟩ := x2
    have x3 := x2.wipe vs hTn
    rw [e2] at x3
    obtain ⟨o3, n3, v3, h3, d3⟩ := x3.tmp (.nw l acc) (by simp)
    exact ⟨U2, v3, x3.less fun p hp => List.mem_cons_of_mem _ hp, o3, n3, nt, h3, d3⟩
  by_cases c : i < (ks.map fun p : Key × D => keyV p.1).length
  · rw [List.drop_eq_getElem_cons c] at hf
    obtain ⟨hwk, N, hN, hf⟩ := hf
    obtain ⟨i1, i2⟩ := cell_keys (i := i) hwk xr
    obtain ⟨g1, g2⟩ := i2 c
    refine .inr ⟨g1, fun H' => ∃ S' acc', N acc' S' ∧ (∃ S0 : PSt, S' = S0.wipe vs) ∧ RN K e (wipe σ vs) H' S' (T.filter notOwn) l acc', ?_, fun v H' hy => ?_⟩
    · rintro H' ⟨S', acc', n, hS', x'⟩
      exact ⟨_, by omega, rfl, by omega, S', acc', hN _ _ n, hS', x'⟩
    · obtain ⟨d, hd', x'⟩ := g2 v H' hy
      have : d = (ks.map fun p : Key × D => keyV p.1)[i] := by rw [List.getElem?_eq_getElem c] at hd'; exact (Option.some.inj hd').symm
      subst this
      have ww := hw.w v (wipe σ vs) H'
      rw [wipe_wipe] at ww
      refine ww _ (h2.run v _ (wipe σ vs) H' S (.nw l acc :: T.filter notOwn) _ _ hTn x' hf fun S2 σ2 H2 hb x2 e2 => ?_)
      refine h3.run σ2 H2 S2 _ _ _ x2 hb fun b S3 H3 hb x3 => ?_
      cases b
      · exact ⟨_, _, hb, ⟨_, rfl⟩, back e2 x3⟩
      · refine h4.run σ2 H3 S3 _ _ _ x3 hb fun r S4 y H4 hr x4 => x4.frc hr fun dy S5 h5 x5 => ?_
        obtain ⟨U5, x5⟩ := x5
        have x7 := x5.wipe vs (fun p hp w j z => by
          rcases List.mem_cons.mp hp with rfl | hp
          · cases z
          · exact hTn p hp w j z)
        rw [e2] at x7
        obtain ⟨o3, n3, v3, h3, d3⟩ := x7.tmp (.nw l acc) (by simp)
        have rn : RN K e (wipe σ vs) H4 (S5.wipe vs) (.v y (.d dy) :: T.filter notOwn) l acc := ⟨U5, v3, x7.less fun p hp => by
          rcases List.mem_cons.mp hp with rfl | hp
          · exact List.mem_cons_self
          · exact List.mem_cons_of_mem _ (List.mem_cons_of_mem _ hp), o3, n3, fun ds hm => by
          rcases List.mem_cons.mp hm with z | z
          · cases z
          · exact nt ds z, h3, d3⟩
        obtain ⟨vs', e1, e3, rn'⟩ := rn.app
        exact ⟨vs', e1, Nat.lt_of_le_of_lt (by rw [e3]; exact h5.1) (by decide), _, _, h5.2, ⟨_, rfl⟩, rn'⟩
  · rw [List.drop_of_length_le (by omega)] at hf
    obtain ⟨hwk, hf⟩ := hf
    obtain ⟨i1, i2⟩ := cell_keys (i := i) hwk xr
    subst hS0
    have x5 := xu.unwipe hT
    have x6 : RU K e σ H (S0.wipe vs) ([] ++ T.filter notOwn) U := x5
    have x7 : RU K e σ H (S0.wipe vs) T U := x0.back x6
    obtain ⟨e1, x8⟩ := x7.looseC hwk hm
    have nlb : l ≠ b := fun z => by
      have := ow.w
      rw [z, hwk] at this
      cases this
    have ub : U b := (x7.wo.cell b _ hwk).1
    refine .inl ⟨i1 (by omega), e1, k _ _ _ _ hf ⟨U, xs, x8, ⟨ow.u, ow.e0, ow.tp, by rw [Wd.put_ne nlb]; exact ow.w⟩, fun j c hj oc => ?_, fun ds hm => ?_, by rw [upd_ne nlb]; exact hlm, DvL.le (Same.lq (Hd.upd ub)) (fun _ z => z) hxs⟩⟩
    · obtain ⟨h1, h2⟩ := wipeR_some (ρ := S0.ρ) hj
      have := ns j c hj oc
      rw [wipe_get, if_neg (fun z => h2 z.1)] at this
      exact this
    · exact nt ds (List.mem_filter.mpr ⟨hm, rfl⟩)⟩
/-! ### [.. for x in xs], xs a list that is a cell -/
def compR (g : TDG) (tt : TDT) (te : TDE) (vs : List Nat) (Q : List D → PSt → Prop) (b : Addr) (es : List D) : List D → List D → PSt → Prop
  | [], acc, S => S.W.ω b = some (.lst es) ∧ Q acc S
  | d :: ds, acc, S => S.W.ω b = some (.lst es) ∧ ∃ N : List D → PSt → Prop, (∀ a S', N a S' → compR g tt te vs Q b es ds a S') ∧
    g d S fun S2 => tt S2 fun b S3 => if b = true then te S3 fun r S4 => frc r S4 fun y S5 => acc.length ≤ 999999 ∧ N (acc ++ [y]) (S5.wipe vs) else N acc (S3.wipe vs)
def tnLcR (td : TDE) (g : TDG) (tt : TDT) (te : TDE) (vs : List Nat) : TDN := fun S Q => td S fun r S1 => refF S1 (fun a ds => compR g tt te vs Q a ds ds [] (S1.wipe vs)) r
instance simLcR {tx : TE} {g : TG} {tt : TT} {te : TE} {vs : List Nat} {tx' : TDE} {g' : TDG} {tt' : TDT} {te' : TDE} [h1 : SimE K e tx tx'] [h2 : SimG K e g g'] [hw : GW g vs] [h3 : SimT K e tt tt'] [h4 : SimE K e te te'] : SimN K e (tLc (iRef K tx) g tt te vs) (tnLcR tx' g' tt' te' vs) := ⟨fun σ H S T Qd Q x0 h k => by
  obtain ⟨U0, x0⟩ := x0
  have xf : R K e σ H S (T.filter notOwn) := ⟨U0, x0.less fun p hp => (List.mem_filter.mp hp).1⟩
  have hT := noOwn_filter T
  refine h1.run σ H S (T.filter notOwn) _ _ xf h fun r S1 v H1 hd x1 => ?_
  obtain ⟨b, es, rfl, hq0, hd⟩ := refF_inv hd
  have hv : v = .ref b := by
    obtain ⟨U, x⟩ := x1
    have hv : Dv K S1.W.Tp (Hd U H1) v (.ref b) := x.tmp (.v v (.d (.ref b))) (by simp)
    cases hv; rfl
  subst hv
  obtain ⟨U1, x1⟩ := x1.pop
  have hsq : ∃ xs, SqL K H1 b xs := by
    obtain ⟨u, vs, e2, t⟩ := x1.wo.cell b _ hq0
    exact ⟨vs, SqL.of e2⟩
  refine .inl ⟨b, rfl, .inl ⟨hsq, ?_⟩⟩
  intro l hl
  have nt : NoTm (T.filter notOwn) l := by
    obtain ⟨_, _, _, f⟩ := x1.moreU (o := .lst []) hl
    exact f
  refine ⟨fun i m H => m = es.length - i ∧ i ≤ es.length ∧ ∃ S acc, compR g' tt' te' vs Qd b es (es.drop i) acc S ∧ (∃ S0 : PSt, S = S0.wipe vs) ∧ RN K e (wipe σ vs) H S (T.filter notOwn) l acc, ⟨_, rfl, Nat.zero_le _, _, [], hd, ⟨_, rfl⟩, ?_⟩, ?_⟩
  · exact (x1.wipe vs hT).newL hl .nil
  rintro i m H ⟨rfl, hi, S, acc, hf, ⟨S0, hS0⟩, x⟩
  obtain ⟨U, xs, xu, ow, ns, _, hlm, hxs⟩ := x.ex
  have xr : R K e (wipe σ vs) H S (.nw l acc :: T.filter notOwn) := ⟨U, xu.push (p := .nw l acc) ⟨ow, ns, xs, hlm, hxs⟩⟩
  have hTn : NoOwn (.nw l acc :: T.filter notOwn) := fun p hp w j z => by
    rcases List.mem_cons.mp hp with rfl | hp
    · cases z
    · exact hT p hp w j z
  have back : ∀ {σ2 : St} {H2 : Hp} {S2 : PSt}, wipe σ2 vs = wipe σ vs → R K e σ2 H2 S2 (.nw l acc :: T.filter notOwn) → RN K e (wipe σ vs) H2 (S2.wipe vs) (T.filter notOwn) l acc := by
    intro σ2 H2 S2 e2 x2
    obtain ⟨U2, x2⟩ := x2
    have x3 := x2.wipe vs hTn
    rw [e2] at x3
    obtain ⟨o3, n3, v3, h3, d3⟩ := x3.tmp (.nw l acc) (by simp)
    exact ⟨U2, v3, x3.less fun p hp => List.mem_cons_of_mem _ hp, o3, n3, nt, h3, d3⟩
  by_cases c : i < es.length
  · rw [List.drop_eq_getElem_cons c] at hf
    obtain ⟨hwk, N, hN, hf⟩ := hf
    obtain ⟨i1, i2⟩ := cell_list (i := i) hwk xr
    obtain ⟨g1, g2⟩ := i2 c
    refine .inr ⟨g1, fun H' => ∃ S' acc', N acc' S' ∧ (∃ S0 : PSt, S' = S0.wipe vs) ∧ RN K e (wipe σ vs) H' S' (T.filter notOwn) l acc', ?_, fun v H' hy => ?_⟩
    · rintro H' ⟨S', acc', n, hS', x'⟩
      exact ⟨_, by omega, rfl, by omega, S', acc', hN _ _ n, hS', x'⟩
    · obtain ⟨d, hd', x'⟩ := g2 v H' hy
      have : d = es[i] := by rw [List.getElem?_eq_getElem c] at hd'; exact (Option.some.inj hd').symm
      subst this
      have ww := hw.w v (wipe σ vs) H'
      rw [wipe_wipe] at ww
      refine ww _ (h2.run v _ (wipe σ vs) H' S (.nw l acc :: T.filter notOwn) _ _ hTn x' hf fun S2 σ2 H2 hb x2 e2 => ?_)
      refine h3.run σ2 H2 S2 _ _ _ x2 hb fun b S3 H3 hb x3 => ?_
      cases b
      · exact ⟨_, _, hb, ⟨_, rfl⟩, back e2 x3⟩
      · refine h4.run σ2 H3 S3 _ _ _ x3 hb fun r S4 y H4 hr x4 => x4.frc hr fun dy S5 h5 x5 => ?_
        obtain ⟨U5, x5⟩ := x5
        have x7 := x5.wipe vs (fun p hp w j z => by
          rcases List.mem_cons.mp hp with rfl | hp
          · cases z
          · exact hTn p hp w j z)
        rw [e2] at x7
        obtain ⟨o3, n3, v3, h3, d3⟩ := x7.tmp (.nw l acc) (by simp)
        have rn : RN K e (wipe σ vs) H4 (S5.wipe vs) (.v y (.d dy) :: T.filter notOwn) l acc := ⟨U5, v3, x7.less fun p hp => by
          rcases List.mem_cons.mp hp with rfl | hp
          · exact List.mem_cons_self
          · exact List.mem_cons_of_mem _ (List.mem_cons_of_mem _ hp), o3, n3, fun ds hm => by
          rcases List.mem_cons.mp hm with z | z
          · cases z
          · exact nt ds z, h3, d3⟩
        obtain ⟨vs', e1, e3, rn'⟩ := rn.app
        exact ⟨vs', e1, Nat.lt_of_le_of_lt (by rw [e3]; exact h5.1) (by decide), _, _, h5.2, ⟨_, rfl⟩, rn'⟩
  · rw [List.drop_of_length_le (by omega)] at hf
    obtain ⟨hwk, hf⟩ := hf
    obtain ⟨i1, i2⟩ := cell_list (i := i) hwk xr
    subst hS0
    have x5 := xu.unwipe hT
    have x6 : RU K e σ H (S0.wipe vs) ([] ++ T.filter notOwn) U := x5
    have x7 : RU K e σ H (S0.wipe vs) T U := x0.back x6
    refine .inl ⟨i1 (by omega), k _ _ _ _ hf ⟨U, xs, x7, ow, fun j c hj oc => ?_, fun ds hm => ?_, hlm, hxs⟩⟩
    · obtain ⟨h1, h2⟩ := wipeR_some (ρ := S0.ρ) hj
      have := ns j c hj oc
      rw [wipe_get, if_neg (fun z => h2 z.1)] at this
      exact this
    · exact nt ds (List.mem_filter.mpr ⟨hm, rfl⟩)⟩
end
end Kn

set_option Elab.async false
set_option maxRecDepth 100000
set_option linter.all false
set_option autoImplicit false
namespace Kn
open PySem L2
section
variable {K : PySem.W.Frag} {e : Ent}
/-! ### d.get(k, x) -/
def getF (k : Key) (z : D) (Q : D → Prop) : D → Prop
  | .dct ks => Q ((look ks k).getD z)
  | _ => False
theorem getF_inv {k : Key} {z d : D} {Q : D → Prop} (h : getF k z Q d) : ∃ ks, d = .dct ks ∧ Q ((look ks k).getD z) := by
  cases d with
  | dct ks => exact ⟨ks, rfl, h⟩
  | _ => exact h.elim
def tdGet2 (td ty tx : TDE) : TDE := fun S Q => td S fun rx S1 => (∃ ks, derefD S1 rx = some (.dct ks)) ∧ ty S1 fun ry S2 => tx S2 fun rz S3 => frc rz S3 fun dz S4 => dd1 S4 ry fun dk => opt (keyD dk) fun k => dd1 S4 rx (getF k dz fun d => Q (.d d) S4)
instance simGet2 {td ty tx : TE} {td' ty' tx' : TDE} [h1 : SimE K e td td'] [h2 : SimE K e ty ty'] [h3 : SimE K e tx tx'] : SimE K e (tDGet2 td ty tx) (tdGet2 td' ty' tx') := ⟨fun σ H S T Qd Q x h k => by
  refine h1.run σ H S T _ _ x h fun rx S1 v H1 hr x1 => ?_
  obtain ⟨⟨ks0, hd0⟩, hr⟩ := hr
  obtain ⟨U0, _, vw0, _⟩ := x1.one hd0
  obtain ⟨a, xs0, rfl, g0, _⟩ : Vw K S1.W.Tp U0 H1 v (.dct ks0) := vw0
  refine ⟨a, rfl, .inl ⟨xs0, g0⟩, h2.run σ H1 S1 _ _ _ x1 hr fun ry S2 y H2 hr x2 => ?_⟩
  refine h3.run σ H2 S2 _ _ _ x2 hr fun rz S3 z H3 hr x3 => x3.frc hr fun dz S4 hr x4 => ?_
  obtain ⟨dk, hk, hr⟩ := dd1_inv hr
  obtain ⟨key, hkey, hr⟩ := opt_inv hr
  obtain ⟨dd, hdd, hr⟩ := dd1_inv hr
  obtain ⟨ks, rfl, hr'⟩ := getF_inv hr
  clear hr
  have hr := hr'
  clear hr'
  obtain ⟨Uy, _, vy, _⟩ := R.one (x4.less (T' := .v y ry :: T) fun p hp => by
    rcases List.mem_cons.mp hp with rfl | hp
    · simp
    · simp [hp]) hk
  have ey := keyD_v vy hkey
  obtain ⟨U, wT, vw, _⟩ := R.one (T := .v z (.d dz) :: T) (x4.less (T' := .v (.ref a) rx :: .v z (.d dz) :: T) fun p hp => by
    rcases List.mem_cons.mp hp with rfl | hp
    · simp
    · rcases List.mem_cons.mp hp with rfl | hp
      · simp
      · simp [hp]) hdd
  obtain ⟨p, xs, e1, g1, g2⟩ : Vw K S4.W.Tp U H3 (.ref a) (.dct ks) := vw
  cases e1
  cases hl : look ks key with
  | none =>
    rw [hl] at hr
    exact ⟨none, .inl ⟨xs, key, g1, ey, (g2.look_none hl).symm⟩, k _ _ _ _ hr ⟨U, wT⟩⟩
  | some d =>
    rw [hl] at hr
    obtain ⟨v', h5, h6⟩ := g2.look_some hl
    exact ⟨some v', .inl ⟨xs, key, g1, ey, h5.symm⟩, k _ _ _ _ hr ⟨U, (wT.less fun p hp => List.mem_cons_of_mem _ hp).push h6⟩⟩⟩
/-! ### xs.pop(i) -/
def popI (ds : List D) (i : Int) : Option (Nat × D) := (ixN ds.length i).bind fun j => ds[j]?.map fun y => (j, y)
theorem popI_inv {ds : List D} {i : Int} {p : Nat × D} (h : popI ds i = some p) : ixN ds.length i = some p.1 ∧ ds[p.1]? = some p.2 := by
  obtain ⟨j, h1, h2⟩ := Option.bind_eq_some_iff.mp h
  obtain ⟨y, h3, rfl⟩ := Option.map_eq_some_iff.mp h2
  exact ⟨h1, h3⟩
theorem popI_at {ds : List D} {i : Int} {j : Nat} {y : D} (e : i = (j : Int)) (h : ds[j]? = some y) : popI ds i = some (j, y) := by
  have hj : j < ds.length := (List.getElem?_eq_some_iff.mp h).1
  unfold popI
  have : ixN ds.length i = some j := by
    subst e
    unfold ixN
    rw [if_pos (by omega)]
    simp [hj]
  rw [this]
  simp [h]
def popF (i : Int) (G : List D → Nat → D → Prop) : D → Prop
  | .lst ds => (-(2 ^ 63) ≤ i ∧ i < 2 ^ 63) ∧ opt (popI ds i) fun p => G ds p.1 p.2
  | _ => False
theorem popF_inv {i : Int} {G : List D → Nat → D → Prop} {d : D} (h : popF i G d) : ∃ ds, d = .lst ds ∧ (-(2 ^ 63) ≤ i ∧ i < 2 ^ 63) ∧ opt (popI ds i) fun p => G ds p.1 p.2 := by
  cases d with
  | lst ds => exact ⟨ds, rfl, h⟩
  | _ => exact h.elim
theorem asI_inv {r : Rv} {F : Int → Prop} (h : asI r F) : ∃ i, r = .d (.int i) ∧ F i := by
  cases r with
  | own j => exact h.elim
  | d d =>
    cases d with
    | int i => exact ⟨i, rfl, h⟩
    | _ => exact h.elim
theorem RU.mutU {σ : St} {H : Hp} {S : PSt} {T : List Tm} {U : Addr → Prop} {v : V} {r : Rv} {F : List D → (List D → Prop) → Prop} {Q : List D → PSt → Prop} (x : RU K e σ H S (.v v r :: T) U) (h : Kn.mutL S r F Q) {l : Addr} (e1 : v = .ref l) : U l := by
  match r, x, h with
  | .own j, x, h =>
    have hs : σ[j]? = some (some v) := x.tmp (.v v (.own j)) (by simp)
    have h : mutO S j F Q S.ρ[j]? := h
    match q : S.ρ[j]?, h with
    | some (some (.ownL ds)), h =>
      obtain ⟨l', vs, e2, ow, _⟩ := x.ownL q
      rw [hs, e1] at e2; cases e2
      exact ow.u
  | .d (.ref a), x, h =>
    have hv : Dv K S.W.Tp (Hd U H) v (.ref a) := x.tmp (.v v (.d (.ref a))) (by simp)
    cases hv
    injection e1 with e1
    subst e1
    have h : mutC S a F Q (S.W.ω a) := h
    cases q : S.W.ω a with
    | none => rw [q] at h; exact h.elim
    | some c => exact (x.wo.cell a c q).1
theorem DvL.erase {Tp : Addr → Prop} {H : Hp} : ∀ (n : Nat) {vs : List V} {ds : List D}, DvL K Tp H vs ds → DvL K Tp H (vs.eraseIdx n) (ds.eraseIdx n)
  | _, _, _, .nil => .nil
  | 0, _, _, .cons _ a => a
  | n + 1, _, _, .cons h a => .cons h (DvL.erase n a)
def tdPopAt (to : TDE) (t : TDA) : TDE := fun S Q => to S fun rx S1 => (∃ ds, derefD S1 rx = some (.lst ds)) ∧ t S1 fun rs S2 => arg1 rs fun r => asI r fun i => dd1 S2 rx (popF i fun ds j y => mutL S2 rx (fun ds' k => ds' = ds ∧ k (ds.eraseIdx j)) fun _ S3 => Q (.d y) S3)
instance simPopAt {to : TE} {t : TA} {to' : TDE} {t' : TDA} [h1 : SimE K e to to'] [h2 : SimA K e t t'] : SimE K e (tBM K "list" rPopAt to t) (tdPopAt to' t') := ⟨fun σ H S T Qd Q x h k => by
  refine h1.run σ H S T _ _ x h fun rx S1 v H1 hr x1 => ?_
  obtain ⟨⟨ds0, hd0⟩, hr⟩ := hr
  refine ⟨tyV_list x1 hd0, h2.run σ H1 S1 _ _ _ x1 hr fun rs S2 vs H2 hr hl x2 => ?_⟩
  obtain ⟨r, rfl, hr⟩ := arg1_inv hr
  obtain ⟨y, rfl⟩ := len1 hl
  obtain ⟨i, rfl, hr⟩ := asI_inv hr
  obtain ⟨d, hd, hr⟩ := dd1_inv hr
  obtain ⟨ds, rfl, hb, hr⟩ := popF_inv hr
  obtain ⟨⟨j, yd⟩, hj, hr⟩ := opt_inv hr
  obtain ⟨a1, a2⟩ := popI_inv hj
  have ey : y = .int i := by
    obtain ⟨U, x2⟩ := x2
    have := x2.tmp (.v y (.d (.int i))) (by simp [tms])
    have this : Dv K S2.W.Tp (Hd U H2) y (.int i) := this
    cases this; rfl
  subst ey
  have x3 : R K e σ H2 S2 (.v v rx :: T) := x2.less fun p hp => by simp [tms]; exact .inr (by simpa using hp)
  refine x3.mutL hr fun l xs ds' U Qs e1 e2 e3 x4 hq kk => ?_
  obtain ⟨rfl, hq⟩ := hq
  obtain ⟨yv, h5, h6⟩ := e3.get a2
  obtain ⟨S4, q4, x5, etp⟩ := kk (xs.eraseIdx j) _ hq (e3.erase j)
  have u : U l := x4.mutU hr e1
  have h7 : Dv K S4.W.Tp (Hd U (upd H2 l (.lst (xs.eraseIdx j)))) yv yd := by
    rw [etp]
    exact Dv.le (Same.lq (Hd.upd u)) (fun _ z => z) h6
  exact ⟨l, xs, i, j, yv, e1, rfl, e2, hb.1, hb.2, by rw [e3.len]; exact (ixN_seq a1).1, h5, k _ _ _ _ q4 ⟨U, x5.push h7⟩⟩⟩
/-! ### tuple(range(n)), list(range(n)) -/
abbrev TRg := St → Hp → (Int → Int → Hp → Prop) → Prop
abbrev TDRg := PSt → (Int → Int → PSt → Prop) → Prop
class SimRg (K : PySem.W.Frag) (e : Ent) (te : TRg) (t : outParam TDRg) : Prop where
  run : ∀ (σ : St) (H : Hp) (S : PSt) (T : List Tm) (Qd : Int → Int → PSt → Prop) (Q : Int → Int → Hp → Prop), R K e σ H S T → t S Qd → (∀ a b S' H', Qd a b S' → R K e σ H' S' T → Q a b H') → te σ H Q
def tdRg1 (ta : TDE) : TDRg := fun S Q => ta S fun r S1 => asI r fun n => Q 0 n S1
instance simRg1 {ta : TE} {ta' : TDE} [h1 : SimE K e ta ta'] : SimRg K e (tRg1 ta) (tdRg1 ta') := ⟨fun σ H S T Qd Q x h k => by
  refine h1.run σ H S T _ _ x h fun r S1 v H1 hr x1 => ?_
  obtain ⟨n, rfl, hr⟩ := asI_inv hr
  obtain ⟨U, wT, vw, _⟩ := R.one (T := T) (a := .int n) x1 rfl
  exact ⟨n, vw.int, k _ _ _ _ hr ⟨U, wT⟩⟩⟩
theorem rgV_dv {Tp : Addr → Prop} {H : Hp} (a b : Int) : DvL K Tp H (rgV a b) (rng a (b - a).toNat) := by
  have : ∀ l : List Nat, DvL K Tp H (l.map fun i => V.int (a + (i : Nat))) (l.map fun (i : Nat) => D.int (a + (i : Int))) := fun l => by
    induction l with
    | nil => exact .nil
    | cons i l ih => exact .cons (.int _) ih
  exact this _
def tdTupRg (t : TDRg) : TDE := fun S Q => t S fun a b S1 => (0 ≤ a ∧ a ≤ 1000000 ∧ 0 ≤ b ∧ b ≤ 1000000) ∧ Q (.d (.tup (rng a (b - a).toNat))) S1
instance simTupRg {te : TRg} {t : TDRg} [h1 : SimRg K e te t] : SimE K e (tTupRg te) (tdTupRg t) := ⟨fun σ H S T Qd Q x h k => by
  refine h1.run σ H S T _ _ x h fun a b S1 H1 hr x1 => ?_
  obtain ⟨⟨a1, a2, a3, a4⟩, hr⟩ := hr
  obtain ⟨U, x1⟩ := x1
  exact ⟨RgOk.of_le a1 (by omega) (by omega) a3, fun q hq => k _ _ _ _ hr (x1.newT hq (rgV_dv a b))⟩⟩
def tnLstRg (t : TDRg) : TDN := fun S Q => t S fun a b S1 => (0 ≤ a ∧ a ≤ 1000000 ∧ 0 ≤ b ∧ b ≤ 1000000) ∧ Q (rng a (b - a).toNat) S1
instance simLstRg {te : TRg} {t : TDRg} [h1 : SimRg K e te t] : SimN K e (tLstRg te) (tnLstRg t) := ⟨fun σ H S T Qd Q x h k => by
  refine h1.run σ H S T _ _ x h fun a b S1 H1 hr x1 => ?_
  obtain ⟨⟨a1, a2, a3, a4⟩, hr⟩ := hr
  obtain ⟨U, x1⟩ := x1
  exact ⟨RgOk.of_le a1 (by omega) (by omega) a3, fun q hq => k _ _ _ _ hr (x1.newL hq (rgV_dv a b))⟩⟩
/-! ### walks over a shared dict that is locked meanwhile: an own class, or the dict itself -/
abbrev OW := PSt → (Addr → Obj → List (Key × V) → List (Key × D) → Prop) → Prop
class SimW (K : PySem.W.Frag) (e : Ent) (wi : TI) (ow : outParam OW) : Prop where
  lock : ∀ (σ : St) (H : Hp) (S : PSt) (T : List Tm) (U : Addr → Prop) (Q : Addr → Obj → List (Key × V) → List (Key × D) → Prop), RU K e σ H S T U → ow S Q →
    ∃ (b : Addr) (vs : List (Key × V)) (ks : List (Key × D)), S.W.ω b = some (.dct ks) ∧ H b = some (.dK vs) ∧ (∀ c0, e.W.ω b = some c0 → c0.isMut) ∧
      ∀ (od : Obj) (R' : It → Hp → Prop), (Q b od vs ks → RU K e σ (upd H b (.frz od (.dK vs))) ⟨S.ρ, S.W.put b (.lk od vs ks)⟩ T U → R' (Itk b od vs) (upd H b (.frz od (.dK vs)))) → wi σ (upd H b (.frz od (.dK vs))) R'
/-- the dict itself -/
def iDct (K : PySem.W.Frag) (td : TE) : TI := iAny K td
def dctW (fv : PSt → (D → Prop) → Prop) : OW := fun S Q =>
  fv S (refD fun b => dctC (fun ks => ∀ od vs, fv ⟨S.ρ, S.W.put b (.lk od vs ks)⟩ fun v' => v' = .ref b ∧ Q b od vs ks) (S.W.ω b))
theorem pi_dct {X : Cx} {tg x : Expr} {te : TE} (K : PySem.W.Frag) (he : PE X x te) (hK : X.K = K := by rfl) : PI X tg x (iDct K te) := pi_any K he hK
instance simWDct {te : TE} {fv : PSt → (D → Prop) → Prop} [h1 : SimX K e te fv] : SimW K e (iDct K te) (dctW fv) := ⟨fun σ H S T U Q x h => by
  obtain ⟨d, hd⟩ := h1.ex S _ h
  obtain ⟨b, rfl, hd⟩ := refD_inv hd
  obtain ⟨ks, hb, hd⟩ := dctC_inv hd
  obtain ⟨u, vs, hH, dk⟩ := x.wo.cell b _ hb
  refine ⟨b, vs, ks, hb, hH, x.mutE hb trivial, fun od R' k => ?_⟩
  have x1 := x.lockC hb hH od
  refine h1.run σ _ _ T U _ _ x1 (hd od vs) fun d' v hq dv => ?_
  obtain ⟨rfl, hq⟩ := hq
  cases dv
  exact .inr (.inr ⟨b, vs, rfl, .inl ⟨od, upd_same, k hq x1⟩⟩)⟩
def tdForW (ow : OW) (g : TDG) (tb : TDS) : TDS := fun E S => ow S fun b od vs ks => forL g tb E b od vs ks (ks.map fun p : Key × D => keyV p.1) ⟨S.ρ, S.W.put b (.lk od vs ks)⟩
instance simForW {wi : TI} {ow : OW} {g : TG} {tb : TS} {g' : TDG} {tb' : TDS} [h1 : SimW K e wi ow] [h2 : SimG K e g g'] [h3 : SimS K e tb tb'] : SimS K e (tLock (tFor wi g tb)) (tdForW ow g' tb') := ⟨fun σ H S T Ed E hT ⟨U, x⟩ h k => by
  obtain ⟨b, vs, ks, hb, hH, hm, hlk⟩ := h1.lock σ H S T U _ x h
  refine ⟨b, .dK vs, hH, trivial, fun od => hlk od _ fun hf x1 => ?_⟩
  refine ⟨fun i m σ H => m = (ks.map fun p : Key × D => keyV p.1).length - i ∧ i ≤ (ks.map fun p : Key × D => keyV p.1).length ∧ ∃ S, forL g' tb' Ed b od vs ks ((ks.map fun p : Key × D => keyV p.1).drop i) S ∧ R K e σ H S T, ⟨_, rfl, Nat.zero_le _, _, hf, U, x1⟩, ?_⟩
  rintro i m σ H ⟨rfl, hi, S, hf, x⟩
  by_cases c : i < (ks.map fun p : Key × D => keyV p.1).length
  · rw [List.drop_eq_getElem_cons c] at hf
    obtain ⟨hw, N, hN, hf⟩ := hf
    obtain ⟨i1, i2⟩ := cell_keys (i := i) hw x
    obtain ⟨g1, g2⟩ := i2 c
    refine .inr ⟨g1, fun σ' H' => ∃ S', N S' ∧ R K e σ' H' S' T, ?_, fun v H' hy => ?_⟩
    · rintro σ' H' ⟨S', n, x'⟩
      exact ⟨_, by omega, rfl, by omega, S', hN S' n, x'⟩
    · obtain ⟨d, hd', x'⟩ := g2 v H' hy
      have : d = (ks.map fun p : Key × D => keyV p.1)[i] := by rw [List.getElem?_eq_getElem c] at hd'; exact (Option.some.inj hd').symm
      subst this
      refine h2.run v _ σ H' S T _ _ hT x' hf fun S2 σ2 H2 hb2 x2 => ?_
      refine h3.run σ2 H2 S2 T _ _ hT x2 hb2 ⟨fun S' σ' H' n x' => ⟨S', n, x'⟩, fun d S' σ' v H' q ⟨U', x'⟩ => ?_, fun S' σ' H' q ⟨U', x'⟩ => ?_, fun S' σ' H' n x' => ⟨S', n, x'⟩, fun _ _ _ _ _ q => q.elim⟩
      · obtain ⟨e1, x2⟩ := x'.looseC q.1 hm
        exact ⟨e1, k.rt d ⟨S'.ρ, S'.W.put b (.dct ks)⟩ σ' v _ q.2 ⟨U', x2⟩⟩
      · obtain ⟨e1, x2⟩ := x'.looseC q.1 hm
        exact ⟨e1, k.nx _ _ _ q.2 ⟨U', x2⟩⟩
  · rw [List.drop_of_length_le (by omega)] at hf
    obtain ⟨hw, hf⟩ := hf
    obtain ⟨i1, i2⟩ := cell_keys (i := i) hw x
    obtain ⟨U', x'⟩ := x
    obtain ⟨e1, x2⟩ := x'.looseC hw hm
    exact .inl ⟨i1 (by omega), e1, k.nx _ _ _ hf ⟨U', x2⟩⟩⟩
end
end Kn

set_option Elab.async false
set_option maxRecDepth 100000
set_option linter.all false
set_option autoImplicit false
namespace Kn
open PySem L2
/-! ### x in t, t a tuple of plain data of any depth -/
def rInT (K : PySem.W.Frag) (neg : Bool) : R2 := fun x y H Q => ∃ d ds, Dp K H x d ∧ Dp K H y (.tuple ds) ∧ SeqAt.shaped d = true ∧ SeqAt.shaped (.tuple ds) = true ∧ Q (.bl (if neg then !(ds.any fun z => PyData.eqv z d) else ds.any fun z => PyData.eqv z d)) H
theorem op_inT {X : Cx} (K : PySem.W.Frag) (hu : X.A.units + 65 < cLine) (h : X.K = K := by rfl) : OpR X (compareOp .In) (rInT K false) := by
  subst h
  intro pins s σ H x y v u Q I rx ry h
  obtain ⟨d, ds, hd, he, sd, se, q⟩ := h
  obtain ⟨as, r1⟩ := Dp.reads I d x v hd rx
  obtain ⟨bs, r2⟩ := Dp.reads I (.tuple ds) y u he ry
  exact SeqAt.in_tuple_reads r2 r1 (SeqAt.canLay_of_shaped se) (SeqAt.canLay_of_shaped sd) (by
    have h1 : d.depth ≤ 64 := by
      unfold SeqAt.shaped at sd
      rw [Bool.and_eq_true] at sd
      exact of_decide_eq_true sd.2
    have := Nat.min_le_right (PyData.depthAll ds) d.depth
    omega) ⟨.bl _, H, I, rfl, q⟩
theorem op_notInT {X : Cx} (K : PySem.W.Frag) (hu : X.A.units + 65 < cLine) (h : X.K = K := by rfl) : OpR X (compareOp .NotIn) (rInT K true) := by
  subst h
  intro pins s σ H x y v u Q I rx ry h
  obtain ⟨d, ds, hd, he, sd, se, q⟩ := h
  obtain ⟨as, r1⟩ := Dp.reads I d x v hd rx
  obtain ⟨bs, r2⟩ := Dp.reads I (.tuple ds) y u he ry
  exact SeqAt.notIn_tuple_reads r2 r1 (SeqAt.canLay_of_shaped se) (SeqAt.canLay_of_shaped sd) (by
    have h1 : d.depth ≤ 64 := by
      unfold SeqAt.shaped at sd
      rw [Bool.and_eq_true] at sd
      exact of_decide_eq_true sd.2
    have := Nat.min_le_right (PyData.depthAll ds) d.depth
    omega) ⟨.bl _, H, I, rfl, q⟩
section
variable {K : PySem.W.Frag} {e : Ent}
def inTF (Q : Bool → Prop) (x : D) : D → Prop
  | .tup ds => (∃ c, okD c x = true ∧ okL c ds = true ∧ dpD x ≤ 64 ∧ dpL ds < 64) ∧ Q (decide (x ∈ ds))
  | _ => False
def inTD (neg : Bool) (S : PSt) (rx ry : Rv) (Q : D → PSt → Prop) : Prop := dd2 S rx ry (inTF fun b => Q (.bl (if neg then !b else b)) S)
instance simInT {neg : Bool} : SimO K e (rInT K neg) (inTD neg) := ⟨fun σ H S T x y rx ry Qd Q w h k => by
  obtain ⟨a, b, ha, hb, h⟩ := dd2_inv h
  obtain ⟨U, wT, vx, vy, w2⟩ := w.two ha hb
  match b, h, vy with
  | .tup ds, ⟨⟨c, g1, g2, g3, g4⟩, h⟩, ⟨p, xs, e1, h1, h2⟩ =>
    subst e1
    have gl : okD c (.tup ds) = true := by rw [okD]; exact g2
    have dl : dpD (.tup ds) ≤ 64 := by rw [dpD]; omega
    have sh := toP_shaped gl dl
    have dp : Dp K H (.ref p) (toP (.tup ds)) := Vw.dp (d := .tup ds) ⟨p, xs, rfl, h1, h2⟩ gl
    rw [toP] at sh dp
    exact ⟨_, _, vx.dp g1, dp, toP_shaped g1 g3, sh, by rw [any_eqv a g1 ds g2]; exact k _ _ _ _ h ⟨U, wT.push (.bl _)⟩⟩⟩
/-! ### x += e, x of an own class -/
def refV (r : Rv) (Q : Addr → Prop) : Prop := match r with
  | .d (.ref b) => Q b
  | _ => False
theorem refV_inv {r : Rv} {Q : Addr → Prop} (h : refV r Q) : ∃ b, r = .d (.ref b) ∧ Q b := by
  cases r with
  | own j => exact h.elim
  | d d =>
    cases d with
    | ref b => exact ⟨b, rfl, h⟩
    | _ => exact h.elim
def tdAugO (i : Nat) (C : Addr) (F : FSpec) (te : TDE) : TDS := fun E S => (∃ c, S.ρ[i]? = some (some c)) ∧ te S fun r S1 => frc r S1 fun y S2 => valV1 (fun d => dd1 S2 (.d d) (ofC C (CallF F [d, y] S2 (fun r S3 => refV r fun b => E.nx (S3.set i (.val (.ref b)))) (fun _ _ => False)))) S2.ρ[i]?
instance simAugO {i : Nat} {C : Addr} {F : FSpec} {te : TE} {t : TDE} [h1 : SimE K e te t] : SimS K e (tAug i te (rIpO C (lift K F))) (tdAugO i C F t) := ⟨fun σ H S T Ed E hT x h k => by
  obtain ⟨⟨c0, hc0⟩, h⟩ := h
  obtain ⟨v, hv⟩ : ∃ v, σ[i]? = some (some v) := by
    obtain ⟨U, x⟩ := x
    obtain ⟨v, h1, _⟩ := x.slot i c0 hc0
    exact ⟨v, h1⟩
  refine ⟨v, hv, h1.run σ H S T _ _ x h fun r S1 w H1 hr x1 => x1.frc hr fun y S2 hr x2 => ?_⟩
  match q : S2.ρ[i]?, hr with
  | some (some (.val d)), hr =>
    have hr : dd1 S2 (.d d) _ := hr
    obtain ⟨o, ho, hr⟩ := dd1_inv hr
    obtain ⟨fs, rfl, hr6⟩ := propF_inv hr
    obtain ⟨U, x2⟩ := x2
    obtain ⟨v', e1, e2⟩ := x2.slot i _ q
    rw [hv] at e1; cases e1
    have e2 : Dv K S2.W.Tp (Hd U H1) v d := e2
    obtain ⟨a, dx, xs, rfl, ha, dvf⟩ : Vw K S2.W.Tp U H1 v (.obj C fs) := x2.vw (r := .d d) e2 ho
    have dv1 : Dv K S2.W.Tp (Hd U H1) w y := x2.tmp (.v w (.d y)) (by simp)
    have xT := x2.less (T' := T) fun p hp => List.mem_cons_of_mem _ hp
    refine ⟨a, dx, xs, rfl, ha, U, S2.W, [d, y], _, _, x2.wo, .cons e2 (.cons dv1 .nil), hr6, fun dr W' vr H' U' qq r f dv => ?_, ?_⟩
    rotate_left
    · intro x W' c dd H' U' qq
      exact (show False from qq).elim
    obtain ⟨b, e3, q4⟩ := refV_inv qq
    cases e3
    cases dv
    exact ⟨b, rfl, k.nx _ _ _ q4 ⟨U', (xT.to r f).setVal (.ref b) (hT.ne i)⟩⟩⟩
end
end Kn

set_option Elab.async false
set_option maxRecDepth 100000
set_option linter.all false
set_option autoImplicit false
namespace Kn
open PySem L2
/-! ### a comprehension within a comprehension -/
def relC (sco sc : Scope) : Scope := { sco with names := sco.names.map fun (n, k) => if (k == .free && sc.kind == .function && sc.names.lookup n == some .cell) then (n, .cell) else (n, k) }
theorem blkOk_in {X : Cx} {N : List Str} {s : Shared} {H : Hp} {C : Addr} {cl : List (Str × Addr)} {fp : List Addr} {sco sc scope : Scope} {own : List (Str × Nat)} (hs : X.env.scope = sc) (hN : X.N = N) (h : blkC N (relC sco sc) scope own = true) : BlkOk (X.blk s H sco (compEnvC sco cl C X.env) fp).N (X.blk s H sco (compEnvC sco cl C X.env) fp).env.scope scope own := by
  subst hs
  subst hN
  exact blkOk_by h
section
variable {K : PySem.W.Frag} {e : Ent}
/-! ### xs[i] = v -/
def lputF (k : Int) (G : List D → Nat → Prop) : D → Prop
  | .lst ds => opt (ixN ds.length k) fun j => G ds j
  | _ => False
theorem lputF_inv {k : Int} {G : List D → Nat → Prop} {d : D} (h : lputF k G d) : ∃ ds, d = .lst ds ∧ opt (ixN ds.length k) fun j => G ds j := by
  cases d with
  | lst ds => exact ⟨ds, rfl, h⟩
  | _ => exact h.elim
theorem DvL.set {Tp : Addr → Prop} {H : Hp} {v : V} {d : D} (g : Dv K Tp H v d) : ∀ (n : Nat) {vs : List V} {ds : List D}, DvL K Tp H vs ds → DvL K Tp H (vs.set n v) (ds.set n d)
  | _, _, _, .nil => .nil
  | 0, _, _, .cons _ a => .cons g a
  | n + 1, _, _, .cons h a => .cons h (DvL.set g n a)
def tdLPut (to ti te : TDE) : TDS := fun E S => te S fun r S1 => frc r S1 fun v S2 => to S2 fun rx S3 => ti S3 fun ri S4 => asI ri fun k => dd1 S4 rx (lputF k fun ds j => mutL S4 rx (fun ds' c => ds' = ds ∧ c (ds.set j v)) fun _ S5 => E.nx S5)
instance simLPut {to ti te : TE} {to' ti' te' : TDE} [h1 : SimE K e te te'] [h2 : SimE K e to to'] [h3 : SimE K e ti ti'] : SimS K e (tAsg te (gSub to ti rSetL)) (tdLPut to' ti' te') := ⟨fun σ H S T Ed E hT x h k => by
  refine h1.run σ H S T _ _ x h fun r S1 v H1 hr x1 => x1.frc hr fun d S2 hr x2 => ?_
  refine h2.run σ H1 S2 _ _ _ x2 hr fun rx S3 xo H2 hr x3 => ?_
  refine h3.run σ H2 S3 _ _ _ x3 hr fun ri S4 iv H3 hr x4 => ?_
  obtain ⟨kk, rfl, hr⟩ := asI_inv hr
  obtain ⟨dd, hdd, hr⟩ := dd1_inv hr
  obtain ⟨ds, rfl, hr'⟩ := lputF_inv hr
  obtain ⟨j, hj, hm⟩ := opt_inv hr'
  have ei : iv = .int kk := by
    obtain ⟨U, x4⟩ := x4
    have := x4.tmp (.v iv (.d (.int kk))) (by simp)
    have this : Dv K S4.W.Tp (Hd U H3) iv (.int kk) := this
    cases this; rfl
  subst ei
  refine R.mutL (T := .v v (.d d) :: T) x4.pop hm fun l xs ds' U Qs e1 e2 e3 x6 hq kk2 => ?_
  obtain ⟨rfl, hq⟩ := hq
  obtain ⟨S5, q5, x7, _⟩ := kk2 (xs.set j v) _ hq (DvL.set (x6.tmp (.v v (.d d)) (by simp)) j e3)
  exact ⟨l, xs, kk, j, e1, rfl, e2, by rw [e3.len]; exact hj, k.nx _ _ _ q5 ⟨U, x7.less fun p hp => List.mem_cons_of_mem _ hp⟩⟩⟩
/-! ### f"{x:<12}", f"{i:>3}" -/
def fmtWF (sp : Str) (Q : Str → Prop) : D → Prop
  | .str a => sp = sp12 ∧ a.length ≤ 12 ∧ Q (a ++ blanks (12 - a.length))
  | .int i => sp = sp3 ∧ 0 ≤ i ∧ i ≤ 10 ∧ Q (pad3 i)
  | _ => False
def tdFmtW (te ts : TDE) : TDE := fun S Q => te S fun r S1 => ts S1 fun rz S2 => asS rz fun sp => dd1 S2 r (fmtWF sp fun y => Q (.d (.str y)) S2)
instance simFmtW {te ts : TE} {te' ts' : TDE} [h1 : SimE K e te te'] [h2 : SimE K e ts ts'] : SimE K e (tFmtW te ts) (tdFmtW te' ts') := ⟨fun σ H S T Qd Q x h k => by
  refine h1.run σ H S T _ _ x h fun r S1 v H1 hr x1 => ?_
  refine h2.run σ H1 S1 _ _ _ x1 hr fun rz S2 z H2 hr x2 => ?_
  obtain ⟨sp, rfl, hr⟩ := asS_inv hr
  obtain rfl := x2.strV
  obtain ⟨d, hd, hr⟩ := dd1_inv hr
  obtain ⟨U, wT, vw, _⟩ := R.one (T := T) x2.pop hd
  match d, hr, vw with
  | .str a, ⟨h0, h1, hq⟩, vw =>
    rw [vw.str, h0]
    exact .inl ⟨rfl, a, rfl, h1, k _ _ _ _ hq ⟨U, wT.push (.str _)⟩⟩
  | .int i, ⟨h0, h1, h2, hq⟩, vw =>
    rw [vw.int, h0]
    exact .inr ⟨rfl, i, rfl, h1, h2, k _ _ _ _ hq ⟨U, wT.push (.str _)⟩⟩⟩
end
end Kn

set_option Elab.async false
set_option maxRecDepth 100000
set_option linter.all false
set_option autoImplicit false
namespace Kn
open PySem L2
section
variable {K : PySem.W.Frag} {e : Ent}
/-! ### o.m(e, .., k = v, ..) -/
def tdMethK (C : Addr) (m : Str) (F : FSpec) (w : Exn → PSt → Prop) (n nk : Nat) (ta : TDE) (t tk : TDA) : TDE := fun S Q => ta S fun r S1 => frc r S1 fun d S2 => dd1 S2 (.d d) (recF C m (t S2 fun rs S3 => frcL rs S3 fun ds S4 => tk S4 fun zs S5 => frcL zs S5 fun es S6 => ds.length + 1 = n ∧ es.length = nk ∧ CallF F (d :: (ds ++ es)) S6 Q w))
instance simMethK {C : Addr} {m : Str} {F : FSpec} {n nk : Nat} {Wx : WX} {w : Exn → PSt → Prop} {ta : TE} {t tk : TA} {ta' : TDE} {t' tk' : TDA} [h0 : SimE K e ta ta'] [h1 : SimA K e t t'] [h1k : SimA K e tk tk'] [h2 : WLk K e Wx w] :
    SimE K e (tMethK C m (lift K F) n nk (WE Wx) ta t tk) (tdMethK C m F w n nk ta' t' tk') := ⟨fun σ H S T Qd Q x h k => by
  refine h0.run σ H S T _ _ x h fun r S1 v H1 hr x1 => x1.frc hr fun d S2 hr x2 => ?_
  obtain ⟨o, ho, hr⟩ := dd1_inv hr
  obtain ⟨fs, rfl, hl, hr⟩ := recF_inv hr
  obtain ⟨U1, xT1, vw, x3⟩ := x2.one ho
  obtain ⟨a, dx, xs, rfl, ha, dv⟩ : Vw K S2.W.Tp U1 H1 v (.obj C fs) := vw
  refine ⟨a, dx, xs, rfl, ha, DvF.look_none dv hl, ?_⟩
  refine h1.run σ H1 S2 _ _ _ ⟨U1, x3⟩ hr fun rs S3 vs H2 hc hl2 x4 => ?_
  refine R.frcL hl2 x4 hc fun ds S4 h3 hl3 x5 => ?_
  refine h1k.run σ H2 S4 _ _ _ x5 h3 fun zs S5 ws H3 hc2 hl4 x6 => ?_
  refine R.frcL hl4 x6 hc2 fun es S6 h5 hl5 x7 => ?_
  obtain ⟨n1, n2, h5⟩ := h5
  obtain ⟨U, x7⟩ := x7
  have x8 := x7.less (T' := tms vs (ds.map Rv.d) ++ (.v (.ref a) (.d d) :: T)) fun p hp => List.mem_append_right _ hp
  have xT := x8.less (T' := T) fun p hp => List.mem_append_right _ (List.mem_cons_of_mem _ hp)
  have dv0 : Dv K S6.W.Tp (Hd U H3) (.ref a) d := x8.tmp (.v (.ref a) (.d d)) (List.mem_append_right _ (List.mem_cons_self))
  refine ⟨by rw [hl3]; exact n1, by rw [hl5]; exact n2, U, S6.W, d :: (ds ++ es), _, _, x7.wo, .cons dv0 (DvL.app (RU.tms hl3 x8) (RU.tms hl5 x7)), h5, fun d W' v H' U' q r f dv => k _ _ _ _ q (xT.callBack r f dv), fun x W' c dd H' U' q r f ex => ?_⟩
  exact h2.run x ⟨S6.ρ, W'⟩ σ H' U' c dd q ((xT.to r f).less fun p hp => by cases hp) ex⟩
end
theorem MzK.okD {P : Program} {w : World} {K : PySem.W.Frag} {mg : Str → Option Value} {base : Heap} {C : Addr} {m qual : Str} {st : Stmt} {ps N : List Str} {n : Nat} {ks : List Str} {k : Nat} {Fs : FSpec} (F : MzK K C m qual st ps n ks) (S : FnScope N ps (defScope st)) (hl : ∀ ds W Q E, Fs ds W Q E → ds.length = ps.length) (hbody : BodyD P w K mg base N qual st k Fs) : MxK P w K mg base C m (k + 1) ps n ks (lift K Fs) := F.okX S (lift_len hl) hbody.run
end Kn

set_option Elab.async false
set_option maxRecDepth 100000
set_option linter.all false
set_option autoImplicit false
namespace Kn
open PySem L2
/-! ### min(i, j), max(i, j) -/
def rMin2 : List V → Hp → VK → Prop := fun xs H Q => ∃ i j, xs = [.int i, .int j] ∧ Q (.int (if j < i then j else i)) H
def rMax2 : List V → Hp → VK → Prop := fun xs H Q => ∃ i j, xs = [.int i, .int j] ∧ Q (.int (if j > i then j else i)) H
theorem call_min2U {X : Cx} (hc : X.calm = true) : CallR X (.builtin "min") rMin2 := call_min2 hc
theorem call_max2U {X : Cx} (hc : X.calm = true) : CallR X (.builtin "max") rMax2 := call_max2 hc
def mm2D (f : Int → Int → Int) (S : PSt) (rs : List Rv) (Q : D → PSt → Prop) : Prop := arg2 rs fun x y => dd1 S x fun a => dd1 S y fun b => iiF (fun _ _ => True) (fun i j => .int (f i j)) (fun d => Q d S) a b
section
variable {K : PySem.W.Frag} {e : Ent}
theorem mm2_ {f : Int → Int → Int} {r : List V → Hp → VK → Prop} (hr : ∀ i j H Q, Q (V.int (f i j)) H → r [.int i, .int j] H Q) : SimC K e r (mm2D f) := ⟨fun σ H S T vs rs Qd Q hl x h k => by
  obtain ⟨r1, r2, rfl, h⟩ := arg2_inv h
  obtain ⟨v, w, rfl⟩ := len2 hl
  obtain ⟨a, ha, h⟩ := dd1_inv h
  obtain ⟨b, hb, h⟩ := dd1_inv h
  obtain ⟨U, x⟩ := x
  have va := x.vw (x.tmp (.v v r1) (by simp [tms])) ha
  have vb := x.vw (x.tmp (.v w r2) (by simp [tms])) hb
  match a, b, h, va, vb with
  | .int i, .int j, h, va, vb =>
    rw [va.int, vb.int]
    exact hr i j H Q (k _ _ _ _ h.2 ⟨U, (x.less fun p hp => by simp [tms, hp]).push (.int _)⟩)⟩
instance simMin2 : SimC K e rMin2 (mm2D min) := mm2_ fun i j H Q q => ⟨i, j, rfl, by
  have : (if j < i then j else i) = min i j := by split <;> omega
  rw [this]; exact q⟩
instance simMax2 : SimC K e rMax2 (mm2D max) := mm2_ fun i j H Q q => ⟨i, j, rfl, by
  have : (if j > i then j else i) = max i j := by split <;> omega
  rw [this]; exact q⟩
/-! ### a < b < c -/
def tdChain (o o2 : PSt → Rv → Rv → (D → PSt → Prop) → Prop) (ta tb tc : TDE) : TDE := fun S Q => ta S fun x S1 => tb S1 fun y S2 => frc y S2 fun dy S3 => o S3 x (.d dy) fun d S4 => asB (.d d) fun c => if c = true then tc S4 fun z S5 => o2 S5 (.d dy) z fun d2 S6 => Q (.d d2) S6 else Q (.d (.bl false)) S4
instance simChain {r r2 : R2} {o o2 : PSt → Rv → Rv → (D → PSt → Prop) → Prop} {ta tb tc : TE} {ta' tb' tc' : TDE} [ha : SimE K e ta ta'] [hb : SimE K e tb tb'] [hc : SimE K e tc tc'] [ho : SimO K e r o] [ho2 : SimO K e r2 o2] : SimE K e (tChain r r2 ta tb tc) (tdChain o o2 ta' tb' tc') := ⟨fun σ H S T Qd Q x h k => by
  refine ha.run σ H S T _ _ x h fun rx S1 vx H1 h1 x1 => ?_
  refine hb.run σ H1 S1 _ _ _ x1 h1 fun ry S2 vy H2 h2 x2 => x2.frc h2 fun dy S3 h3 x3 => ?_
  refine ho.run σ H2 S3 (.v vy (.d dy) :: T) vx vy rx (.d dy) _ _ (x3.less fun p hp => ?_) h3 fun d S4 v H3 h4 x4 => ?_
  · rcases List.mem_cons.mp hp with rfl | hp
    · exact List.mem_cons_self
    · rcases List.mem_cons.mp hp with rfl | hp
      · exact List.mem_cons_of_mem _ List.mem_cons_self
      · rcases List.mem_cons.mp hp with rfl | hp
        · exact List.mem_cons_self
        · exact List.mem_cons_of_mem _ (List.mem_cons_of_mem _ hp)
  · match d, h4, x4 with
    | .bl c, h4, x4 =>
      obtain ⟨U, x4⟩ := x4
      have hv : Dv K S4.W.Tp (Hd U H3) v (.bl c) := x4.tmp (.v v (.d (.bl c))) (by simp)
      cases hv
      refine ⟨c, rfl, ?_⟩
      have x5 : R K e σ H3 S4 (.v vy (.d dy) :: T) := ⟨U, x4.less fun p hp => List.mem_cons_of_mem _ hp⟩
      have h4 : if c = true then tc' S4 (fun z S5 => o2 S5 (.d dy) z fun d2 S6 => Qd (.d d2) S6) else Qd (.d (.bl false)) S4 := h4
      cases c with
      | true =>
        rw [if_pos rfl] at h4 ⊢
        refine hc.run σ H3 S4 _ _ _ x5 h4 fun rz S5 vz H4 h5 x6 => ?_
        exact ho2.run σ H4 S5 T vy vz (.d dy) rz _ _ x6 h5 fun d S6 v H5 h6 x7 => k _ _ _ _ h6 x7
      | false =>
        rw [if_neg (by simp)] at h4 ⊢
        exact k _ _ _ _ h4 (x5.pop).bl⟩
/-! ### min(xs), max(xs) of ints -/
def minF (_ : PSt) (Q : D → Prop) : D → Prop
  | .lst ds => opt (nts ds) fun ns => 0 < ns.length ∧ ∀ m, m ∈ ns → (∀ y, y ∈ ns → m ≤ y) → Q (.int m)
  | _ => False
def maxF (_ : PSt) (Q : D → Prop) : D → Prop
  | .lst ds => opt (nts ds) fun ns => 0 < ns.length ∧ ∀ m, m ∈ ns → (∀ y, y ∈ ns → y ≤ m) → Q (.int m)
  | _ => False
instance simMinL : SimC K e (rMin K) (fun S rs Q => arg1 rs fun x => dd1 S x (minF S fun d => Q d S)) := simC1 fun σ H S T U v a Qd Q x vw h k => by
  match a, h, vw with
  | .lst ds, h, ⟨p, xs, e1, h1, h2⟩ =>
    subst e1
    obtain ⟨ns, q, h0, h⟩ := opt_inv h
    rw [nts_some q] at h2
    rw [h2.ints_inv] at h1
    exact ⟨p, ns, rfl, SqL.of h1, h0, fun m hm hl => k _ _ _ (h m hm hl) ⟨U, x.push (.int _)⟩⟩
instance simMaxL : SimC K e (rMax K) (fun S rs Q => arg1 rs fun x => dd1 S x (maxF S fun d => Q d S)) := simC1 fun σ H S T U v a Qd Q x vw h k => by
  match a, h, vw with
  | .lst ds, h, ⟨p, xs, e1, h1, h2⟩ =>
    subst e1
    obtain ⟨ns, q, h0, h⟩ := opt_inv h
    rw [nts_some q] at h2
    rw [h2.ints_inv] at h1
    exact ⟨p, ns, rfl, SqL.of h1, h0, fun m hm hl => k _ _ _ (h m hm hl) ⟨U, x.push (.int _)⟩⟩
end
end Kn

set_option Elab.async false
set_option maxRecDepth 100000
set_option linter.all false
set_option autoImplicit false
namespace Kn
open PySem L2
/-! ### [e for x in xs for y in ys] -/
class SubL (us vs : List Nat) : Prop where
  sub : ∀ i ∈ us, i ∈ vs
instance subN {vs : List Nat} : SubL [] vs := ⟨fun i h => by cases h⟩
instance subC {i : Nat} {us vs : List Nat} [h : InL i vs] [h2 : SubL us vs] : SubL (i :: us) vs := ⟨fun j hj => (List.mem_cons.mp hj).elim (fun e => e ▸ h.mem) (h2.sub j)⟩
theorem wipe_wipe2 {σ : St} {us vs : List Nat} (h : ∀ i ∈ us, i ∈ vs) : wipe (wipe σ us) vs = wipe σ vs := by
  apply List.ext_getElem?
  intro j
  rw [wipe_get (wipe σ us), wipe_length, wipe_get σ j us, wipe_get σ j vs]
  by_cases c : j ∈ vs ∧ j < σ.length
  · rw [if_pos c, if_pos c]
  · rw [if_neg c, if_neg c, if_neg fun z => c ⟨h j z.1, z.2⟩]
section
variable {K : PySem.W.Frag} {e : Ent}
theorem RN.ofNw {σ σ' : St} {H : Hp} {S : PSt} {TA TB : List Tm} {l : Addr} {acc : List D} {vs : List Nat} (hT : NoOwn (TA ++ TB)) (nt : NoTm (TA ++ TB) l) (e2 : L2.wipe σ vs = σ') (x : R K e σ H S (TA ++ (.nw l acc :: TB))) : RN K e σ' H (S.wipe vs) (TA ++ TB) l acc := by
  obtain ⟨U2, x2⟩ := x
  have hTn : NoOwn (TA ++ (.nw l acc :: TB)) := fun p hp w j z => by
    rcases List.mem_append.mp hp with hp | hp
    · exact hT p (List.mem_append_left _ hp) w j z
    · rcases List.mem_cons.mp hp with rfl | hp
      · cases z
      · exact hT p (List.mem_append_right _ hp) w j z
  have x3 := x2.wipe vs hTn
  rw [e2] at x3
  obtain ⟨o3, n3, v3, h3, d3⟩ := x3.tmp (.nw l acc) (by simp)
  exact ⟨U2, v3, x3.less fun p hp => by
    rcases List.mem_append.mp hp with hp | hp
    · exact List.mem_append_left _ hp
    · exact List.mem_append_right _ (List.mem_cons_of_mem _ hp), o3, n3, nt, h3, d3⟩
theorem RN.nw {σ : St} {H : Hp} {S : PSt} {TA TB : List Tm} {l : Addr} {acc : List D} (x : RN K e σ H S (TA ++ TB) l acc) : R K e σ H S (TA ++ (.nw l acc :: TB)) := by
  obtain ⟨U, xs, xu, ow, ns, _, hlm, hxs⟩ := x.ex
  exact ⟨U, (xu.push (p := .nw l acc) ⟨ow, ns, xs, hlm, hxs⟩).less fun p hp => by
    rcases List.mem_append.mp hp with hp | hp
    · exact List.mem_cons_of_mem _ (List.mem_append_left _ hp)
    · rcases List.mem_cons.mp hp with rfl | hp
      · exact List.mem_cons_self
      · exact List.mem_cons_of_mem _ (List.mem_append_right _ hp)⟩
/-- a further element: from the value just found -/
theorem RN.more {σ σ' : St} {H : Hp} {S : PSt} {TA TB : List Tm} {l : Addr} {acc : List D} {vs : List Nat} {y : V} {d : D} (hT : NoOwn (TA ++ TB)) (nt : NoTm (TA ++ TB) l) (e2 : L2.wipe σ vs = σ') (x : R K e σ H S (.v y (.d d) :: (TA ++ (.nw l acc :: TB)))) :
    ∃ xs, H l = some (.lst xs) ∧ xs.length = acc.length ∧ RN K e σ' (L2.upd H l (.lst (xs ++ [y]))) (S.wipe vs) (TA ++ TB) l (acc ++ [d]) := by
  have rn : RN K e σ' H (S.wipe vs) (.v y (.d d) :: (TA ++ TB)) l acc := by
    have := RN.ofNw (TA := .v y (.d d) :: TA) (TB := TB) (fun p hp w j z => by
      rcases List.mem_cons.mp hp with rfl | hp
      · cases z
      · exact hT p hp w j z) (fun ds hm => by
      rcases List.mem_cons.mp hm with z | z
      · cases z
      · exact nt ds z) e2 x
    exact this
  exact rn.app
def compD2 (g : TDG) (tt : TDT) (wi1 : TDI) (g1 : TDG) (tt1 : TDT) (te : TDE) (vs vs1 : List Nat) (Q : List D → PSt → Prop) : List D → List D → PSt → Prop
  | [], acc, S => Q acc S
  | d :: ds, acc, S => ∃ N : List D → PSt → Prop, (∀ a S', N a S' → compD2 g tt wi1 g1 tt1 te vs vs1 Q ds a S') ∧
    g d S fun S2 => tt S2 fun b S3 => if b = true then wi1 S3 fun es S4 => compD g1 tt1 te vs1 (fun a S5 => N a (S5.wipe vs)) es acc (S4.wipe vs1) else N acc (S3.wipe vs)
def tnLc2 (wi : TDI) (g : TDG) (tt : TDT) (wi1 : TDI) (g1 : TDG) (tt1 : TDT) (te : TDE) (vs vs1 : List Nat) : TDN := fun S Q => wi S fun ds S1 => compD2 g tt wi1 g1 tt1 te vs vs1 Q ds [] (S1.wipe vs)
instance simLc2 {wi wi1 : TI} {g g1 : TG} {tt tt1 : TT} {te : TE} {vs vs1 : List Nat} {wi' wi1' : TDI} {g' g1' : TDG} {tt' tt1' : TDT} {te' : TDE} [h1 : SimI K e wi wi'] [h2 : SimG K e g g'] [hw : GW g vs] [h3 : SimT K e tt tt'] [h5 : SimI K e wi1 wi1'] [h6 : SimG K e g1 g1'] [hw1 : GW g1 vs1] [h7 : SimT K e tt1 tt1'] [h4 : SimE K e te te'] [hs : SubL vs1 vs] :
    SimN K e (tLc2 wi g tt wi1 g1 tt1 te vs vs1) (tnLc2 wi' g' tt' wi1' g1' tt1' te' vs vs1) := ⟨fun σ H S T Qd Q x0 h k => by
  obtain ⟨U0, x0⟩ := x0
  have xf : R K e σ H S (T.filter notOwn) := ⟨U0, x0.less fun p hp => (List.mem_filter.mp hp).1⟩
  have hT := noOwn_filter T
  refine h1.run σ H S (T.filter notOwn) _ _ xf h fun ds S1 J H1 T1 hd pT it x1 => ?_
  intro l hl
  have hTT : NoOwn (T1 ++ T.filter notOwn) := pT.1.app hT
  obtain ⟨U1, x1⟩ := x1
  have nt : NoTm (T1 ++ T.filter notOwn) l := by
    obtain ⟨_, _, _, f⟩ := x1.moreU (o := .lst []) hl
    exact f
  refine ⟨fun i m H => m = ds.length - i ∧ i ≤ ds.length ∧ ∃ S acc, compD2 g' tt' wi1' g1' tt1' te' vs vs1 Qd (ds.drop i) acc S ∧ (∃ S0 : PSt, S = S0.wipe vs) ∧ RN K e (wipe σ vs) H S (T1 ++ T.filter notOwn) l acc, ⟨_, rfl, Nat.zero_le _, S1.wipe vs, [], hd, ⟨S1, rfl⟩, ?_⟩, ?_⟩
  · exact (x1.wipe vs hTT).newL hl .nil
  rintro i m H ⟨rfl, hi, S, acc, hf, ⟨S0, hS0⟩, x⟩
  have xr := x.nw
  have hTn : NoOwn (T1 ++ (.nw l acc :: T.filter notOwn)) := pT.1.app fun p hp w j z => by
    rcases List.mem_cons.mp hp with rfl | hp
    · cases z
    · exact hT p hp w j z
  obtain ⟨i1, i2⟩ := it i _ H S _ xr
  by_cases c : i < ds.length
  · obtain ⟨g1_, g2⟩ := i2 c
    rw [List.drop_eq_getElem_cons c] at hf
    obtain ⟨N, hN, hf⟩ := hf
    refine .inr ⟨g1_, fun H' => ∃ S' acc', N acc' S' ∧ (∃ S0 : PSt, S' = S0.wipe vs) ∧ RN K e (wipe σ vs) H' S' (T1 ++ T.filter notOwn) l acc', ?_, fun v H' hy => ?_⟩
    · rintro H' ⟨S', acc', n, hS', x'⟩
      exact ⟨ds.length - (i + 1), by omega, rfl, by omega, S', acc', hN _ _ n, hS', x'⟩
    · obtain ⟨d, hd', x'⟩ := g2 v H' hy
      have : d = ds[i] := by rw [List.getElem?_eq_getElem c] at hd'; exact (Option.some.inj hd').symm
      subst this
      have ww := hw.w v (wipe σ vs) H'
      rw [wipe_wipe] at ww
      refine ww _ (h2.run v _ (wipe σ vs) H' S (T1 ++ (.nw l acc :: T.filter notOwn)) _ _ hTn x' hf fun S2 σ2 H2 hb x2 e2 => ?_)
      refine h3.run σ2 H2 S2 _ _ _ x2 hb fun b S3 H3 hb x3 => ?_
      cases b
      · exact ⟨_, _, hb, ⟨_, rfl⟩, RN.ofNw hTT nt e2 x3⟩
      · refine h5.run σ2 H3 S3 (T1 ++ (.nw l acc :: T.filter notOwn)) _ _ x3 hb fun es S4 J1 H4 T2 hc pT2 it2 x4 => ?_
        rw [← List.append_assoc] at x4
        have hT2 : NoOwn ((T2 ++ T1) ++ T.filter notOwn) := by
          rw [List.append_assoc]; exact pT2.1.app hTT
        have nt2 : NoTm ((T2 ++ T1) ++ T.filter notOwn) l := fun ds hm => by
          rw [List.append_assoc] at hm
          rcases List.mem_append.mp hm with hm | hm
          · exact pT2.2 _ _ hm
          · exact nt ds hm
        have hTn2 : ∀ a, NoOwn ((T2 ++ T1) ++ (.nw l a :: T.filter notOwn)) := fun a p hp w j z => by
          rcases List.mem_append.mp hp with hp | hp
          · exact hT2 p (List.mem_append_left _ hp) w j z
          · rcases List.mem_cons.mp hp with rfl | hp
            · cases z
            · exact hT2 p (List.mem_append_right _ hp) w j z
        refine ⟨fun j k H => k = es.length - j ∧ j ≤ es.length ∧ ∃ S acc', compD g1' tt1' te' vs1 (fun a S5 => N a (S5.wipe vs)) (es.drop j) acc' S ∧ (∃ S0 : PSt, S = S0.wipe vs1) ∧ RN K e (wipe σ2 vs1) H S ((T2 ++ T1) ++ T.filter notOwn) l acc', ⟨_, rfl, Nat.zero_le _, S4.wipe vs1, acc, hc, ⟨S4, rfl⟩, RN.ofNw hT2 nt2 rfl x4⟩, ?_⟩
        rintro j m H ⟨rfl, hj, S, acc', hf, ⟨S0, hS0⟩, x⟩
        have xr := x.nw
        obtain ⟨i1, i2⟩ := it2 j (wipe σ2 vs1) H S (T1 ++ (.nw l acc' :: T.filter notOwn)) (by rw [← List.append_assoc]; exact xr)
        by_cases c2 : j < es.length
        · obtain ⟨g1_, g2⟩ := i2 c2
          rw [List.drop_eq_getElem_cons c2] at hf
          obtain ⟨N1, hN1, hf⟩ := hf
          refine .inr ⟨g1_, fun H' => ∃ S' acc'', N1 acc'' S' ∧ (∃ S0 : PSt, S' = S0.wipe vs1) ∧ RN K e (wipe σ2 vs1) H' S' ((T2 ++ T1) ++ T.filter notOwn) l acc'', ?_, fun v H' hy => ?_⟩
          · rintro H' ⟨S', acc'', n, hS', x'⟩
            exact ⟨es.length - (j + 1), by omega, rfl, by omega, S', acc'', hN1 _ _ n, hS', x'⟩
          · obtain ⟨d, hd', x'⟩ := g2 v H' hy
            have : d = es[j] := by rw [List.getElem?_eq_getElem c2] at hd'; exact (Option.some.inj hd').symm
            subst this
            rw [← List.append_assoc] at x'
            have ww := hw1.w v (wipe σ2 vs1) H'
            rw [wipe_wipe] at ww
            refine ww _ (h6.run v _ (wipe σ2 vs1) H' S ((T2 ++ T1) ++ (.nw l acc' :: T.filter notOwn)) _ _ (hTn2 _) x' hf fun S2 σ3 H2 hb x2 e3 => ?_)
            refine h7.run σ3 H2 S2 _ _ _ x2 hb fun b S3 H3 hb x3 => ?_
            cases b
            · exact ⟨_, _, hb, ⟨_, rfl⟩, RN.ofNw hT2 nt2 e3 x3⟩
            · refine h4.run σ3 H3 S3 _ _ _ x3 hb fun r S4 y H4 hr x4 => x4.frc hr fun dy S5 h5 x5 => ?_
              obtain ⟨xs, q1, q2, rn⟩ := RN.more hT2 nt2 e3 x5
              exact ⟨xs, q1, Nat.lt_of_le_of_lt (by rw [q2]; exact h5.1) (by decide), _, _, h5.2, ⟨_, rfl⟩, rn⟩
        · rw [List.drop_of_length_le (by omega)] at hf
          refine .inl ⟨i1 (by omega), S.wipe vs, acc', hf, ⟨_, rfl⟩, ?_⟩
          rw [List.append_assoc] at xr
          obtain ⟨Ur, xr⟩ := xr
          exact RN.ofNw hTT nt (by rw [wipe_wipe2 hs.sub]; exact e2) ⟨Ur, xr.less fun p hp => List.mem_append_right _ hp⟩
  · obtain ⟨U, xs, xu, ow, ns, _, hlm, hxs⟩ := x.ex
    refine .inl ⟨i1 (by omega), ?_⟩
    rw [List.drop_of_length_le (by omega)] at hf
    subst hS0
    refine k _ _ _ _ hf ⟨U, xs, ?_⟩
    have x5 := xu.unwipe hTT
    have x6 : RU K e σ H (S0.wipe vs) ([] ++ T.filter notOwn) U := x5.less fun p hp => List.mem_append_right _ hp
    have x7 := x0.back x6
    refine ⟨x7, ow, fun j c hj oc => ?_, fun ds hm => ?_, hlm, hxs⟩
    · obtain ⟨h1, h2⟩ := wipeR_some (ρ := S0.ρ) hj
      have := ns j c hj oc
      rw [wipe_get, if_neg (fun z => h2 z.1)] at this
      exact this
    · refine nt ds (List.mem_append_right _ (List.mem_filter.mpr ⟨hm, rfl⟩))⟩
/-- one turn of the outer walk -/
def turnD2 (g : TDG) (tt : TDT) (wi1 : TDI) (g1 : TDG) (tt1 : TDT) (te : TDE) (vs vs1 : List Nat) (d : D) (acc : List D) (S : PSt) (N : List D → PSt → Prop) : Prop := g d S fun S2 => tt S2 fun b S3 => if b = true then wi1 S3 fun es S4 => compD g1 tt1 te vs1 (fun a S5 => N a (S5.wipe vs)) es acc (S4.wipe vs1) else N acc (S3.wipe vs)
theorem compD2_map {α : Type} {g : TDG} {tt : TDT} {wi1 : TDI} {g1 : TDG} {tt1 : TDT} {te : TDE} {vs vs1 : List Nat} {Q : List D → PSt → Prop} {S : PSt} (h : α → D) (f : α → List D) : ∀ (xs : List α) (acc : List D), acc.length + (xs.flatMap f).length ≤ 1000000 → (∀ x ∈ xs, ∀ (acc : List D) (N : List D → PSt → Prop), acc.length + (f x).length ≤ 1000000 → N (acc ++ f x) S → turnD2 g tt wi1 g1 tt1 te vs vs1 (h x) acc S N) → Q (acc ++ xs.flatMap f) S → compD2 g tt wi1 g1 tt1 te vs vs1 Q (xs.map h) acc S
  | [], acc, _, _, q => by simpa [compD2] using q
  | x :: xs, acc, hl, hs, q => by
    rw [List.flatMap_cons, List.length_append] at hl
    rw [List.flatMap_cons] at q
    refine ⟨fun a S' => S' = S ∧ a = acc ++ f x, ?_, hs x (by simp) acc (fun a S' => S' = S ∧ a = acc ++ f x) (by omega) ⟨rfl, rfl⟩⟩
    rintro a S' ⟨e, rfl⟩
    rw [e]
    refine compD2_map h f xs _ (by rw [List.length_append]; omega) (fun y hy => hs y (by simp [hy])) ?_
    rw [List.append_assoc]; exact q
end
end Kn

set_option Elab.async false
set_option maxRecDepth 100000
set_option linter.all false
set_option autoImplicit false
namespace Kn
open PySem L2
theorem Mz.none {P : Program} {w : World} {K : PySem.W.Frag} {mg : Str → Option Value} {base : Heap} {C : Addr} {m qual : Str} {st : Stmt} {ps : List Str} {dvs : List V} {k : Nat} {sp : Sp} (F : Mz K C m qual st ps dvs) (h : ∀ vs H Q E, ¬ sp vs H Q E) : Mx P w K mg base C m k ps dvs sp := by
  obtain ⟨f, fd, ds, F1, mm, b, v⟩ := F.ex
  exact ⟨f, fd, ds, ⟨fun vs H Q E z => (h vs H Q E z).elim, fun A outer s H args us vs Q E _ _ _ _ z => (h vs H Q E z).elim⟩, mm, b, v⟩
theorem Mz.noneD {P : Program} {w : World} {K : PySem.W.Frag} {mg : Str → Option Value} {base : Heap} {C : Addr} {m qual : Str} {st : Stmt} {ps : List Str} {dvs : List V} {k : Nat} {Fs : FSpec} (F : Mz K C m qual st ps dvs) (h : ∀ ds W Q E, ¬ Fs ds W Q E) : Mx P w K mg base C m k ps dvs (lift K Fs) := F.none fun vs H Q E ⟨U, W, ds, Qd, Ed, _, _, z, _⟩ => h _ _ _ _ z
/-! ### xs.index(y) -/
def idxI (ds : List D) (y : D) : Nat := ds.findIdx fun z => decide (z = y)
def idxF (y : D) (Q : Nat → Prop) : D → Prop
  | .lst ds => (∃ c, okD c y = true ∧ okL c ds = true ∧ dpD y ≤ 64 ∧ dpL ds < 64) ∧ y ∈ ds ∧ Q (idxI ds y)
  | _ => False
theorem idxI_at {ds : List D} {y : D} (h : y ∈ ds) : ds[idxI ds y]? = some y ∧ ∀ (m : Nat) (z : D), m < idxI ds y → ds[m]? = some z → decide (z = y) = false := by
  have hl : ds.findIdx (fun z => decide (z = y)) < ds.length := List.findIdx_lt_length_of_exists ⟨y, h, decide_eq_true rfl⟩
  refine ⟨?_, fun m z hm hz => ?_⟩
  · have := List.findIdx_getElem (w := hl)
    unfold idxI
    rw [List.getElem?_eq_getElem hl]
    exact congrArg some (of_decide_eq_true this)
  · have := List.not_of_lt_findIdx (p := fun z => decide (z = y)) (xs := ds) hm
    obtain ⟨h2, e⟩ := List.getElem?_eq_some_iff.mp hz
    rw [← e]
    simpa using this
theorem toPs_get : ∀ {ds : List D} {j : Nat}, (toPs ds)[j]? = (ds[j]?).map toP
  | [], _ => by rw [toPs]; rfl
  | d :: ds, 0 => by rw [toPs]; rfl
  | d :: ds, j + 1 => by
    rw [toPs, List.getElem?_cons_succ, List.getElem?_cons_succ]
    exact toPs_get
theorem okL_get {c : Bool} : ∀ {ds : List D} {j : Nat} {d : D}, okL c ds = true → ds[j]? = some d → okD c d = true
  | [], _, _, _, h => by simp at h
  | a :: ds, 0, d, h, e => by
    rw [okL, Bool.and_eq_true] at h
    cases e; exact h.1
  | a :: ds, j + 1, d, h, e => by
    rw [okL, Bool.and_eq_true] at h
    exact okL_get h.2 (by simpa using e)
def tdIndex (to : TDE) (t : TDA) : TDE := fun S Q => to S fun rx S1 => (∃ ds, derefD S1 rx = some (.lst ds)) ∧ t S1 fun rs S2 => arg1 rs fun r => dd1 S2 rx fun a => dd1 S2 r fun b => idxF b (fun j => Q (.d (.int (j : Int))) S2) a
section
variable {K : PySem.W.Frag} {e : Ent}
instance simIndex {to : TE} {t : TA} {to' : TDE} {t' : TDA} [h1 : SimE K e to to'] [h2 : SimA K e t t'] : SimE K e (tBM K "list" (rIndexD K) to t) (tdIndex to' t') := ⟨fun σ H S T Qd Q x h k => by
  refine h1.run σ H S T _ _ x h fun rx S1 v H1 hr x1 => ?_
  obtain ⟨⟨ds0, hd0⟩, hr⟩ := hr
  refine ⟨tyV_list x1 hd0, h2.run σ H1 S1 _ _ _ x1 hr fun rs S2 vs H2 hr hl x2 => ?_⟩
  obtain ⟨r, rfl, hr⟩ := arg1_inv hr
  obtain ⟨y, rfl⟩ := len1 hl
  obtain ⟨a, ha, hr⟩ := dd1_inv hr
  obtain ⟨b, hb, hr⟩ := dd1_inv hr
  have x2 : R K e σ H2 S2 (.v y r :: .v v rx :: T) := x2
  obtain ⟨U, wT, vx, vy, w2⟩ := x2.two ha hb
  match a, hr, vx with
  | .lst ds, ⟨⟨c, g1, g2, g3, g4⟩, hm, hq⟩, ⟨p, xs, e1, q1, q2⟩ =>
    subst e1
    have gl : okD c (.lst ds) = true := by rw [okD]; exact g2
    have dl : dpD (.lst ds) ≤ 64 := by rw [dpD]; omega
    have sh := toP_shaped gl dl
    have dp : Dp K H2 (.ref p) (toP (.lst ds)) := Vw.dp (d := .lst ds) ⟨p, xs, rfl, q1, q2⟩ gl
    rw [toP] at sh dp
    obtain ⟨i1, i2⟩ := idxI_at hm
    refine ⟨p, y, toP b, toPs ds, idxI ds b, toP b, rfl, rfl, dp, vy.dp g1, sh, toP_shaped g1 g3, by rw [toPs_get, i1]; rfl, by rw [eqv_toP b b g1 g1, beqD_dec]; exact decide_eq_true rfl, fun m z' hlt hz => ?_, k _ _ _ _ hq ⟨U, wT.push (.int _)⟩⟩
    rw [toPs_get] at hz
    obtain ⟨d, hd, rfl⟩ := Option.map_eq_some_iff.mp hz
    rw [eqv_toP d b (okL_get g2 hd) g1, beqD_dec]
    exact i2 m d hlt hd⟩
end
end Kn

set_option Elab.async false
set_option maxRecDepth 100000
set_option linter.all false
set_option autoImplicit false
namespace Kn
open PySem L2
/-! ### a <= b, a | b, a & b of own classes -/
def asD (r : Rv) (F : D → Prop) : Prop := match r with
  | .d d => F d
  | _ => False
def binOD (C : Addr) (F : FSpec) (S : PSt) (rx ry : Rv) (Q : D → PSt → Prop) : Prop := asD rx fun dx => asD ry fun dy => dd1 S (.d dx) (ofC C (dd1 S (.d dy) (ofC C (CallF F [dx, dy] S (fun r S' => asD r fun d => Q d S') fun _ _ => False))))
theorem asD_inv {r : Rv} {F : D → Prop} (h : asD r F) : ∃ d, r = .d d ∧ F d := by
  cases r with
  | d d => exact ⟨d, rfl, h⟩
  | own j => exact h.elim
section
variable {K : PySem.W.Frag} {e : Ent}
instance simBinO {C : Addr} {F : FSpec} : SimO K e (rBinO C (lift K F)) (binOD C F) := ⟨fun σ H S T x y rx ry Qd Q w h k => by
  unfold binOD at h
  obtain ⟨dx, rfl, h⟩ := asD_inv (r := rx) h
  obtain ⟨dy, rfl, h⟩ := asD_inv (r := ry) h
  obtain ⟨o1, h1, h3⟩ := dd1_inv h
  obtain ⟨fs, e1, h4⟩ := propF_inv h3
  subst e1
  obtain ⟨o2, h2, h5⟩ := dd1_inv h4
  obtain ⟨gs, e2, h6⟩ := propF_inv h5
  subst e2
  obtain ⟨U, w⟩ := w
  have vx := w.vw (w.tmp (.v x (.d dx)) (by simp)) h1
  have vy := w.vw (w.tmp (.v y (.d dy)) (by simp)) h2
  obtain ⟨a, dx1, xs, rfl, ha, dva⟩ : Vw K S.W.Tp U H x (.obj C fs) := vx
  obtain ⟨b, dy1, ys, rfl, hb, dvb⟩ : Vw K S.W.Tp U H y (.obj C gs) := vy
  have dv0 : Dv K S.W.Tp (Hd U H) (.ref a) dx := w.tmp (.v (.ref a) (.d dx)) (by simp)
  have dv1 : Dv K S.W.Tp (Hd U H) (.ref b) dy := w.tmp (.v (.ref b) (.d dy)) (by simp)
  have xT := w.less (T' := T) fun p hp => List.mem_cons_of_mem _ (List.mem_cons_of_mem _ hp)
  exact ⟨a, dx1, xs, b, dy1, ys, rfl, ha, rfl, hb, U, S.W, [dx, dy], _, _, w.wo, .cons dv0 (.cons dv1 .nil), h6, fun d W' v H' U' q r f dv => k _ _ _ _ q (xT.callBack r f dv), fun x W' c dd H' U' q _ _ _ => q⟩⟩
end
end Kn

set_option Elab.async false
set_option maxRecDepth 100000
set_option linter.all false
set_option autoImplicit false
namespace Kn
open PySem L2
/-! ### isinstance(x, C) for an own class -/
/-- what isinstance asks of an instance's class -/
structure InsK (K : PySem.W.Frag) (C : Addr) : Prop where
  c : Cls K C
  a : PySem.W.findIn K (.ref C) "__class__" = some (some (.builtin "object.__class__"))
  n : PySem.W.specialIn K (.builtin "object.__class__") "__get__" = some (some (.builtin "getset_descriptor.__get__"))
  t : PySem.W.takesIn K (.builtin "object.__class__") = some true
  m : PySem.W.mroIn K C (.type "object") = some true
def rIsiO (K : PySem.W.Frag) : List V → Hp → VK → Prop := rIsi K
theorem call_isiO {X : Cx} (K : PySem.W.Frag) (h : X.K = K := by rfl) : CallR X (.builtin "isinstance") (rIsiO K) := by subst h; exact call_isi
def isoF (K : PySem.W.Frag) (C : Addr) (Q : D → Prop) : D → Prop
  | .obj C' _ => InsK K C' ∧ opt (PySem.W.kitOne K (.ref C') (.ref C)) fun b => Q (.bl b)
  | d => opt (tyN d) fun t => opt (PySem.W.kitOne K (.type t) (.ref C)) fun b => Q (.bl b)
def isoD (K : PySem.W.Frag) (S : PSt) (rs : List Rv) (Q : D → PSt → Prop) : Prop := arg2 rs fun x c => match c with
  | .d (.ref C) => dd1 S x (isoF K C fun d => Q d S)
  | _ => False
section
variable {K : PySem.W.Frag} {e : Ent}
instance simIsiO : SimC K e (rIsiO K) (isoD K) := ⟨fun σ H S T vs rs Qd Q hl x h k => by
  obtain ⟨r1, r2, rfl, h⟩ := arg2_inv h
  obtain ⟨v, w, rfl⟩ := len2 hl
  match r2, h, x with
  | .d (.ref C), h, x =>
    obtain ⟨a, ha, h⟩ := dd1_inv h
    obtain ⟨U, x⟩ := x
    have hw : Dv K S.W.Tp (Hd U H) w (.ref C) := x.tmp (.v w (.d (.ref C))) (by simp [tms])
    cases hw
    have vw := x.vw (x.tmp (.v v r1) (by simp [tms])) ha
    have fin : ∀ (t : Value) (b : Bool), TyX K H v t → PySem.W.kitOne K t (.ref C) = some b → Qd (.bl b) S → rIsiO K [v, .ref C] H Q := fun t b ty kt q =>
      ⟨v, .ref C, t, .ref C, b, rfl, .own C, ty, kt, k _ _ _ _ q ⟨U, (x.less fun p hp => by simp [tms, hp]).push (.bl _)⟩⟩
    have gen : ∀ t, tyN a = some t → (∀ b, PySem.W.kitOne K (.type t) (.ref C) = some b → Qd (.bl b) S → rIsiO K [v, .ref C] H Q) := fun t ht b kt q => fin _ b (tyN_ty vw ht) kt q
    cases a with
    | obj C' fs =>
      obtain ⟨ik, h⟩ := h
      obtain ⟨b, hb, h⟩ := opt_inv h
      obtain ⟨a1, dx1, xs, rfl, ha1, dva⟩ : Vw K S.W.Tp U H v (.obj C' fs) := vw
      exact fin _ b (.base (.ins ha1 ik.c ik.a ik.n ik.t ik.m)) hb h
    | _ =>
      unfold isoF at h
      obtain ⟨t, ht, h⟩ := opt_inv h
      obtain ⟨b, hb, h⟩ := opt_inv h
      exact gen t ht b hb h⟩
end
end Kn

set_option Elab.async false
set_option maxRecDepth 100000
set_option linter.all false
set_option autoImplicit false
/-! where the walk stops until something is known -/
namespace Kn
open PySem L2
theorem opt_some {α : Type} {a : α} {F : α → Prop} : opt (some a) F = F a := rfl
theorem asB_bl {b : Bool} {F : Bool → Prop} : asB (.d (.bl b)) F = F b := rfl
theorem asI_int {b : Int} {F : Int → Prop} : asI (.d (.int b)) F = F b := rfl
section
variable {S : PSt} {F : D → Prop} {G : D → PSt → Prop} {H2 : D → D → Prop}
theorem dd2_dd1 {rx ry : Rv} : dd2 S rx ry H2 = dd1 S rx fun a => dd1 S ry fun b => H2 a b := by
  unfold dd2 dd1
  cases derefD S rx with
  | none => rfl
  | some a => cases derefD S ry <;> rfl
theorem dd1_non : dd1 S (.d .non) F = F .non := rfl
theorem dd1_bl {b : Bool} : dd1 S (.d (.bl b)) F = F (.bl b) := rfl
theorem dd1_int {b : Int} : dd1 S (.d (.int b)) F = F (.int b) := rfl
theorem dd1_str {b : Str} : dd1 S (.d (.str b)) F = F (.str b) := rfl
theorem dd1_ty {b : String} : dd1 S (.d (.ty b)) F = F (.ty b) := rfl
theorem dd1_tup {b : List D} : dd1 S (.d (.tup b)) F = F (.tup b) := rfl
theorem dd1_lst {b : List D} : dd1 S (.d (.lst b)) F = F (.lst b) := rfl
theorem dd1_dct {b : List (Key × D)} : dd1 S (.d (.dct b)) F = F (.dct b) := rfl
theorem dd1_obj {C : Addr} {b : List (Str × D)} : dd1 S (.d (.obj C b)) F = F (.obj C b) := rfl
theorem dd1_tape : dd1 S (.d .tape) F = F .tape := rfl
theorem dd1_ownL {j : Nat} {ds : List D} (h : S.ρ[j]? = some (some (.ownL ds))) : dd1 S (.own j) F = F (.lst ds) := by simp only [dd1, derefD, h]
theorem dd1_ownD {j : Nat} {ds : List (Key × D)} (h : S.ρ[j]? = some (some (.ownD ds))) : dd1 S (.own j) F = F (.dct ds) := by simp only [dd1, derefD, h]
theorem frc_d {d : D} : frc (.d d) S G = G d S := rfl
theorem frc_ownL {j : Nat} {ds : List D} (h : S.ρ[j]? = some (some (.ownL ds))) : frc (.own j) S G = G (.lst ds) (S.set j (.val (.lst ds))) := by simp only [frc, h]
theorem frc_ownD {j : Nat} {ds : List (Key × D)} (h : S.ρ[j]? = some (some (.ownD ds))) : frc (.own j) S G = G (.dct ds) (S.set j (.val (.dct ds))) := by simp only [frc, h]
theorem derefD_ownL {j : Nat} {ds : List D} (h : S.ρ[j]? = some (some (.ownL ds))) : derefD S (.own j) = some (.lst ds) := by simp only [derefD, h]
end
end Kn

set_option Elab.async false
set_option maxRecDepth 100000
set_option linter.all false
set_option autoImplicit true
namespace Kn
open PySem L2
theorem u_tdC {d : D} {S Q} : tdC d S Q = (Q (.d d) S) := rfl
theorem u_tdOp {o : PSt → Rv → Rv → (D → PSt → Prop) → Prop} {ta tb : TDE} {S Q} : tdOp o ta tb S Q = (ta S fun x S1 => tb S1 fun y S2 => o S2 x y fun d S3 => Q (.d d) S3) := rfl
theorem u_tdNil {S Q} : tdNil S Q = (Q [] S) := rfl
theorem u_tdCons {ta : TDE} {tr : TDA} {S Q} : tdCons ta tr S Q = (ta S fun r S1 => tr S1 fun rs S2 => Q (r :: rs) S2) := rfl
theorem u_tdTup {ta : TDA} {S Q} : tdTup ta S Q = (ta S fun rs S1 => frcL rs S1 fun ds S2 => ds.length ≤ 1000000 ∧ Q (.d (.tup ds)) S2) := rfl
theorem u_tnLst {ta : TDA} {S Q} : tnLst ta S Q = (ta S fun rs S1 => frcL rs S1 fun ds S2 => ds.length ≤ 1000000 ∧ Q ds S2) := rfl
theorem u_tdFrz {t : TDN} {S Q} : tdFrz t S Q = (t S fun ds S1 => Q (.d (.lst ds)) S1) := rfl
theorem u_tdFrzK {t : TDK} {S Q} : tdFrzK t S Q = (t S fun ds S1 => Q (.d (.dct ds)) S1) := rfl
theorem u_tkNew {S Q} : tkNew S Q = (Q [] S) := rfl
theorem u_tdTest {t : TDE} {S Q} : tdTest t S Q = (t S fun r S1 => asB r fun b => Q b S1) := rfl
theorem u_tdAnd {t u : TDT} {S Q} : tdAnd t u S Q = (t S fun c S1 => if c = true then u S1 Q else Q false S1) := rfl
theorem u_tdOr {t u : TDT} {S Q} : tdOr t u S Q = (t S fun c S1 => if c = true then Q true S1 else u S1 Q) := rfl
theorem u_tdNot {t : TDT} {S Q} : tdNot t S Q = (t S fun c S1 => Q (!c) S1) := rfl
theorem u_tdYes {S Q} : tdYes S Q = (Q true S) := rfl
theorem u_tdAndV {ta tb : TDE} {S Q} : tdAndV ta tb S Q = (tdTest ta S fun c S1 => if c = true then tb S1 Q else Q (.d (.bl false)) S1) := rfl
theorem u_tdOrV {ta tb : TDE} {S Q} : tdOrV ta tb S Q = (tdTest ta S fun c S1 => if c = true then Q (.d (.bl true)) S1 else tb S1 Q) := rfl
theorem u_tdNotV {ta : TDE} {S Q} : tdNotV ta S Q = (tdTest ta S fun c S1 => Q (.d (.bl (!c))) S1) := rfl
theorem u_tdIf {t : TDT} {ta tb : TDE} {S Q} : tdIf t ta tb S Q = (t S fun c S1 => if c = true then ta S1 Q else tb S1 Q) := rfl
theorem u_tdCB {o : PSt → List Rv → (D → PSt → Prop) → Prop} {t : TDA} {S Q} : tdCB o t S Q = (t S fun rs S1 => o S1 rs fun d S2 => Q (.d d) S2) := rfl
theorem u_tnCB {o : PSt → List Rv → (List D → PSt → Prop) → Prop} {t : TDA} {S Q} : tnCB o t S Q = (t S fun rs S1 => o S1 rs Q) := rfl
theorem u_tnAdd {ta tb : TDE} {S Q} : tnAdd ta tb S Q = (ta S fun x S1 => tb S1 fun y S2 => dd2 S2 x y fun a b => match a, b with
  | .lst a, .lst b => a.length + b.length ≤ 1000000 ∧ Q (a ++ b) S2
  | _, _ => False) := rfl
theorem u_tdNoPart {S Q} : tdNoPart S Q = (Q none S) := rfl
theorem u_tdPart {t : TDE} {S Q} : tdPart t S Q = (t S fun r S1 => asI r fun i => Q (some i) S1) := rfl
theorem u_tdSl {te : TDE} {tl th : TDO} {S Q} : tdSl te tl th S Q = (te S fun r S1 => tl S1 fun lo S2 => th S2 fun hi S3 => dd1 S3 r (slF lo hi fun d => Q (.d d) S3)) := rfl
theorem u_tnSl {te : TDE} {tl th : TDO} {S Q} : tnSl te tl th S Q = (te S fun r S1 => tl S1 fun lo S2 => th S2 fun hi S3 => dd1 S3 r fun d => match d with
  | .lst ds => Q (cut ds lo hi) S3
  | _ => False) := rfl
theorem u_tdRevT {te : TDE} {tk : TDO} {S Q} : tdRevT te tk S Q = (te S fun r S1 => tk S1 fun o S2 => o = some (-1) ∧ dd1 S2 r fun d => match d with
  | .tup ds => Q (.d (.tup ds.reverse)) S2
  | _ => False) := rfl
theorem u_tnRevL {te : TDE} {tk : TDO} {S Q} : tnRevL te tk S Q = (te S fun r S1 => tk S1 fun o S2 => o = some (-1) ∧ dd1 S2 r fun d => match d with
  | .lst ds => Q ds.reverse S2
  | _ => False) := rfl
theorem u_tdIsiT {tx : TDE} {ta : TDA} {S Q} : tdIsiT tx ta S Q = (tx S fun x S1 => ta S1 fun rs S2 => opt (tysOf rs) fun ns => ns.all tyOk = true ∧ rs.length ≤ 1000 ∧ dd1 S2 x fun a => opt (tyN a) fun t => Q (.d (.bl (ns.any (isB t)))) S2) := rfl
theorem u_tdNext {E S} : tdNext E S = (E.nx S) := rfl
theorem u_tdSeq {t u : TDS} {E S} : tdSeq t u E S = (t { E with nx := u E } S) := rfl
theorem u_tdBreak {E S} : tdBreak E S = (E.bk S) := rfl
theorem u_tdCont {E S} : tdCont E S = (E.ct S) := rfl
theorem u_tdDrop {te : TDE} {E S} : tdDrop te E S = (te S fun _ S1 => E.nx S1) := rfl
theorem u_tdRet {te : TDE} {E S} : tdRet te E S = (te S fun r S1 => frc r S1 fun d S2 => E.rt d S2.W) := rfl
theorem u_tdRetN {E S} : tdRetN E S = (E.rt .non S.W) := rfl
theorem u_tdRetO {t : TDN} {E S} : tdRetO t E S = (t S fun ds S1 => E.rn ds S1.W) := rfl
theorem u_tdIfS {c : TDT} {t u : TDS} {E S} : tdIfS c t u E S = (c S fun b S1 => if b = true then t E S1 else u E S1) := rfl
theorem u_gdName {i : Nat} {d S Q} : gdName i d S Q = (Q (S.set i (.val d))) := rfl
theorem u_gdNil {ds S Q} : gdNil ds S Q = (ds = [] ∧ Q S) := rfl
theorem u_gdCons {t : TDG} {u : TDGs} {ds S Q} : gdCons t u ds S Q = (match ds with
  | d :: r => t d S fun S1 => u r S1 Q
  | [] => False) := rfl
theorem u_gdTup {n : Nat} {t : TDGs} {d S Q} : gdTup n t d S Q = (match d with
  | .tup ds => ds.length = n ∧ t ds S Q
  | _ => False) := rfl
theorem u_tdAsg {te : TDE} {g : TDG} {E S} : tdAsg te g E S = (te S fun r S1 => frc r S1 fun d S2 => g d S2 E.nx) := rfl
theorem u_tdAsgN {i : Nat} {t : TDN} {E S} : tdAsgN i t E S = (t S fun ds S1 => E.nx (S1.set i (.ownL ds))) := rfl
theorem u_tdAsgK {i : Nat} {t : TDK} {E S} : tdAsgK i t E S = (t S fun ds S1 => E.nx (S1.set i (.ownD ds))) := rfl
theorem u_tiAny {td : TDE} {S Q} : tiAny td S Q = (td S fun r S1 => frc r S1 fun d S2 => walkF (fun ds => Q ds S2) d) := rfl
theorem u_tiRng1 {ta : TDA} {S Q} : tiRng1 ta S Q = (ta S fun rs S1 => arg1 rs fun r => asI r fun j => -(2 ^ 62) ≤ j ∧ j < 2 ^ 62 ∧ Q (rng 0 j.toNat) S1) := rfl
theorem u_tiRng2 {ta : TDA} {S Q} : tiRng2 ta S Q = (ta S fun rs S1 => arg2 rs fun r q => asI r fun i => asI q fun j => (-(2 ^ 62) ≤ i ∧ i < 2 ^ 62 ∧ -(2 ^ 62) ≤ j ∧ j < 2 ^ 62) ∧ Q (rng i (j - i).toNat) S1) := rfl
theorem u_tdFor {wi : TDI} {g : TDG} {tb : TDS} {E S} : tdFor wi g tb E S = (wi S fun ds S1 => forD g tb E ds S1) := rfl
theorem u_tnLc {wi : TDI} {g : TDG} {tt : TDT} {te : TDE} {vs : List Nat} {S Q} : tnLc wi g tt te vs S Q = (wi S fun ds S1 => compD g tt te vs Q ds [] (S1.wipe vs)) := rfl
theorem u_tdCall {F : FSpec} {w : Exn → PSt → Prop} {t : TDA} {S Q} : tdCall F w t S Q = (t S fun rs S1 => frcL rs S1 fun ds S2 => CallF F ds S2 Q w) := rfl
theorem u_tnCall {F : FSpecN} {w : Exn → PSt → Prop} {t : TDA} {S Q} : tnCall F w t S Q = (t S fun rs S1 => frcL rs S1 fun ds S2 => CallN F ds S2 Q w) := rfl
theorem u_tdRaise {C : Addr} {w : Exn → PSt → Prop} {zz0 S} : tdRaise C w zz0 S = (w ⟨C, []⟩ S) := rfl
theorem u_tdApp {to : TDE} {t : TDA} {S Q} : tdApp to t S Q = (to S fun rx S1 => (∃ ds, derefD S1 rx = some (.lst ds)) ∧ t S1 fun rs S2 => arg1 rs fun r => frc r S2 fun d S3 => mutL S3 rx (fun ds k => ds.length ≤ 999999 ∧ k (ds ++ [d])) fun _ S4 => Q (.d .non) S4) := rfl
theorem u_tdDPut {td ty tv : TDE} {E S} : tdDPut td ty tv E S = (tv S fun rv S1 => td S1 fun rx S2 => ty S2 fun ry S3 => frc rv S3 fun d S4 => dd1 S4 ry fun dk => opt (keyD dk) fun k => mutD S4 rx (fun ks c => ks.length ≤ 999999 ∧ c (put ks k d)) E.nx) := rfl
theorem u_tkDict {t : TDA} {S Q} : tkDict t S Q = (t S fun rs S1 => arg1 rs fun r => dd1 S1 r fun d => match d with
  | .dct ks => Q ks S1
  | _ => False) := rfl
theorem u_tdAsgR {i : Nat} {t : TDN} {E S} : tdAsgR i t E S = (t S fun ds S1 => ∀ a : Addr, S1.W.ω a = none → ¬ S1.W.Tp a → E.nx (PSt.set ⟨S1.ρ, S1.W.put a (.lst ds)⟩ i (.val (.ref a)))) := rfl
theorem u_tdForR {td : TDE} {g : TDG} {tb : TDS} {E S} : tdForR td g tb E S = (td S fun r S1 => refF S1 (fun a ds => forR g tb E a ds ds S1) r) := rfl
theorem u_tdFldC {C : Addr} {f : Str} {t : TDE} {S Q} : tdFldC C f t S Q = (t S fun r S1 => dd1 S1 r (fldF C f fun d => Q (.d d) S1)) := rfl
theorem u_tdSetC {C : Addr} {f : Str} {ta tv : TDE} {E S} : tdSetC C f ta tv E S = (tv S fun r S1 => frc r S1 fun d S2 => ta S2 fun rx S3 => insF S3 C (fun a fs => fs.length < 1000 ∧ E.nx ⟨S3.ρ, S3.W.put a (.ins C (putFd f d fs))⟩) rx) := rfl
theorem u_tdMeth {C : Addr} {m : Str} {F : FSpec} {w : Exn → PSt → Prop} {dds : List D} {ta : TDE} {t : TDA} {S Q} : tdMeth C m F w dds ta t S Q = (ta S fun r S1 => frc r S1 fun d S2 => dd1 S2 (.d d) (recF C m (t S2 fun rs S3 => frcL rs S3 fun ds S4 => CallF F (d :: (ds ++ dds)) S4 Q w))) := rfl
theorem u_tdProp {C : Addr} {F : FSpec} {ta : TDE} {S Q} : tdProp C F ta S Q = (ta S fun r S1 => frc r S1 fun d S2 => dd1 S2 (.d d) (ofC C (CallF F [d] S2 Q fun _ _ => False))) := rfl
theorem u_tdMakeR {C : Addr} {F : FSpec} {w : Exn → PSt → Prop} {dds : List D} {t : TDA} {S Q} : tdMakeR C F w dds t S Q = (t S fun rs S1 => frcL rs S1 fun ds S2 => ∀ a : Addr, S2.W.ω a = none → ¬ S2.W.Tp a → CallF F (.ref a :: (ds ++ dds)) ⟨S2.ρ, S2.W.put a (.ins C [])⟩ (fun r S' => r = .d .non ∧ Q (.d (.ref a)) S') (fun x S' => insC C (fun _ => w x ⟨S'.ρ, S'.W.del a⟩) (S'.W.ω a))) := rfl
theorem u_tdMakeF {C : Addr} {F : FSpec} {w : Exn → PSt → Prop} {dds : List D} {t : TDA} {S Q} : tdMakeF C F w dds t S Q = (t S fun rs S1 => frcL rs S1 fun ds S2 => ∀ a : Addr, S2.W.ω a = none → ¬ S2.W.Tp a → CallF F (.ref a :: (ds ++ dds)) ⟨S2.ρ, S2.W.put a (.ins C [])⟩ (fun r S' => r = .d .non ∧ insC C (fun fs => Q (.d (.obj C fs)) ⟨S'.ρ, S'.W.del a⟩) (S'.W.ω a)) (fun x S' => insC C (fun _ => w x ⟨S'.ρ, S'.W.del a⟩) (S'.W.ω a))) := rfl
theorem u_tdRaiseS {C : Addr} {fs : List Str} {m : Bool} {w : Exn → PSt → Prop} {t : TDA} {zz0 S} : tdRaiseS C fs m w t zz0 S = (t S fun rs S1 => frcL rs S1 fun ds S2 => fs ≠ [] ∧ ds.length = fs.length ∧ okDm m ds ∧ w ⟨C, (fs.zip ds).reverse⟩ S2) := rfl
theorem u_tdTryAs {K : PySem.W.Frag} {c : Value} {i : Nat} {tb : (Exn → PSt → Prop) → TDS} {ts : Addr → Value → Option Addr → TDS} {wo : Exn → PSt → Prop} {E S} : tdTryAs K c i tb ts wo E S = (tb (fun x S' => exB K c x (∀ a d, ts a (.ref x.cls) d (E.un i) (S'.set i (.val (.exc a x.cls d x.fs)))) (wo x S')) E S) := rfl
theorem u_tdTryN {K : PySem.W.Frag} {l : List (Value × (Addr → Value → Option Addr → TDS))} {tb : (Exn → PSt → Prop) → TDS} {wo : Exn → PSt → Prop} {E S} : tdTryN K l tb wo E S = (tb (l.foldr (fun p w x S' => exB K p.1 x (∀ a d, p.2 a (.ref x.cls) d E S') (w x S')) wo) E S) := rfl
theorem u_tdXf {a : Addr} {cls : Value} {d : Option Addr} {C : Addr} {f : Str} {t : TDE} {S Q} : tdXf a cls d C f t S Q = (t S fun r S1 => excF a cls d (fun C' fs => C' = C ∧ opt (look fs f) fun v => Q (.d v) S1) r) := rfl
theorem u_tdJoin {to : TDE} {t : TDA} {S Q} : tdJoin to t S Q = (to S fun rx S1 => asS rx fun a => t S1 fun rs S2 => arg1 rs fun r => dd1 S2 r (joinF a fun y => Q (.d (.str y)) S2)) := rfl
theorem u_tnSplit {to : TDE} {t : TDA} {S Q} : tnSplit to t S Q = (to S fun rx S1 => asS rx fun a => t S1 fun rs S2 => arg1 rs fun r => asS r fun b => (b.length == 0) = false ∧ a.length ≤ 1000000 ∧ Q ((Txt.split a b).map D.str) S2) := rfl
theorem u_tdPartn {to : TDE} {t : TDA} {S Q} : tdPartn to t S Q = (to S fun rx S1 => asS rx fun a => t S1 fun rs S2 => arg1 rs fun r => asS r fun b => (b.length == 0) = false ∧ a.length ≤ 1000000 ∧ Q (.d (.tup [.str (Txt.partition a b).1, .str (Txt.partition a b).2.1, .str (Txt.partition a b).2.2])) S2) := rfl
theorem u_tdFmt {te : TDE} {S Q} : tdFmt te S Q = (te S fun r S1 => dd1 S1 r (fmtF fun y => Q (.d (.str y)) S1)) := rfl
theorem u_tdJoined {ts : List TDE} {S Q} : tdJoined ts S Q = ((ts.foldr (fun te k (acc : Str) S => te S fun r S1 => asS r fun y => (acc ++ y).length ≤ 1000000 ∧ k (acc ++ y) S1) (fun o S1 => Q (.d (.str o)) S1)) Str.empty S) := rfl
theorem u_tkDisp {t : PSt → (List (Key × D) → Prop) → Prop} {S Q} : tkDisp t S Q = (t S fun ks => ks.length ≤ 15 ∧ Q (mergeD [] ks) S) := rfl
theorem u_tdShK {t : TDK} {S Q} : tdShK t S Q = (t S fun ks S1 => ∀ a : Addr, S1.W.ω a = none → ¬ S1.W.Tp a → Q (.d (.ref a)) ⟨S1.ρ, S1.W.put a (.dct ks)⟩) := rfl
theorem u_tdClear {to : TDE} {S Q} : tdClear to S Q = (to S fun r S1 => (∃ ks, derefD S1 r = some (.dct ks)) ∧ mutD S1 r (fun _ c => c []) fun S2 => Q (.d .non) S2) := rfl
theorem u_tdOGet {C : Addr} {F : FSpec} {w : Exn → PSt → Prop} {ta ti : TDE} {S Q} : tdOGet C F w ta ti S Q = (ta S fun r S1 => frc r S1 fun d S2 => ti S2 fun r2 S3 => frc r2 S3 fun k S4 => dd1 S4 (.d d) (ofC C (CallF F [d, k] S4 Q w))) := rfl
theorem u_tdOSet {C : Addr} {F : FSpec} {w : Exn → PSt → Prop} {ta ti tv : TDE} {E S} : tdOSet C F w ta ti tv E S = (tv S fun r S1 => frc r S1 fun v S2 => ta S2 fun r2 S3 => frc r2 S3 fun d S4 => ti S4 fun r3 S5 => frc r3 S5 fun k S6 => dd1 S6 (.d d) (ofC C (CallF F [d, k, v] S6 (fun _ S' => E.nx S') w))) := rfl
theorem u_tdOIn {C : Addr} {F : FSpec} {w : Exn → PSt → Prop} {n : Bool} {ti ta : TDE} {S Q} : tdOIn C F w n ti ta S Q = (ti S fun r2 S1 => frc r2 S1 fun k S2 => ta S2 fun r S3 => frc r S3 fun d S4 => dd1 S4 (.d d) (ofC C (CallF F [d, k] S4 (fun r S' => asB r fun b => Q (.d (.bl (if n then !b else b))) S') w))) := rfl
theorem u_tdNeg {t : TDE} {S Q} : tdNeg t S Q = (t S fun r S1 => asI r fun i => Q (.d (.int (-i))) S1) := rfl
theorem u_tdForO {C : Addr} {fld : Str} {fv : PSt → (D → Prop) → Prop} {g : TDG} {tb : TDS} {E S} : tdForO C fld fv g tb E S = (ownW C fld fv S fun b od vs ks => forL g tb E b od vs ks (ks.map fun p : Key × D => keyV p.1) ⟨S.ρ, S.W.put b (.lk od vs ks)⟩) := rfl
theorem u_tnLcO {C : Addr} {fld : Str} {fv : PSt → (D → Prop) → Prop} {g : TDG} {tt : TDT} {te : TDE} {vs : List Nat} {S Q} : tnLcO C fld fv g tt te vs S Q = (ownW C fld fv S fun b od vk ks => compL g tt te vs Q b od vk ks (ks.map fun p : Key × D => keyV p.1) [] (PSt.wipe ⟨S.ρ, S.W.put b (.lk od vk ks)⟩ vs)) := rfl
theorem u_tnLcR {td : TDE} {g : TDG} {tt : TDT} {te : TDE} {vs : List Nat} {S Q} : tnLcR td g tt te vs S Q = (td S fun r S1 => refF S1 (fun a ds => compR g tt te vs Q a ds ds [] (S1.wipe vs)) r) := rfl
theorem u_tdGet2 {td ty tx : TDE} {S Q} : tdGet2 td ty tx S Q = (td S fun rx S1 => (∃ ks, derefD S1 rx = some (.dct ks)) ∧ ty S1 fun ry S2 => tx S2 fun rz S3 => frc rz S3 fun dz S4 => dd1 S4 ry fun dk => opt (keyD dk) fun k => dd1 S4 rx (getF k dz fun d => Q (.d d) S4)) := rfl
theorem u_tdPopAt {to : TDE} {t : TDA} {S Q} : tdPopAt to t S Q = (to S fun rx S1 => (∃ ds, derefD S1 rx = some (.lst ds)) ∧ t S1 fun rs S2 => arg1 rs fun r => asI r fun i => dd1 S2 rx (popF i fun ds j y => mutL S2 rx (fun ds' k => ds' = ds ∧ k (ds.eraseIdx j)) fun _ S3 => Q (.d y) S3)) := rfl
theorem u_tdRg1 {ta : TDE} {S Q} : tdRg1 ta S Q = (ta S fun r S1 => asI r fun n => Q 0 n S1) := rfl
theorem u_tdTupRg {t : TDRg} {S Q} : tdTupRg t S Q = (t S fun a b S1 => (0 ≤ a ∧ a ≤ 1000000 ∧ 0 ≤ b ∧ b ≤ 1000000) ∧ Q (.d (.tup (rng a (b - a).toNat))) S1) := rfl
theorem u_tnLstRg {t : TDRg} {S Q} : tnLstRg t S Q = (t S fun a b S1 => (0 ≤ a ∧ a ≤ 1000000 ∧ 0 ≤ b ∧ b ≤ 1000000) ∧ Q (rng a (b - a).toNat) S1) := rfl
theorem u_tdForW {ow : OW} {g : TDG} {tb : TDS} {E S} : tdForW ow g tb E S = (ow S fun b od vs ks => forL g tb E b od vs ks (ks.map fun p : Key × D => keyV p.1) ⟨S.ρ, S.W.put b (.lk od vs ks)⟩) := rfl
theorem u_tdAugO {i : Nat} {C : Addr} {F : FSpec} {te : TDE} {E S} : tdAugO i C F te E S = ((∃ c, S.ρ[i]? = some (some c)) ∧ te S fun r S1 => frc r S1 fun y S2 => valV1 (fun d => dd1 S2 (.d d) (ofC C (CallF F [d, y] S2 (fun r S3 => refV r fun b => E.nx (S3.set i (.val (.ref b)))) (fun _ _ => False)))) S2.ρ[i]?) := rfl
theorem u_tdLPut {to ti te : TDE} {E S} : tdLPut to ti te E S = (te S fun r S1 => frc r S1 fun v S2 => to S2 fun rx S3 => ti S3 fun ri S4 => asI ri fun k => dd1 S4 rx (lputF k fun ds j => mutL S4 rx (fun ds' c => ds' = ds ∧ c (ds.set j v)) fun _ S5 => E.nx S5)) := rfl
theorem u_tdFmtW {te ts : TDE} {S Q} : tdFmtW te ts S Q = (te S fun r S1 => ts S1 fun rz S2 => asS rz fun sp => dd1 S2 r (fmtWF sp fun y => Q (.d (.str y)) S2)) := rfl
theorem u_tdMethK {C : Addr} {m : Str} {F : FSpec} {w : Exn → PSt → Prop} {n nk : Nat} {ta : TDE} {t tk : TDA} {S Q} : tdMethK C m F w n nk ta t tk S Q = (ta S fun r S1 => frc r S1 fun d S2 => dd1 S2 (.d d) (recF C m (t S2 fun rs S3 => frcL rs S3 fun ds S4 => tk S4 fun zs S5 => frcL zs S5 fun es S6 => ds.length + 1 = n ∧ es.length = nk ∧ CallF F (d :: (ds ++ es)) S6 Q w))) := rfl
theorem u_tdChain {o o2 : PSt → Rv → Rv → (D → PSt → Prop) → Prop} {ta tb tc : TDE} {S Q} : tdChain o o2 ta tb tc S Q = (ta S fun x S1 => tb S1 fun y S2 => frc y S2 fun dy S3 => o S3 x (.d dy) fun d S4 => asB (.d d) fun c => if c = true then tc S4 fun z S5 => o2 S5 (.d dy) z fun d2 S6 => Q (.d d2) S6 else Q (.d (.bl false)) S4) := rfl
theorem u_tnLc2 {wi : TDI} {g : TDG} {tt : TDT} {wi1 : TDI} {g1 : TDG} {tt1 : TDT} {te : TDE} {vs vs1 : List Nat} {S Q} : tnLc2 wi g tt wi1 g1 tt1 te vs vs1 S Q = (wi S fun ds S1 => compD2 g tt wi1 g1 tt1 te vs vs1 Q ds [] (S1.wipe vs)) := rfl
theorem u_tdIndex {to : TDE} {t : TDA} {S Q} : tdIndex to t S Q = (to S fun rx S1 => (∃ ds, derefD S1 rx = some (.lst ds)) ∧ t S1 fun rs S2 => arg1 rs fun r => dd1 S2 rx fun a => dd1 S2 r fun b => idxF b (fun j => Q (.d (.int (j : Int))) S2) a) := rfl
theorem u_addF_i {Q : D → Prop} {i j : Int} : addF Q (.int i) (.int j) = Q (.int (i + j)) := rfl
theorem u_addF_s {Q : D → Prop} {a b : Str} : addF Q (.str a) (.str b) = (a.length + b.length ≤ 1000000 ∧ Q (.str (a ++ b))) := rfl
theorem u_addF_t {Q : D → Prop} {a b : List D} : addF Q (.tup a) (.tup b) = (a.length + b.length ≤ 1000000 ∧ Q (.tup (a ++ b))) := rfl
theorem u_addF_l {Q : D → Prop} {a b : List D} : addF Q (.lst a) (.lst b) = (a.length + b.length ≤ 1000000 ∧ Q (.lst (a ++ b))) := rfl
theorem u_iiF {P : Int → Int → Prop} {f : Int → Int → D} {Q : D → Prop} {i j : Int} : iiF P f Q (.int i) (.int j) = (P i j ∧ Q (f i j)) := rfl
theorem u_mulF_i {Q : D → Prop} {i j : Int} : mulF Q (.int i) (.int j) = (((-(2 ^ 64) < i ∧ i < 2 ^ 64) ∨ (-(2 ^ 64) < j ∧ j < 2 ^ 64)) ∧ Q (.int (i * j))) := rfl
theorem u_mulF_s {Q : D → Prop} {a : Str} {j : Int} : mulF Q (.str a) (.int j) = (0 ≤ j ∧ a.length ≤ 1000 ∧ j ≤ 1000 ∧ Q (.str (repS a j.toNat))) := rfl
theorem u_inF_l {Q : Bool → Prop} {x : D} {ds : List D} : inF Q x (.lst ds) = (inOk x ds ∧ Q (decide (x ∈ ds))) := rfl
theorem u_inF_t {Q : Bool → Prop} {x : D} {ds : List D} : inF Q x (.tup ds) = ((∃ c, fl c x = true ∧ ds.all (fl c) = true) ∧ Q (decide (x ∈ ds))) := rfl
theorem u_inF_s {Q : Bool → Prop} {i j : Str} : inF Q (.str i) (.str j) = Q (strIn i j) := rfl
theorem u_inF_ds {Q : Bool → Prop} {i : Str} {ks : List (Key × D)} : inF Q (.str i) (.dct ks) = Q (look ks (.inr i)).isSome := rfl
theorem u_inF_di {Q : Bool → Prop} {i : Int} {ks : List (Key × D)} : inF Q (.int i) (.dct ks) = Q (look ks (.inl i)).isSome := rfl
theorem u_ixF_l {Q : D → Prop} {ds : List D} {i : Int} : ixF Q (.lst ds) (.int i) = opt (atI ds i) Q := rfl
theorem u_ixF_t {Q : D → Prop} {ds : List D} {i : Int} : ixF Q (.tup ds) (.int i) = opt (atI ds i) Q := rfl
theorem u_ixF_s {Q : D → Prop} {z : Str} {i : Int} : ixF Q (.str z) (.int i) = (z.length ≤ 1000000 ∧ opt (atI z.cps.toList i) fun c => Q (.str ⟨#[c]⟩)) := rfl
theorem u_ixF_di {Q : D → Prop} {ks : List (Key × D)} {i : Int} : ixF Q (.dct ks) (.int i) = opt (look ks (.inl i)) Q := rfl
theorem u_ixF_ds {Q : D → Prop} {ks : List (Key × D)} {i : Str} : ixF Q (.dct ks) (.str i) = opt (look ks (.inr i)) Q := rfl
theorem u_slF_l {Q : D → Prop} {ds : List D} {lo hi : Option Int} : slF lo hi Q (.lst ds) = Q (.lst (cut ds lo hi)) := rfl
theorem u_slF_t {Q : D → Prop} {ds : List D} {lo hi : Option Int} : slF lo hi Q (.tup ds) = Q (.tup (cut ds lo hi)) := rfl
theorem u_slF_s {Q : D → Prop} {z : Str} {lo hi : Option Int} : slF lo hi Q (.str z) = (z.length ≤ 1000000 ∧ Q (.str (cutS z lo hi))) := rfl
theorem u_lenF_l {S : PSt} {Q : D → Prop} {ds : List D} : lenF S Q (.lst ds) = Q (.int ds.length) := rfl
theorem u_lenF_t {S : PSt} {Q : D → Prop} {ds : List D} : lenF S Q (.tup ds) = Q (.int ds.length) := rfl
theorem u_lenF_s {S : PSt} {Q : D → Prop} {z : Str} : lenF S Q (.str z) = (z.length ≤ 1000000 ∧ Q (.int z.length)) := rfl
theorem u_lenF_d {S : PSt} {Q : D → Prop} {ks : List (Key × D)} : lenF S Q (.dct ks) = Q (.int ks.length) := rfl
theorem u_isiF {S : PSt} {n : String} {Q : D → Prop} {a : D} : isiF S n Q a = (tyOk n = true ∧ opt (tyN a) fun t => Q (.bl (isB t n))) := rfl
theorem u_isiD {S : PSt} {x : Rv} {n : String} {Q : D → PSt → Prop} : isiD S [x, .d (.ty n)] Q = dd1 S x (isiF S n fun d => Q d S) := rfl
theorem u_tupF_l {S : PSt} {Q : D → Prop} {ds : List D} : tupF S Q (.lst ds) = Q (.tup ds) := rfl
theorem u_tupF_t {S : PSt} {Q : D → Prop} {ds : List D} : tupF S Q (.tup ds) = Q (.tup ds) := rfl
theorem u_lstF_l {S : PSt} {Q : List D → Prop} {ds : List D} : lstF S Q (.lst ds) = Q ds := rfl
theorem u_lstF_t {S : PSt} {Q : List D → Prop} {ds : List D} : lstF S Q (.tup ds) = Q ds := rfl
theorem u_allF {S : PSt} {Q : D → Prop} {ds : List D} : allF S Q (.lst ds) = opt (bls ds) fun bs => Q (.bl (bs.all id)) := rfl
theorem u_anyF {S : PSt} {Q : D → Prop} {ds : List D} : anyF S Q (.lst ds) = opt (bls ds) fun bs => Q (.bl (bs.any id)) := rfl
theorem u_sumF {S : PSt} {Q : D → Prop} {ds : List D} : sumF S Q (.lst ds) = opt (nts ds) fun bs => Q (.int bs.sum) := rfl
theorem u_sortF {S : PSt} {Q : List D → Prop} {ds : List D} : sortF S Q (.lst ds) = opt (nts ds) fun ns => ns.length < 64 ∧ Q ((srt ns).map D.int) := rfl
theorem u_intF_i {S : PSt} {Q : D → Prop} {i : Int} : intF S Q (.int i) = Q (.int i) := rfl
theorem u_intF_b {S : PSt} {Q : D → Prop} {b : Bool} : intF S Q (.bl b) = Q (.int (if b then 1 else 0)) := rfl
theorem u_strF {S : PSt} {Q : D → Prop} {i : Int} : strF S Q (.int i) = (i.natAbs.log2 < 1920 ∧ Q (.str (toString i))) := rfl
theorem u_walkF_l {Q : List D → Prop} {ds : List D} : walkF Q (.lst ds) = Q ds := rfl
theorem u_walkF_t {Q : List D → Prop} {ds : List D} : walkF Q (.tup ds) = Q ds := rfl
theorem u_walkF_s {Q : List D → Prop} {z : Str} : walkF Q (.str z) = Q (signs z) := rfl
theorem u_walkF_d {Q : List D → Prop} {ks : List (Key × D)} : walkF Q (.dct ks) = Q (ks.map fun p => keyV p.1) := rfl
theorem u_arg1 {r : Rv} {F : Rv → Prop} : arg1 [r] F = F r := rfl
theorem u_arg2 {r q : Rv} {F : Rv → Rv → Prop} : arg2 [r, q] F = F r q := rfl
theorem u_frcL_n {S : PSt} {Q : List D → PSt → Prop} : frcL [] S Q = Q [] S := rfl
theorem u_frcL_c {r : Rv} {rs : List Rv} {S : PSt} {Q : List D → PSt → Prop} : frcL (r :: rs) S Q = frc r S fun d S1 => frcL rs S1 fun ds S2 => Q (d :: ds) S2 := rfl
theorem u_addD {S : PSt} {rx ry : Rv} {Q : D → PSt → Prop} : addD S rx ry Q = dd1 S rx fun a => dd1 S ry fun b => addF (fun d => Q d S) a b := dd2_dd1
theorem u_iiD {P : Int → Int → Prop} {f : Int → Int → D} {S : PSt} {rx ry : Rv} {Q : D → PSt → Prop} : iiD P f S rx ry Q = dd1 S rx fun a => dd1 S ry fun b => iiF P f (fun d => Q d S) a b := dd2_dd1
theorem u_mulD {S : PSt} {rx ry : Rv} {Q : D → PSt → Prop} : mulD S rx ry Q = dd1 S rx fun a => dd1 S ry fun b => mulF (fun d => Q d S) a b := dd2_dd1
theorem u_eqD_f {S : PSt} {rx ry : Rv} {Q : D → PSt → Prop} : eqD false S rx ry Q = dd1 S rx fun a => dd1 S ry fun b => eqOk a b ∧ Q (.bl (decide (a = b))) S := dd2_dd1
theorem u_eqD_t {S : PSt} {rx ry : Rv} {Q : D → PSt → Prop} : eqD true S rx ry Q = dd1 S rx fun a => dd1 S ry fun b => eqOk a b ∧ Q (.bl (!decide (a = b))) S := dd2_dd1
theorem u_inD_f {S : PSt} {rx ry : Rv} {Q : D → PSt → Prop} : inD false S rx ry Q = dd1 S rx fun a => dd1 S ry fun b => inF (fun b => Q (.bl b) S) a b := dd2_dd1
theorem u_inD_t {S : PSt} {rx ry : Rv} {Q : D → PSt → Prop} : inD true S rx ry Q = dd1 S rx fun a => dd1 S ry fun b => inF (fun b => Q (.bl (!b)) S) a b := dd2_dd1
theorem u_ixD {S : PSt} {rx ry : Rv} {Q : D → PSt → Prop} : ixD S rx ry Q = dd1 S rx fun a => dd1 S ry fun b => ixF (fun d => Q d S) a b := dd2_dd1
theorem u_dd2 {S : PSt} {rx ry : Rv} {F : D → D → Prop} : dd2 S rx ry F = dd1 S rx fun a => dd1 S ry fun b => F a b := dd2_dd1
theorem u_isND_f {S : PSt} {d : D} {Q : D → PSt → Prop} : isND false S (.d d) (.d .non) Q = Q (.bl (isNn d)) S := rfl
theorem u_isND_t {S : PSt} {d : D} {Q : D → PSt → Prop} : isND true S (.d d) (.d .non) Q = Q (.bl (!isNn d)) S := rfl
theorem u_fldF {C : Addr} {f : Str} {Q : D → Prop} {fs : List (Str × D)} : fldF C f Q (.obj C fs) = opt (look fs f) Q := propext ⟨fun h => h.2, fun h => ⟨rfl, h⟩⟩
theorem u_recF {C : Addr} {m : Str} {Q : Prop} {fs : List (Str × D)} : recF C m Q (.obj C fs) = (look fs m = none ∧ Q) := propext ⟨fun h => h.2, fun h => ⟨rfl, h⟩⟩
theorem u_ofC {C : Addr} {Q : Prop} {fs : List (Str × D)} : ofC C Q (.obj C fs) = Q := propext ⟨fun h => h.2, fun h => ⟨rfl, h⟩⟩
theorem u_isBD {n : Bool} {S : PSt} {rx ry : Rv} {Q : D → PSt → Prop} : isBD n S rx ry Q = dd1 S rx fun a => dd1 S ry fun b => isBF n (fun d => Q d S) a b := dd2_dd1
theorem u_isBF_f {Q : D → Prop} {a b : Bool} : isBF false Q (.bl a) (.bl b) = Q (.bl (a == b)) := rfl
theorem u_isBF_t {Q : D → Prop} {a b : Bool} : isBF true Q (.bl a) (.bl b) = Q (.bl (!(a == b))) := rfl
theorem u_turnD {g : TDG} {tt : TDT} {te : TDE} {vs : List Nat} {d : D} {S : PSt} {N : D → PSt → Prop} {M : PSt → Prop} : turnD g tt te vs d S N M = g d S fun S2 => tt S2 fun b S3 => if b = true then te S3 fun r S4 => frc r S4 fun y S5 => N y (S5.wipe vs) else M (S3.wipe vs) := rfl

theorem u_excF {a a' C : Addr} {cls : Value} {d d' : Option Addr} {F : Addr → List (Str × D) → Prop} {fs : List (Str × D)} : excF a cls d F (.d (.exc a' C d' fs)) = (a' = a ∧ d' = d ∧ cls = .ref C ∧ F C fs) := rfl
theorem u_asS {F : Str → Prop} {x : Str} : asS (.d (.str x)) F = F x := rfl
theorem u_joinF_l {a : Str} {Q : Str → Prop} {ds : List D} : joinF a Q (.lst ds) = opt (strsD ds) fun ys => (ys.map (·.length)).sum + ys.length * a.length ≤ 16777216 ∧ Q (Txt.join a ys) := rfl
theorem u_joinF_t {a : Str} {Q : Str → Prop} {ds : List D} : joinF a Q (.tup ds) = opt (strsD ds) fun ys => (ys.map (·.length)).sum + ys.length * a.length ≤ 16777216 ∧ Q (Txt.join a ys) := rfl
theorem u_fmtF_s {Q : Str → Prop} {y : Str} : fmtF Q (.str y) = (y.length ≤ 1000000 ∧ Q y) := rfl
theorem u_fmtF_i {Q : Str → Prop} {i : Int} : fmtF Q (.int i) = (i.natAbs < 2 ^ 1000 ∧ Q (toString i)) := rfl
theorem u_eqKD {neg : Bool} {S : PSt} {rx ry : Rv} {Q : D → PSt → Prop} : eqKD neg S rx ry Q = dd2 S rx ry (eqKF neg fun b => Q (.bl b) S) := rfl
theorem u_eqKF_f {Q : Bool → Prop} {ks ls : List (Key × D)} : eqKF false Q (.dct ks) (.dct ls) = ((∃ b, plK b ks ∧ plK b ls) ∧ Q (eqKb ks ls)) := rfl
theorem u_eqKF_t {Q : Bool → Prop} {ks ls : List (Key × D)} : eqKF true Q (.dct ks) (.dct ls) = ((∃ b, plK b ks ∧ plK b ls) ∧ Q (!eqKb ks ls)) := rfl
theorem u_tvVar {i : Nat} {S : PSt} {Q : D → Prop} : tvVar i S Q = valV1 Q S.ρ[i]? := rfl
theorem u_tvFld {C : Addr} {f : Str} {fv : PSt → (D → Prop) → Prop} {S : PSt} {Q : D → Prop} : tvFld C f fv S Q = (fv S fun d => dd1 S (.d d) (fldF C f Q)) := rfl
theorem u_refD {Q : Addr → Prop} {b : Addr} : refD Q (.ref b) = Q b := rfl
theorem u_ownW {C : Addr} {fld : Str} {fv : PSt → (D → Prop) → Prop} {S : PSt} {Q : Addr → Obj → List (Key × V) → List (Key × D) → Prop} : ownW C fld fv S Q = (fv S fun d => dd1 S (.d d) (fldF C fld (refD fun b => dctC (fun ks => ∀ od vs, fv ⟨S.ρ, S.W.put b (.lk od vs ks)⟩ fun d' => dd1 ⟨S.ρ, S.W.put b (.lk od vs ks)⟩ (.d d') (fldF C fld fun v' => v' = .ref b ∧ Q b od vs ks)) (S.W.ω b)))) := rfl
theorem u_getF {k : Key} {z : D} {Q : D → Prop} {ks : List (Key × D)} : getF k z Q (.dct ks) = Q ((look ks k).getD z) := rfl
theorem u_popF {i : Int} {G : List D → Nat → D → Prop} {ds : List D} : popF i G (.lst ds) = ((-(2 ^ 63) ≤ i ∧ i < 2 ^ 63) ∧ opt (popI ds i) fun p => G ds p.1 p.2) := rfl
theorem u_dctW {fv : PSt → (D → Prop) → Prop} {S : PSt} {Q : Addr → Obj → List (Key × V) → List (Key × D) → Prop} : dctW fv S Q = (fv S (refD fun b => dctC (fun ks => ∀ od vs, fv ⟨S.ρ, S.W.put b (.lk od vs ks)⟩ fun v' => v' = .ref b ∧ Q b od vs ks) (S.W.ω b))) := rfl
theorem u_lputF {k : Int} {G : List D → Nat → Prop} {ds : List D} : lputF k G (.lst ds) = opt (ixN ds.length k) fun j => G ds j := rfl
theorem u_fmtWF_s {sp : Str} {Q : Str → Prop} {a : Str} : fmtWF sp Q (.str a) = (sp = sp12 ∧ a.length ≤ 12 ∧ Q (a ++ blanks (12 - a.length))) := rfl
theorem u_fmtWF_i {sp : Str} {Q : Str → Prop} {i : Int} : fmtWF sp Q (.int i) = (sp = sp3 ∧ 0 ≤ i ∧ i ≤ 10 ∧ Q (pad3 i)) := rfl
theorem u_inTD_f {S : PSt} {rx ry : Rv} {Q : D → PSt → Prop} : inTD false S rx ry Q = dd1 S rx fun a => dd1 S ry fun b => inTF (fun b => Q (.bl b) S) a b := dd2_dd1
theorem u_inTD_t {S : PSt} {rx ry : Rv} {Q : D → PSt → Prop} : inTD true S rx ry Q = dd1 S rx fun a => dd1 S ry fun b => inTF (fun b => Q (.bl (!b)) S) a b := dd2_dd1
theorem u_inTF {Q : Bool → Prop} {x : D} {ds : List D} : inTF Q x (.tup ds) = ((∃ c, okD c x = true ∧ okL c ds = true ∧ dpD x ≤ 64 ∧ dpL ds < 64) ∧ Q (decide (x ∈ ds))) := rfl
theorem u_refV {Q : Addr → Prop} {b : Addr} : refV (.d (.ref b)) Q = Q b := rfl
theorem u_valV1 {Q : D → Prop} {d : D} : valV1 Q (some (some (.val d))) = Q d := rfl
theorem u_mergeD_n {ks : List (Key × D)} : mergeD ks [] = ks := rfl
theorem u_mergeD_c {ks l : List (Key × D)} {p : Key × D} : mergeD ks (p :: l) = mergeD (put ks p.1 p.2) l := rfl
theorem u_mm2D {f : Int → Int → Int} {S : PSt} {x y : Rv} {Q : D → PSt → Prop} : mm2D f S [x, y] Q = dd1 S x fun a => dd1 S y fun b => iiF (fun _ _ => True) (fun i j => .int (f i j)) (fun d => Q d S) a b := rfl
theorem u_turnD2 {g : TDG} {tt : TDT} {wi1 : TDI} {g1 : TDG} {tt1 : TDT} {te : TDE} {vs vs1 : List Nat} {d : D} {acc : List D} {S : PSt} {N : List D → PSt → Prop} : turnD2 g tt wi1 g1 tt1 te vs vs1 d acc S N = g d S fun S2 => tt S2 fun b S3 => if b = true then wi1 S3 fun es S4 => compD g1 tt1 te vs1 (fun a S5 => N a (S5.wipe vs)) es acc (S4.wipe vs1) else N acc (S3.wipe vs) := rfl
theorem u_minF {S : PSt} {Q : D → Prop} {ds : List D} : minF S Q (.lst ds) = opt (nts ds) fun ns => 0 < ns.length ∧ ∀ m, m ∈ ns → (∀ y, y ∈ ns → m ≤ y) → Q (.int m) := rfl
theorem u_maxF {S : PSt} {Q : D → Prop} {ds : List D} : maxF S Q (.lst ds) = opt (nts ds) fun ns => 0 < ns.length ∧ ∀ m, m ∈ ns → (∀ y, y ∈ ns → y ≤ m) → Q (.int m) := rfl
theorem u_idxF {y : D} {Q : Nat → Prop} {ds : List D} : idxF y Q (.lst ds) = ((∃ c, okD c y = true ∧ okL c ds = true ∧ dpD y ≤ 64 ∧ dpL ds < 64) ∧ y ∈ ds ∧ Q (idxI ds y)) := rfl
theorem u_clsV_r {F : Value → Prop} {A : Addr} : clsV F (.d (.ref A)) = F (.ref A) := rfl
theorem u_clsV_t {F : Value → Prop} {n : String} : clsV F (.d (.ty n)) = F (.type n) := rfl
theorem u_isYD {K : PySem.W.Frag} {cls : Value} {d : Option Addr} {a : Addr} {S : PSt} {r q : Rv} {Q : D → PSt → Prop} : isYD K cls d a S [r, q] Q = excF a cls d (fun C fs => clsV (fun cv => ExcC K C ∧ ∃ b, PySem.W.kitOne K (.ref C) cv = some b ∧ Q (.bl b) S) q) r := rfl
theorem u_asD {d : D} {F : D → Prop} : asD (.d d) F = F d := rfl
theorem u_binOD {C : Addr} {G : FSpec} {S : PSt} {dx dy : D} {Q : D → PSt → Prop} : binOD C G S (.d dx) (.d dy) Q = dd1 S (.d dx) (ofC C (dd1 S (.d dy) (ofC C (CallF G [dx, dy] S (fun r S2 => asD r fun d => Q d S2) fun _ _ => False)))) := rfl
theorem u_isoD {K : PySem.W.Frag} {S : PSt} {x : Rv} {C : Addr} {Q : D → PSt → Prop} : isoD K S [x, .d (.ref C)] Q = dd1 S x (isoF K C fun d => Q d S) := rfl
theorem u_isoF_o {K : PySem.W.Frag} {C C2 : Addr} {Q : D → Prop} {fs : List (Str × D)} : isoF K C Q (.obj C2 fs) = (InsK K C2 ∧ opt (PySem.W.kitOne K (.ref C2) (.ref C)) fun b => Q (.bl b)) := rfl
theorem u_isoF_n {K : PySem.W.Frag} {C : Addr} {Q : D → Prop} : isoF K C Q .non = opt (PySem.W.kitOne K (.type "NoneType") (.ref C)) fun b => Q (.bl b) := rfl

/-! ### gates: a continuation in a box (an instance argument) is not looked into -/
class Bx (α : Type) where
  v : α
class Px where
  v : Prop
def CallB (F : FSpec) (ds : List D) (S : PSt) [Q : Bx (Rv → PSt → Prop)] [w : Bx (Exn → PSt → Prop)] : Prop := CallF F ds S Q.v w.v
def CallNB (F : FSpecN) (ds : List D) (S : PSt) [Q : Bx (List D → PSt → Prop)] [w : Bx (Exn → PSt → Prop)] : Prop := CallN F ds S Q.v w.v
def optB {α : Type} (o : Option α) [F : Bx (α → Prop)] : Prop := opt o F.v
def dd1B (S : PSt) (r : Rv) [F : Bx (D → Prop)] : Prop := dd1 S r F.v
def asBB (r : Rv) [F : Bx (Bool → Prop)] : Prop := asB r F.v
def asIB (r : Rv) [F : Bx (Int → Prop)] : Prop := asI r F.v
def frcB (r : Rv) (S : PSt) [F : Bx (D → PSt → Prop)] : Prop := frc r S F.v
def forB (ds : List D) (S : PSt) [g : Bx TDG] [tb : Bx TDS] [E : Bx DEnds] : Prop := forD g.v tb.v E.v ds S
def compB (ds acc : List D) (S : PSt) [g : Bx TDG] [tt : Bx TDT] [te : Bx TDE] [vs : Bx (List Nat)] [Q : Bx (List D → PSt → Prop)] : Prop := compD g.v tt.v te.v vs.v Q.v ds acc S
def iteB (c : Prop) [Decidable c] [A : Px] [B : Px] : Prop := if c then A.v else B.v
def whileB (S : PSt) [c : Bx TDT] [tb : Bx TDS] [E : Bx DEnds] : Prop := tdWhile c.v tb.v E.v S
def varB (c : Option (Option PC)) (i : Nat) [Q : Bx (Rv → Prop)] : Prop := match c with
  | some (some (.val d)) => Q.v (.d d)
  | some (some (.ownL _)) => Q.v (.own i)
  | some (some (.ownD _)) => Q.v (.own i)
  | _ => False
def augB (i : Nat) (S : PSt) (c : Option (Option PC)) (d : D) [Q : Bx (PSt → Prop)] : Prop := augF i S Q.v c d
def mutLB (S : PSt) (r : Rv) [F : Bx (List D → (List D → Prop) → Prop)] [Q : Bx (List D → PSt → Prop)] : Prop := mutL S r F.v Q.v
def mutDB (S : PSt) (r : Rv) [F : Bx (List (Key × D) → (List (Key × D) → Prop) → Prop)] [Q : Bx (PSt → Prop)] : Prop := mutD S r F.v Q.v
def retVB (c : Option (Option PC)) (W : Wd) [Q : Bx (List D → Wd → Prop)] : Prop := match c with
  | some (some (.ownL ds)) => Q.v ds W
  | _ => False
theorem b_Call {F : FSpec} {ds : List D} {S : PSt} {Q : Rv → PSt → Prop} {w : Exn → PSt → Prop} : CallF F ds S Q w = @CallB F ds S ⟨Q⟩ ⟨w⟩ := rfl
theorem b_CallN {F : FSpecN} {ds : List D} {S : PSt} {Q : List D → PSt → Prop} {w : Exn → PSt → Prop} : CallN F ds S Q w = @CallNB F ds S ⟨Q⟩ ⟨w⟩ := rfl
theorem b_opt {α : Type} {o : Option α} {F : α → Prop} : opt o F = @optB α o ⟨F⟩ := rfl
theorem b_dd1 {S : PSt} {r : Rv} {F : D → Prop} : dd1 S r F = @dd1B S r ⟨F⟩ := rfl
theorem b_asB {r : Rv} {F : Bool → Prop} : asB r F = @asBB r ⟨F⟩ := rfl
theorem b_asI {r : Rv} {F : Int → Prop} : asI r F = @asIB r ⟨F⟩ := rfl
theorem b_frc {r : Rv} {S : PSt} {F : D → PSt → Prop} : frc r S F = @frcB r S ⟨F⟩ := rfl
theorem b_for {g : TDG} {tb : TDS} {E : DEnds} {ds : List D} {S : PSt} : forD g tb E ds S = @forB ds S ⟨g⟩ ⟨tb⟩ ⟨E⟩ := rfl
theorem b_comp {g : TDG} {tt : TDT} {te : TDE} {vs : List Nat} {Q : List D → PSt → Prop} {ds acc : List D} {S : PSt} : compD g tt te vs Q ds acc S = @compB ds acc S ⟨g⟩ ⟨tt⟩ ⟨te⟩ ⟨vs⟩ ⟨Q⟩ := rfl
theorem b_ite {c : Prop} [Decidable c] {A B : Prop} : (if c then A else B) = @iteB c _ ⟨A⟩ ⟨B⟩ := rfl
theorem b_while {c : TDT} {tb : TDS} {E : DEnds} {S : PSt} : tdWhile c tb E S = @whileB S ⟨c⟩ ⟨tb⟩ ⟨E⟩ := rfl
theorem b_var {i : Nat} {S : PSt} {Q : Rv → PSt → Prop} : tdVar i S Q = @varB S.ρ[i]? i ⟨fun r => Q r S⟩ := by
  unfold tdVar varB
  cases S.ρ[i]? with
  | none => rfl
  | some c =>
    cases c with
    | none => rfl
    | some c => cases c <;> rfl
theorem b_aug {i : Nat} {t : TDE} {E : DEnds} {S : PSt} : tdAug i t E S = ((∃ c, S.ρ[i]? = some (some c)) ∧ t S fun r S1 => dd1 S1 r fun d => @augB i S1 S1.ρ[i]? d ⟨E.nx⟩) := rfl
theorem b_mutL {S : PSt} {r : Rv} {F : List D → (List D → Prop) → Prop} {Q : List D → PSt → Prop} : mutL S r F Q = @mutLB S r ⟨F⟩ ⟨Q⟩ := rfl
theorem b_mutD {S : PSt} {r : Rv} {F : List (Key × D) → (List (Key × D) → Prop) → Prop} {Q : PSt → Prop} : mutD S r F Q = @mutDB S r ⟨F⟩ ⟨Q⟩ := rfl
theorem b_retV {i : Nat} {E : DEnds} {S : PSt} : tdRetV i E S = @retVB S.ρ[i]? S.W ⟨E.rn⟩ := by
  unfold tdRetV retVB
  cases S.ρ[i]? with
  | none => rfl
  | some c =>
    cases c with
    | none => rfl
    | some c => cases c <;> rfl
section
variable {S : PSt} {F : Bx (D → Prop)} {G : Bx (D → PSt → Prop)}
theorem o_opt {α : Type} {a : α} {F : Bx (α → Prop)} : @optB α (some a) F = F.v a := rfl
theorem o_asB {b : Bool} {F : Bx (Bool → Prop)} : @asBB (.d (.bl b)) F = F.v b := rfl
theorem o_asI {b : Int} {F : Bx (Int → Prop)} : @asIB (.d (.int b)) F = F.v b := rfl
theorem o_non : @dd1B S (.d .non) F = F.v .non := rfl
theorem o_bl {b : Bool} : @dd1B S (.d (.bl b)) F = F.v (.bl b) := rfl
theorem o_int {b : Int} : @dd1B S (.d (.int b)) F = F.v (.int b) := rfl
theorem o_str {b : Str} : @dd1B S (.d (.str b)) F = F.v (.str b) := rfl
theorem o_ty {b : String} : @dd1B S (.d (.ty b)) F = F.v (.ty b) := rfl
theorem o_tup {b : List D} : @dd1B S (.d (.tup b)) F = F.v (.tup b) := rfl
theorem o_lst {b : List D} : @dd1B S (.d (.lst b)) F = F.v (.lst b) := rfl
theorem o_dct {b : List (Key × D)} : @dd1B S (.d (.dct b)) F = F.v (.dct b) := rfl
theorem o_obj {C : Addr} {b : List (Str × D)} : @dd1B S (.d (.obj C b)) F = F.v (.obj C b) := rfl
def ownB (c : Option (Option PC)) [F : Bx (D → Prop)] : Prop := match c with
  | some (some (.ownL ds)) => F.v (.lst ds)
  | some (some (.ownD ks)) => F.v (.dct ks)
  | _ => False
theorem o_ownL' {ds : List D} : @ownB (some (some (.ownL ds))) F = F.v (.lst ds) := rfl
theorem o_ownD' {ds : List (Key × D)} : @ownB (some (some (.ownD ds))) F = F.v (.dct ds) := rfl
theorem own_imp {j : Nat} (h : @ownB S.ρ[j]? F) : @dd1B S (.own j) F := by
  cases q : S.ρ[j]? with
  | none => rw [q] at h; exact h.elim
  | some c =>
    cases c with
    | none => rw [q] at h; exact h.elim
    | some c =>
      rw [q] at h
      cases c with
      | val d => exact h.elim
      | ownL ds => simp only [dd1B, dd1, derefD, q]; exact h
      | ownD ds => simp only [dd1B, dd1, derefD, q]; exact h
theorem o_varV {i : Nat} {d : D} {Q : Bx (Rv → Prop)} : @varB (some (some (.val d))) i Q = Q.v (.d d) := rfl
theorem o_varL {i : Nat} {d : List D} {Q : Bx (Rv → Prop)} : @varB (some (some (.ownL d))) i Q = Q.v (.own i) := rfl
theorem o_varD {i : Nat} {d : List (Key × D)} {Q : Bx (Rv → Prop)} : @varB (some (some (.ownD d))) i Q = Q.v (.own i) := rfl
theorem o_frc {d : D} : @frcB (.d d) S G = G.v d S := rfl
theorem o_augI {i : Nat} {a b : Int} {Q : Bx (PSt → Prop)} : @augB i S (some (some (.val (.int a)))) (.int b) Q = Q.v (S.set i (.val (.int (a + b)))) := rfl
theorem o_augS {i : Nat} {a b : Str} {Q : Bx (PSt → Prop)} : @augB i S (some (some (.val (.str a)))) (.str b) Q = (a.length + b.length ≤ 1000000 ∧ Q.v (S.set i (.val (.str (a ++ b))))) := rfl
theorem o_augL {i : Nat} {a b : List D} {Q : Bx (PSt → Prop)} : @augB i S (some (some (.ownL a))) (.lst b) Q = (a.length + b.length ≤ 1000000 ∧ Q.v (S.set i (.ownL (a ++ b)))) := rfl
theorem o_retV {ds : List D} {W : Wd} {Q : Bx (List D → Wd → Prop)} : @retVB (some (some (.ownL ds))) W Q = Q.v ds W := rfl
theorem o_iteT {A B : Px} : @iteB True _ A B = A.v := by unfold iteB; simp
theorem o_iteF {A B : Px} : @iteB False _ A B = B.v := by unfold iteB; simp
end
theorem o_own {ρ : List (Option PC)} {W : Wd} {j : Nat} {F : Bx (D → Prop)} {c : PC} (h : ρ[j]? = some (some c)) (oc : c.isOwn) : @dd1B ⟨ρ, W⟩ (.own j) F = @ownB ρ[j]? F := by
  cases c with
  | val d => exact oc.elim
  | ownL ds => simp only [dd1B, dd1, derefD, ownB, h]
  | ownD ds => simp only [dd1B, dd1, derefD, ownB, h]
/-- a test whose answer is open -/
theorem iteB_by {c : Prop} [Decidable c] {A B : Px} (h1 : c → A.v) (h2 : ¬ c → B.v) : @iteB c _ A B := by
  unfold iteB
  split
  · exact h1 ‹_›
  · exact h2 ‹_›
theorem iteB_T {c : Prop} [Decidable c] {A B : Px} (hc : c) (h : A.v) : @iteB c _ A B := by unfold iteB; rw [if_pos hc]; exact h
theorem iteB_F {c : Prop} [Decidable c] {A B : Px} (hc : ¬ c) (h : B.v) : @iteB c _ A B := by unfold iteB; rw [if_neg hc]; exact h
theorem optB_of {α : Type} {o : Option α} {a : α} {F : Bx (α → Prop)} (h : o = some a) (k : F.v a) : @optB α o F := by rw [h]; exact k
/-! ### what a slot owns -/
def derefO : Option (Option PC) → Option D
  | some (some (.val (.ref _))) => none
  | some (some (.val d)) => some d
  | some (some (.ownL ds)) => some (.lst ds)
  | some (some (.ownD ks)) => some (.dct ks)
  | _ => none
theorem b_deref {S : PSt} {j : Nat} : derefD S (.own j) = derefO S.ρ[j]? := by
  rw [derefD]
  cases S.ρ[j]? with
  | none => rfl
  | some c =>
    cases c with
    | none => rfl
    | some c =>
      cases c with
      | val d => cases d <;> rfl
      | ownL ds => rfl
      | ownD ds => rfl
theorem o_derefL {ds : List D} : derefO (some (some (.ownL ds))) = some (.lst ds) := rfl
theorem o_derefD {ds : List (Key × D)} : derefO (some (some (.ownD ds))) = some (.dct ds) := rfl
theorem b_dd1own {S : PSt} {j : Nat} {F : Bx (D → Prop)} : @dd1B S (.own j) F = @optB D (derefO S.ρ[j]?) F := by
  unfold dd1B dd1 optB opt
  rw [b_deref]
  cases derefO S.ρ[j]? <;> rfl
def mutOB (S : PSt) (j : Nat) (c : Option (Option PC)) [F : Bx (List D → (List D → Prop) → Prop)] [Q : Bx (List D → PSt → Prop)] : Prop := mutO S j F.v Q.v c
theorem b_mutO {S : PSt} {j : Nat} {F : Bx (List D → (List D → Prop) → Prop)} {Q : Bx (List D → PSt → Prop)} : @mutLB S (.own j) F Q = @mutOB S j S.ρ[j]? F Q := rfl
theorem o_mutO {S : PSt} {j : Nat} {ds : List D} {F : Bx (List D → (List D → Prop) → Prop)} {Q : Bx (List D → PSt → Prop)} : @mutOB S j (some (some (.ownL ds))) F Q = F.v ds fun es => Q.v es (S.set j (.ownL es)) := rfl
def mutDOB (S : PSt) (j : Nat) (c : Option (Option PC)) [F : Bx (List (Key × D) → (List (Key × D) → Prop) → Prop)] [Q : Bx (PSt → Prop)] : Prop := mutDO S j F.v Q.v c
theorem b_mutDO {S : PSt} {j : Nat} {F : Bx (List (Key × D) → (List (Key × D) → Prop) → Prop)} {Q : Bx (PSt → Prop)} : @mutDB S (.own j) F Q = @mutDOB S j S.ρ[j]? F Q := rfl
theorem o_mutDO {S : PSt} {j : Nat} {ds : List (Key × D)} {F : Bx (List (Key × D) → (List (Key × D) → Prop) → Prop)} {Q : Bx (PSt → Prop)} : @mutDOB S j (some (some (.ownD ds))) F Q = F.v ds fun es => Q.v (S.set j (.ownD es)) := rfl
def frcOB (S : PSt) (j : Nat) (c : Option (Option PC)) [G : Bx (D → PSt → Prop)] : Prop := match c with
  | some (some (.val d)) => G.v d S
  | some (some (.ownL ds)) => G.v (.lst ds) (S.set j (.val (.lst ds)))
  | some (some (.ownD ks)) => G.v (.dct ks) (S.set j (.val (.dct ks)))
  | _ => False
theorem b_frcO {S : PSt} {j : Nat} {G : Bx (D → PSt → Prop)} : @frcB (.own j) S G = @frcOB S j S.ρ[j]? G := by
  unfold frcB frcOB
  rw [frc] <;> (cases S.ρ[j]? with
    | none => rfl
    | some c =>
      cases c with
      | none => rfl
      | some c => cases c <;> rfl)
theorem o_frcL {S : PSt} {j : Nat} {ds : List D} {G : Bx (D → PSt → Prop)} : @frcOB S j (some (some (.ownL ds))) G = G.v (.lst ds) (S.set j (.val (.lst ds))) := rfl
theorem o_frcD {S : PSt} {j : Nat} {ds : List (Key × D)} {G : Bx (D → PSt → Prop)} : @frcOB S j (some (some (.ownD ds))) G = G.v (.dct ds) (S.set j (.val (.dct ds))) := rfl
theorem o_frcV {S : PSt} {j : Nat} {d : D} {G : Bx (D → PSt → Prop)} : @frcOB S j (some (some (.val d))) G = G.v d S := rfl
def refB (S : PSt) (r : Rv) [Q : Bx (Addr → List D → Prop)] : Prop := refF S Q.v r
def forRB (a : Addr) (es ds : List D) (S : PSt) [g : Bx TDG] [tb : Bx TDS] [E : Bx DEnds] : Prop := forR g.v tb.v E.v a es ds S
def forLB (b : Addr) (od : Obj) (vs : List (Key × V)) (ks : List (Key × D)) (ds : List D) (S : PSt) [g : Bx TDG] [tb : Bx TDS] [E : Bx DEnds] : Prop := forL g.v tb.v E.v b od vs ks ds S
def compLB (b : Addr) (od : Obj) (vk : List (Key × V)) (ks : List (Key × D)) (ds acc : List D) (S : PSt) [g : Bx TDG] [tt : Bx TDT] [te : Bx TDE] [vs : Bx (List Nat)] [Q : Bx (List D → PSt → Prop)] : Prop := compL g.v tt.v te.v vs.v Q.v b od vk ks ds acc S
def compRB (b : Addr) (es ds acc : List D) (S : PSt) [g : Bx TDG] [tt : Bx TDT] [te : Bx TDE] [vs : Bx (List Nat)] [Q : Bx (List D → PSt → Prop)] : Prop := compR g.v tt.v te.v vs.v Q.v b es ds acc S
def comp2B (ds acc : List D) (S : PSt) [g : Bx TDG] [tt : Bx TDT] [wi1 : Bx TDI] [g1 : Bx TDG] [tt1 : Bx TDT] [te : Bx TDE] [vs : Bx (List Nat)] [vs1 : Bx (List Nat)] [Q : Bx (List D → PSt → Prop)] : Prop := compD2 g.v tt.v wi1.v g1.v tt1.v te.v vs.v vs1.v Q.v ds acc S
theorem b_comp2 {g g1 : TDG} {tt tt1 : TDT} {wi1 : TDI} {te : TDE} {vs vs1 : List Nat} {Q : List D → PSt → Prop} {ds acc : List D} {S : PSt} : compD2 g tt wi1 g1 tt1 te vs vs1 Q ds acc S = @comp2B ds acc S ⟨g⟩ ⟨tt⟩ ⟨wi1⟩ ⟨g1⟩ ⟨tt1⟩ ⟨te⟩ ⟨vs⟩ ⟨vs1⟩ ⟨Q⟩ := rfl
theorem b_compR {g : TDG} {tt : TDT} {te : TDE} {vs : List Nat} {Q : List D → PSt → Prop} {b : Addr} {es ds acc : List D} {S : PSt} : compR g tt te vs Q b es ds acc S = @compRB b es ds acc S ⟨g⟩ ⟨tt⟩ ⟨te⟩ ⟨vs⟩ ⟨Q⟩ := rfl
def dctCB (o : Option Cell) [Q : Bx (List (Key × D) → Prop)] : Prop := dctC Q.v o
theorem b_forL {g : TDG} {tb : TDS} {E : DEnds} {b : Addr} {od : Obj} {vs : List (Key × V)} {ks : List (Key × D)} {ds : List D} {S : PSt} : forL g tb E b od vs ks ds S = @forLB b od vs ks ds S ⟨g⟩ ⟨tb⟩ ⟨E⟩ := rfl
theorem b_compL {g : TDG} {tt : TDT} {te : TDE} {vs : List Nat} {Q : List D → PSt → Prop} {b : Addr} {od : Obj} {vk : List (Key × V)} {ks : List (Key × D)} {ds acc : List D} {S : PSt} : compL g tt te vs Q b od vk ks ds acc S = @compLB b od vk ks ds acc S ⟨g⟩ ⟨tt⟩ ⟨te⟩ ⟨vs⟩ ⟨Q⟩ := rfl
theorem b_dctC {o : Option Cell} {Q : List (Key × D) → Prop} : dctC Q o = @dctCB o ⟨Q⟩ := rfl
theorem o_dctC {ks : List (Key × D)} {Q : Bx (List (Key × D) → Prop)} : @dctCB (some (.dct ks)) Q = Q.v ks := rfl
theorem b_ref {S : PSt} {r : Rv} {Q : Addr → List D → Prop} : refF S Q r = @refB S r ⟨Q⟩ := rfl
theorem b_forR {g : TDG} {tb : TDS} {E : DEnds} {a : Addr} {es ds : List D} {S : PSt} : forR g tb E a es ds S = @forRB a es ds S ⟨g⟩ ⟨tb⟩ ⟨E⟩ := rfl
theorem o_ref {ρ : List (Option PC)} {W : Wd} {a : Addr} {ds : List D} {Q : Bx (Addr → List D → Prop)} : @refB ⟨ρ, W.put a (.lst ds)⟩ (.d (.ref a)) Q = Q.v a ds := by
  unfold refB refF
  simp only [Wd.put_same, refC]
theorem o_derefR {ρ : List (Option PC)} {W : Wd} {a : Addr} {ds : List D} : derefD ⟨ρ, W.put a (.lst ds)⟩ (.d (.ref a)) = some (.lst ds) := by
  simp only [derefD, Wd.put_same]
theorem o_dd1R {ρ : List (Option PC)} {W : Wd} {a : Addr} {ds : List D} {F : Bx (D → Prop)} : @dd1B ⟨ρ, W.put a (.lst ds)⟩ (.d (.ref a)) F = F.v (.lst ds) := by
  unfold dd1B dd1
  rw [o_derefR]
theorem put_put {W : Wd} {a : Addr} {c c' : Cell} : (W.put a c).put a c' = W.put a c' := by
  unfold Wd.put
  congr 1
  funext b
  by_cases h : b = a <;> simp [h]
theorem o_mutR {ρ : List (Option PC)} {W : Wd} {a : Addr} {ds : List D} {F : Bx (List D → (List D → Prop) → Prop)} {Q : Bx (List D → PSt → Prop)} : @mutLB ⟨ρ, W.put a (.lst ds)⟩ (.d (.ref a)) F Q = F.v ds fun es => Q.v es ⟨ρ, W.put a (.lst es)⟩ := by
  unfold mutLB mutL
  simp only [Wd.put_same, mutC, put_put]
theorem o_derefK {ρ : List (Option PC)} {W : Wd} {a : Addr} {ds : List (Key × D)} : derefD ⟨ρ, W.put a (.dct ds)⟩ (.d (.ref a)) = some (.dct ds) := by
  simp only [derefD, Wd.put_same]
theorem o_dd1K {ρ : List (Option PC)} {W : Wd} {a : Addr} {ds : List (Key × D)} {F : Bx (D → Prop)} : @dd1B ⟨ρ, W.put a (.dct ds)⟩ (.d (.ref a)) F = F.v (.dct ds) := by
  unfold dd1B dd1
  rw [o_derefK]
theorem o_mutK {ρ : List (Option PC)} {W : Wd} {a : Addr} {ds : List (Key × D)} {F : Bx (List (Key × D) → (List (Key × D) → Prop) → Prop)} {Q : Bx (PSt → Prop)} : @mutDB ⟨ρ, W.put a (.dct ds)⟩ (.d (.ref a)) F Q = F.v ds fun es => Q.v ⟨ρ, W.put a (.dct es)⟩ := by
  unfold mutDB mutD
  simp only [Wd.put_same, mutDC, put_put]
theorem o_putT {T : Addr → Prop} {W : Wd} {a : Addr} {c : Cell} : (⟨T, (W.put a c).ω⟩ : Wd) = Wd.put ⟨T, W.ω⟩ a c := rfl
def insFB (S : PSt) (C : Addr) (r : Rv) [Q : Bx (Addr → List (Str × D) → Prop)] : Prop := insF S C Q.v r
def insCB (C : Addr) (o : Option Cell) [Q : Bx (List (Str × D) → Prop)] : Prop := insC C Q.v o
theorem b_insF {S : PSt} {C : Addr} {r : Rv} {Q : Addr → List (Str × D) → Prop} : insF S C Q r = @insFB S C r ⟨Q⟩ := rfl
theorem b_insC {C : Addr} {o : Option Cell} {Q : List (Str × D) → Prop} : insC C Q o = @insCB C o ⟨Q⟩ := rfl
theorem o_insF {ρ : List (Option PC)} {W : Wd} {a C : Addr} {fs : List (Str × D)} {Q : Bx (Addr → List (Str × D) → Prop)} : @insFB ⟨ρ, W.put a (.ins C fs)⟩ C (.d (.ref a)) Q = Q.v a fs := by
  unfold insFB insF
  simp only [Wd.put_same, insC, true_and]
theorem o_insC {C : Addr} {fs : List (Str × D)} {Q : Bx (List (Str × D) → Prop)} : @insCB C (some (.ins C fs)) Q = Q.v fs := by
  unfold insCB
  simp only [insC, true_and]
theorem o_derefI {ρ : List (Option PC)} {W : Wd} {a C : Addr} {fs : List (Str × D)} : derefD ⟨ρ, W.put a (.ins C fs)⟩ (.d (.ref a)) = some (.obj C fs) := by
  simp only [derefD, Wd.put_same]
theorem o_dd1I {ρ : List (Option PC)} {W : Wd} {a C : Addr} {fs : List (Str × D)} {F : Bx (D → Prop)} : @dd1B ⟨ρ, W.put a (.ins C fs)⟩ (.d (.ref a)) F = F.v (.obj C fs) := by
  unfold dd1B dd1
  rw [o_derefI]
theorem o_putS {W : Wd} {a : Addr} {c : Cell} : (W.put a c).ω a = some c := Wd.put_same
theorem o_putP {W : Wd} {a : Addr} {c c' : Cell} : (W.put a c).put a c' = W.put a c' := put_put
def exBB (K : PySem.W.Frag) (c : Value) (x : Exn) [Y : Bx Prop] [N : Bx Prop] : Prop := exB K c x Y.v N.v
theorem b_exB {K : PySem.W.Frag} {c : Value} {x : Exn} {Y N : Prop} : exB K c x Y N = @exBB K c x ⟨Y⟩ ⟨N⟩ := rfl
theorem ex_catch {K : PySem.W.Frag} {c : Value} {x : Exn} {Y N : Bx Prop} (h : PySem.W.exmOne K (.ref x.cls) c = some true) (y : Y.v) : @exBB K c x Y N := ⟨true, h, fun _ => y, fun z => by cases z⟩
theorem ex_pass {K : PySem.W.Frag} {c : Value} {x : Exn} {Y N : Bx Prop} (h : PySem.W.exmOne K (.ref x.cls) c = some false) (y : N.v) : @exBB K c x Y N := ⟨false, h, fun z => (by cases z), fun _ => y⟩
theorem ofS_inj {a b : String} (h : Str.ofString a = Str.ofString b) : a = b := by
  have h : a.toList.map Char.toNat = b.toList.map Char.toNat := by
    rw [Str.ofString_eq_toList, Str.ofString_eq_toList] at h
    simpa using h
  exact String.toList_inj.mp ((List.map_inj_right (f := Char.toNat) fun x y e => Char.toNat_inj.mp e).mp h)
theorem ofS_eq (a b : String) : (Str.ofString a = Str.ofString b) = (a = b) := propext ⟨ofS_inj, fun h => by rw [h]⟩
theorem look_c {p : Str × D} {l : List (Str × D)} {k : Str} : look (p :: l) k = if p.1 = k then some p.2 else look l k := rfl
theorem look_n {k : Str} : look ([] : List (Str × D)) k = none := rfl
theorem putFd_c {f : Str} {x : D} {p : Str × D} {r : List (Str × D)} : putFd f x (p :: r) = if p.1 = f then (p.1, x) :: r else p :: putFd f x r := rfl
theorem putFd_n {f : Str} {x : D} : putFd f x [] = [(f, x)] := rfl
theorem bq_t (b : Bool) : (b == true) = b := by cases b <;> rfl
theorem bq_f (b : Bool) : (b == false) = !b := by cases b <;> rfl
theorem exC {c : PC} : (∃ c', (some (some c) : Option (Option PC)) = some (some c')) = True := eq_true ⟨c, rfl⟩
theorem exK {ds : List (Key × D)} : (∃ ds', (some (D.dct ds) : Option D) = some (.dct ds')) = True := eq_true ⟨ds, rfl⟩
theorem exL {ds : List D} : (∃ ds', (some (D.lst ds) : Option D) = some (.lst ds')) = True := eq_true ⟨ds, rfl⟩
end Kn

set_option Elab.async false
set_option maxRecDepth 100000
set_option linter.all false
set_option autoImplicit false
namespace Kn
open PySem L2
section
variable {α : Type} {g : TDG} {tt : TDT} {te : TDE} {vs : List Nat} {Q : List D → PSt → Prop} {tb : TDS} {E : DEnds} {S : PSt}
theorem for_rng {lo : Int} {n : Nat} (I : Nat → PSt → Prop) (h0 : I 0 S) (hs : ∀ (i : Nat) S, i < n → I i S → g (.int (lo + i)) S fun S2 => tb ⟨I (i + 1), E.rt, E.nx, I (i + 1), E.rn⟩ S2) (hd : ∀ S, I n S → E.nx S) : @forB (rng lo n) S ⟨g⟩ ⟨tb⟩ ⟨E⟩ := by
  refine forD_ix (g := g) (tb := tb) (E := E) (fun (i : Nat) => D.int (lo + (i : Int))) (List.range n) I h0 (fun i x S hx hi => ?_) (fun S h => hd S (by simpa using h))
  obtain ⟨h1, h2⟩ := List.getElem?_eq_some_iff.mp hx
  simp at h1 h2
  subst h2
  exact hs i S h1 hi
theorem for_lst {xs : List D} (I : Nat → PSt → Prop) (h0 : I 0 S) (hs : ∀ (i : Nat) x S, xs[i]? = some x → I i S → g x S fun S2 => tb ⟨I (i + 1), E.rt, E.nx, I (i + 1), E.rn⟩ S2) (hd : ∀ S, I xs.length S → E.nx S) : @forB xs S ⟨g⟩ ⟨tb⟩ ⟨E⟩ := forD_id xs I h0 hs hd
theorem for_map (h : α → D) (xs : List α) (I : Nat → PSt → Prop) (h0 : I 0 S) (hs : ∀ (i : Nat) x S, xs[i]? = some x → I i S → g (h x) S fun S2 => tb ⟨I (i + 1), E.rt, E.nx, I (i + 1), E.rn⟩ S2) (hd : ∀ S, I xs.length S → E.nx S) : @forB (xs.map h) S ⟨g⟩ ⟨tb⟩ ⟨E⟩ := forD_ix h xs I h0 hs hd
theorem for_all (h : α → D) (xs : List α) (hs : ∀ x ∈ xs, ∀ N : PSt → Prop, N S → g (h x) S fun S2 => tb ⟨N, E.rt, E.nx, N, E.rn⟩ S2) (hd : E.nx S) : @forB (xs.map h) S ⟨g⟩ ⟨tb⟩ ⟨E⟩ := forD_all h xs hs hd
theorem for_nil : @forB [] S ⟨g⟩ ⟨tb⟩ ⟨E⟩ = E.nx S := rfl
theorem for_cons {d : D} {ds : List D} (h : g d S fun S2 => tb ⟨fun S' => @forB ds S' ⟨g⟩ ⟨tb⟩ ⟨E⟩, E.rt, E.nx, fun S' => @forB ds S' ⟨g⟩ ⟨tb⟩ ⟨E⟩, E.rn⟩ S2) : @forB (d :: ds) S ⟨g⟩ ⟨tb⟩ ⟨E⟩ := ⟨_, fun _ z => z, h⟩
theorem comp_map (h f : α → D) (xs : List α) {acc : List D} (hl : acc.length + xs.length ≤ 1000000) (hs : ∀ x ∈ xs, ∀ (N : D → PSt → Prop) (M : PSt → Prop), N (f x) S → turnD g tt te vs (h x) S N M) (q : Q (acc ++ xs.map f) S) : @compB (xs.map h) acc S ⟨g⟩ ⟨tt⟩ ⟨te⟩ ⟨vs⟩ ⟨Q⟩ := compD_map h f xs acc hl hs q
theorem comp2_map {wi1 : TDI} {g1 : TDG} {tt1 : TDT} {vs1 : List Nat} (h : α → D) (f : α → List D) (xs : List α) {acc : List D} (hl : acc.length + (xs.flatMap f).length ≤ 1000000) (hs : ∀ x ∈ xs, ∀ (acc : List D) (N : List D → PSt → Prop), acc.length + (f x).length ≤ 1000000 → N (acc ++ f x) S → turnD2 g tt wi1 g1 tt1 te vs vs1 (h x) acc S N) (q : Q (acc ++ xs.flatMap f) S) : @comp2B (xs.map h) acc S ⟨g⟩ ⟨tt⟩ ⟨wi1⟩ ⟨g1⟩ ⟨tt1⟩ ⟨te⟩ ⟨vs⟩ ⟨vs1⟩ ⟨Q⟩ := compD2_map h f xs acc hl hs q
theorem comp_rel (h : α → D) (P : α → D → Prop) (xs : List α) {acc : List D} (hl : acc.length + xs.length ≤ 1000000) (hs : ∀ x ∈ xs, ∀ (N : D → PSt → Prop) (M : PSt → Prop), (∀ y, P x y → N y S) → turnD g tt te vs (h x) S N M) (q : ∀ ys, All2 P xs ys → Q (acc ++ ys) S) : @compB (xs.map h) acc S ⟨g⟩ ⟨tt⟩ ⟨te⟩ ⟨vs⟩ ⟨Q⟩ := compD_rel h P xs acc hl hs q
theorem comp_lst (f : D → D) {xs acc : List D} (hl : acc.length + xs.length ≤ 1000000) (hs : ∀ x ∈ xs, ∀ (N : D → PSt → Prop) (M : PSt → Prop), N (f x) S → turnD g tt te vs x S N M) (q : Q (acc ++ xs.map f) S) : @compB xs acc S ⟨g⟩ ⟨tt⟩ ⟨te⟩ ⟨vs⟩ ⟨Q⟩ := compD_mapI f xs acc hl hs q
theorem comp_fm (f : D → Option D) {xs acc : List D} (hl : acc.length + xs.length ≤ 1000000) (hs : ∀ x ∈ xs, ∀ (N : D → PSt → Prop) (M : PSt → Prop), (∀ y, f x = some y → N y S) → (f x = none → M S) → turnD g tt te vs x S N M) (q : Q (acc ++ xs.filterMap f) S) : @compB xs acc S ⟨g⟩ ⟨tt⟩ ⟨te⟩ ⟨vs⟩ ⟨Q⟩ := compD_fmI f xs acc hl hs q
theorem comp_fmM (h : α → D) (f : α → Option D) (xs : List α) {acc : List D} (hl : acc.length + xs.length ≤ 1000000) (hs : ∀ x ∈ xs, ∀ (N : D → PSt → Prop) (M : PSt → Prop), (∀ y, f x = some y → N y S) → (f x = none → M S) → turnD g tt te vs (h x) S N M) (q : Q (acc ++ xs.filterMap f) S) : @compB (xs.map h) acc S ⟨g⟩ ⟨tt⟩ ⟨te⟩ ⟨vs⟩ ⟨Q⟩ := compD_fm h f xs acc hl hs q
theorem comp_relL (P : D → D → Prop) {xs acc : List D} (hl : acc.length + xs.length ≤ 1000000) (hs : ∀ x ∈ xs, ∀ (N : D → PSt → Prop) (M : PSt → Prop), (∀ y, P x y → N y S) → turnD g tt te vs x S N M) (q : ∀ ys, All2 P xs ys → Q (acc ++ ys) S) : @compB xs acc S ⟨g⟩ ⟨tt⟩ ⟨te⟩ ⟨vs⟩ ⟨Q⟩ := compD_relI P xs acc hl hs q
theorem comp_seqB (h f : α → D) (R : α → Prop) (xs : List α) {acc : List D} (hl : acc.length + xs.length ≤ 1000000) (hs : ∀ (pre : List α) (x : α) (post : List α), xs = pre ++ x :: post → (∀ y ∈ pre, R y) → ∀ (N : D → PSt → Prop) (M : PSt → Prop), (R x → N (f x) S) → turnD g tt te vs (h x) S N M) (q : (∀ x ∈ xs, R x) → Q (acc ++ xs.map f) S) : @compB (xs.map h) acc S ⟨g⟩ ⟨tt⟩ ⟨te⟩ ⟨vs⟩ ⟨Q⟩ := comp_seq h f R xs acc hl hs q
theorem comp_seqL (f : D → D) (R : D → Prop) {xs acc : List D} (hl : acc.length + xs.length ≤ 1000000) (hs : ∀ (pre : List D) (x : D) (post : List D), xs = pre ++ x :: post → (∀ y ∈ pre, R y) → ∀ (N : D → PSt → Prop) (M : PSt → Prop), (R x → N (f x) S) → turnD g tt te vs x S N M) (q : (∀ x ∈ xs, R x) → Q (acc ++ xs.map f) S) : @compB xs acc S ⟨g⟩ ⟨tt⟩ ⟨te⟩ ⟨vs⟩ ⟨Q⟩ := by
  have := comp_seq (g := g) (tt := tt) (te := te) (vs := vs) (Q := Q) (S := S) id f R xs acc hl hs q
  rwa [List.map_id] at this
theorem dd1B_ok {S : PSt} {d : D} {b : Bool} {F : Bx (D → Prop)} (h : okD b d = true) (k : F.v d) : @dd1B S (.d d) F := by
  cases d <;> first | exact k | simp [okD] at h
theorem forR_drop {a : Addr} {es : List D} (I : Nat → PSt → Prop) (hI : ∀ i S, I i S → S.W.ω a = some (.lst es)) (hs : ∀ (i : Nat) x S, es[i]? = some x → I i S → g x S fun S2 => tb ⟨I (i + 1), E.rt, E.nx, I (i + 1), E.rn⟩ S2) (hd : ∀ S, I es.length S → E.nx S) : ∀ (m i : Nat) (S : PSt), es.length - i = m → i ≤ es.length → I i S → forR g tb E a es (es.drop i) S
  | 0, i, S, hm, hi, h => by
      have : i = es.length := by omega
      subst this
      rw [List.drop_length]
      exact ⟨hI _ _ h, hd S h⟩
  | m + 1, i, S, hm, hi, h => by
      have c : i < es.length := by omega
      rw [List.drop_eq_getElem_cons c]
      exact ⟨hI _ _ h, I (i + 1), fun S' h' => forR_drop I hI hs hd m (i + 1) S' (by omega) (by omega) h', hs i _ S (List.getElem?_eq_getElem c) h⟩
theorem forR_ix {a : Addr} {es : List D} (I : Nat → PSt → Prop) (h0 : I 0 S) (hI : ∀ i S, I i S → S.W.ω a = some (.lst es)) (hs : ∀ (i : Nat) x S, es[i]? = some x → I i S → g x S fun S2 => tb ⟨I (i + 1), E.rt, E.nx, I (i + 1), E.rn⟩ S2) (hd : ∀ S, I es.length S → E.nx S) : @forRB a es es S ⟨g⟩ ⟨tb⟩ ⟨E⟩ := forR_drop I hI hs hd es.length 0 S rfl (Nat.zero_le _) h0
end
/-- data that may lie in a cell -/
def vD (W : Wd) (d : D) : Option D := derefD ⟨[], W⟩ (.d d)
theorem vD_eq {ρ : List (Option PC)} {W : Wd} {d : D} : derefD ⟨ρ, W⟩ (.d d) = vD W d := by cases d <;> rfl
theorem vD_put {W : Wd} {a : Addr} {c : Cell} {d : D} (h : d ≠ .ref a) : vD (W.put a c) d = vD W d := by
  cases d with
  | ref b =>
    have : (W.put a c).ω b = W.ω b := Wd.put_ne fun z => h (by rw [z])
    show (match (W.put a c).ω b with
      | some (Cell.lst ds) => some (D.lst ds)
      | some (Cell.dct ks) => some (D.dct ks)
      | some (Cell.lk _ _ ks) => some (D.dct ks)
      | some (Cell.ins C fs) => some (D.obj C fs)
      | none => some (D.ref b)) = _
    rw [this]
    rfl
  | _ => rfl
theorem dd1B_at {ρ : List (Option PC)} {W : Wd} {x d : D} {F : Bx (D → Prop)} (h : vD W x = some d) (k : F.v d) : @dd1B ⟨ρ, W⟩ (.d x) F := by
  unfold dd1B dd1
  rw [vD_eq, h]
  exact k
theorem vD_nref {W : Wd} {a : Addr} {d : D} {ks : List (Key × D)} (h0 : W.ω a = none) (h : vD W d = some (.dct ks)) : d ≠ .ref a := fun z => by
  subst z
  unfold vD derefD at h
  simp only [h0] at h
  cases h
theorem vD_same {W : Wd} {a : Addr} {ks : List (Key × D)} : vD (W.put a (.dct ks)) (.ref a) = some (.dct ks) := by
  unfold vD derefD
  simp only [Wd.put_same]
theorem mutDB_at {ρ : List (Option PC)} {W : Wd} {a : Addr} {ds : List (Key × D)} {F : Bx (List (Key × D) → (List (Key × D) → Prop) → Prop)} {Q : Bx (PSt → Prop)} (h : W.ω a = some (.dct ds)) (k : F.v ds fun es => Q.v ⟨ρ, W.put a (.dct es)⟩) : @mutDB ⟨ρ, W⟩ (.d (.ref a)) F Q := by
  unfold mutDB mutD
  simp only [h, mutDC]
  exact k
theorem mutLB_at {ρ : List (Option PC)} {W : Wd} {a : Addr} {ds : List D} {F : Bx (List D → (List D → Prop) → Prop)} {Q : Bx (List D → PSt → Prop)} (h : W.ω a = some (.lst ds)) (k : F.v ds fun es => Q.v es ⟨ρ, W.put a (.lst es)⟩) : @mutLB ⟨ρ, W⟩ (.d (.ref a)) F Q := by
  unfold mutLB mutL
  simp only [h, mutC]
  exact k
theorem insFB_at {ρ : List (Option PC)} {W : Wd} {a C : Addr} {fs : List (Str × D)} {Q : Bx (Addr → List (Str × D) → Prop)} (h : W.ω a = some (.ins C fs)) (k : Q.v a fs) : @insFB ⟨ρ, W⟩ C (.d (.ref a)) Q := by
  unfold insFB insF
  simp only [h, insC, true_and]
  exact k
theorem refB_at {ρ : List (Option PC)} {W : Wd} {a : Addr} {ds : List D} {Q : Bx (Addr → List D → Prop)} (h : W.ω a = some (.lst ds)) (k : Q.v a ds) : @refB ⟨ρ, W⟩ (.d (.ref a)) Q := by
  unfold refB refF
  simp only [h, refC]
  exact k
theorem deref_lst {ρ : List (Option PC)} {W : Wd} {a : Addr} {ds : List D} (h : W.ω a = some (.lst ds)) : ∃ ds', derefD ⟨ρ, W⟩ (.d (.ref a)) = some (.lst ds') := ⟨ds, by simp only [derefD, h]⟩
theorem deref_dct {ρ : List (Option PC)} {W : Wd} {a : Addr} {ks : List (Key × D)} (h : W.ω a = some (.dct ks)) : ∃ ks', derefD ⟨ρ, W⟩ (.d (.ref a)) = some (.dct ks') := ⟨ks, by simp only [derefD, h]⟩
theorem deref_lk {ρ : List (Option PC)} {W : Wd} {a : Addr} {od : Obj} {vs : List (Key × V)} {ks : List (Key × D)} (h : W.ω a = some (.lk od vs ks)) : ∃ ks', derefD ⟨ρ, W⟩ (.d (.ref a)) = some (.dct ks') := ⟨ks, by simp only [derefD, h]⟩
theorem vD_lk {W : Wd} {a : Addr} {od : Obj} {vs : List (Key × V)} {ks : List (Key × D)} (h : W.ω a = some (.lk od vs ks)) : vD W (.ref a) = some (.dct ks) := by
  unfold vD derefD
  simp only [h]
theorem vD_ins {W : Wd} {a C : Addr} {fs : List (Str × D)} (h : W.ω a = some (.ins C fs)) : vD W (.ref a) = some (.obj C fs) := by
  unfold vD derefD
  simp only [h]
theorem vD_dct {W : Wd} {a : Addr} {ks : List (Key × D)} (h : W.ω a = some (.dct ks)) : vD W (.ref a) = some (.dct ks) := by
  unfold vD derefD
  simp only [h]
theorem vD_lst {W : Wd} {a : Addr} {ks : List D} (h : W.ω a = some (.lst ks)) : vD W (.ref a) = some (.lst ks) := by
  unfold vD derefD
  simp only [h]
theorem dctCB_at {o : Option Cell} {ks : List (Key × D)} {Q : Bx (List (Key × D) → Prop)} (h : o = some (.dct ks)) (k : Q.v ks) : @dctCB o Q := by
  rw [h]
  exact k
section
variable {α : Type} {g : TDG} {tt : TDT} {te : TDE} {vs : List Nat} {Q : List D → PSt → Prop} {tb : TDS} {E : DEnds} {S : PSt} {b : Addr} {od : Obj} {vk : List (Key × V)} {ks : List (Key × D)}
/-- a comprehension over an own class's keys: each turn gives f x and keeps all -/
theorem compL_map (h f : α → D) : ∀ (xs : List α) {acc : List D}, S.W.ω b = some (.lk od vk ks) → acc.length + xs.length ≤ 1000000 → (∀ x ∈ xs, ∀ (N : D → PSt → Prop) (M : PSt → Prop), N (f x) S → turnD g tt te vs (h x) S N M) → Q (acc ++ xs.map f) ⟨S.ρ, S.W.put b (.dct ks)⟩ → @compLB b od vk ks (xs.map h) acc S ⟨g⟩ ⟨tt⟩ ⟨te⟩ ⟨vs⟩ ⟨Q⟩
  | [], acc, hb, _, _, q => ⟨hb, by simpa using q⟩
  | x :: xs, acc, hb, hl, hs, q => by
    refine ⟨hb, fun a S' => S' = S ∧ a = acc ++ [f x], ?_, hs x (by simp) (fun y S' => acc.length ≤ 999999 ∧ S' = S ∧ acc ++ [y] = acc ++ [f x]) (fun S' => S' = S ∧ acc = acc ++ [f x]) ⟨by simp at hl; omega, rfl, rfl⟩⟩
    rintro a S' ⟨e, rfl⟩
    rw [e]
    exact compL_map h f xs hb (by simp at hl ⊢; omega) (fun y hy => hs y (by simp [hy])) (by simpa using q)
/-- a loop over an own class's keys -/
theorem forL_ix (h : α → D) (I : Nat → PSt → Prop) (hI : ∀ i S, I i S → S.W.ω b = some (.lk od vk ks)) (xs : List α) (h0 : I 0 S)
    (hs : ∀ (i : Nat) x S, xs[i]? = some x → I i S → g (h x) S fun S2 => tb ⟨I (i + 1), fun r W => W.ω b = some (.lk od vk ks) ∧ E.rt r (W.put b (.dct ks)), fun S' => S'.W.ω b = some (.lk od vk ks) ∧ E.nx ⟨S'.ρ, S'.W.put b (.dct ks)⟩, I (i + 1), fun _ _ => False⟩ S2)
    (hd : ∀ S, I xs.length S → E.nx ⟨S.ρ, S.W.put b (.dct ks)⟩) : @forLB b od vk ks (xs.map h) S ⟨g⟩ ⟨tb⟩ ⟨E⟩ := by
  have key : ∀ (m i : Nat) (S : PSt), xs.length - i = m → i ≤ xs.length → I i S → forL g tb E b od vk ks ((xs.drop i).map h) S := by
    intro m
    induction m with
    | zero =>
      intro i S hm hi hS
      have : i = xs.length := by omega
      subst this
      rw [List.drop_length]
      exact ⟨hI _ _ hS, hd S hS⟩
    | succ m ih =>
      intro i S hm hi hS
      have c : i < xs.length := by omega
      rw [List.drop_eq_getElem_cons c]
      exact ⟨hI _ _ hS, I (i + 1), fun S' h' => ih (i + 1) S' (by omega) (by omega) h', hs i _ S (List.getElem?_eq_getElem c) hS⟩
  exact key xs.length 0 S rfl (Nat.zero_le _) h0
end
theorem pg_tupK {X : Cx} {es : List Expr} {k : Nat} {t : TGs} {pos : Pos} (K : PySem.W.Frag) (n : Nat) (hc : X.calm = true) (h : PGs X es t) (hn : (assignEach es X.env).length = n := by rfl) (hst : (assignEach es X.env).findIdx? (·.1) = none := by rfl) (hK : X.K = K := by rfl) : PG X (.Tuple es k pos) (gTup K n t) := by
  subst hK
  exact pg_tup hc h hn hst
theorem put_self {W : Wd} {b : Addr} {c : Cell} (h : W.ω b = some c) : W.put b c = W := by
  obtain ⟨Tp, ω⟩ := W
  unfold Wd.put
  congr 1
  funext x
  by_cases q : x = b
  · subst q; simp only [if_true]; exact h.symm
  · simp only [if_neg q]
/-- a comprehension over a list that is a cell -/
theorem compR_map {α : Type} {g : TDG} {tt : TDT} {te : TDE} {vs : List Nat} {Q : List D → PSt → Prop} {S : PSt} {b : Addr} {es : List D} (h f : α → D) : ∀ (xs : List α) {acc : List D}, S.W.ω b = some (.lst es) → acc.length + xs.length ≤ 1000000 → (∀ x ∈ xs, ∀ (N : D → PSt → Prop) (M : PSt → Prop), N (f x) S → turnD g tt te vs (h x) S N M) → Q (acc ++ xs.map f) S → @compRB b es (xs.map h) acc S ⟨g⟩ ⟨tt⟩ ⟨te⟩ ⟨vs⟩ ⟨Q⟩
  | [], acc, hb, _, _, q => ⟨hb, by simpa using q⟩
  | x :: xs, acc, hb, hl, hs, q => by
    refine ⟨hb, fun a S' => S' = S ∧ a = acc ++ [f x], ?_, hs x (by simp) (fun y S' => acc.length ≤ 999999 ∧ S' = S ∧ acc ++ [y] = acc ++ [f x]) (fun S' => S' = S ∧ acc = acc ++ [f x]) ⟨by simp at hl; omega, rfl, rfl⟩⟩
    rintro a S' ⟨e, rfl⟩
    rw [e]
    exact compR_map h f xs hb (by simp at hl ⊢; omega) (fun y hy => hs y (by simp [hy])) (by simpa using q)
end Kn

set_option Elab.async false
set_option maxRecDepth 100000
set_option linter.all false
set_option autoImplicit false
namespace Kn
open PySem L2
/-! ### the law itself: from a script to True -/
def spLaw (K : PySem.W.Frag) : Sp := fun vs H Q _ => ∃ (a : Addr) (ns : List Int), vs = [.ref a] ∧ SqL K H a (ns.map V.int) ∧ ns.length ≤ 63 ∧ ∀ H', Q (.bl true) H'
def W0 : Wd := ⟨fun _ => False, fun _ => none⟩
theorem Hd.none (H : Hp) : Hd (fun _ => False) H = H := by
  funext b
  unfold Hd
  exact if_neg id
theorem okLaw {P : Program} {w : World} {K : PySem.W.Frag} {mg : Str → Option Value} {base : Heap} {x qual : Str} {st : Stmt} {f : Addr} {fd : FuncData} {N : List Str} {p : Str} {k : Nat} (F : Fun K x qual st f fd) (S : FnScope N [p] (defScope st))
    (hbody : ∀ (cdv : Value) (A : Around) (outer : List Env) (s : Shared) (H : Hp) (E : XK) (e : Ent), Room k (A.deeper (PyProof.Rows.envOfC qual (defScope st) s.heap.objs.size f cdv)) →
      ∃ t td, PSs (cxOf CX0 P w K mg base N qual (defScope st) f cdv A outer s H E).nox (defBody st) t ∧ SimZ K e t td ∧ td ⟨fun _ => False, fun d _ => d = .bl true, fun _ => False, fun _ => False, fun _ _ => False⟩ (S0 N [.scr] e.W)) : FnOk P w K mg base CX0 (k + 1) f fd [p] (spLaw K) := by
  refine F.ok S (fun vs H Q E h => ?_) (fun cdv A outer s H vs Q E hr h => ?_)
  · obtain ⟨a, ns, rfl, _⟩ := h
    rfl
  · obtain ⟨a, ns, rfl, hS, hl, kq⟩ := h
    obtain ⟨t, td, hp, hs, ht⟩ := hbody cdv A outer s H E ⟨fun _ => False, W0, H⟩ hr
    have r : Rw K (fun _ => False) W0 H := ⟨fun _ z => z.elim, fun _ z => z.elim, fun _ _ z => by cases z⟩
    have dv : DvL K W0.Tp (Hd (fun _ => False) H) [.ref a] [.scr] := by
      rw [Hd.none]
      exact .cons (.scr hS hl) .nil
    refine ⟨t, hp, hs.run (start N [.ref a]) H (S0 N [.scr] W0) _ _ ⟨_, RU.start r dv⟩ ht ⟨fun S' σ' H' q _ => q.elim, fun d S' σ' v H' q ⟨U', x'⟩ => ?_, fun _ _ _ q => q.elim, fun _ _ _ q => q.elim, fun _ _ _ _ _ q => q.elim⟩⟩
    have dv' := x'.tmp (.v v (.d d)) (by simp)
    subst q
    cases dv'
    exact kq H'
end Kn

set_option synthInstance.maxHeartbeats 0
set_option synthInstance.maxSize 100000
set_option Elab.async false
set_option maxRecDepth 100000
set_option linter.all false
namespace Kn
open PySem L2
def top (i : Nat) : Stmt := PySem.Challenge.pw_kindnotes_k05_least_kind_over_both.main.body.getD i (.Pass ⟨0, 0, 0, 0⟩)
structure Txt (K : PySem.W.Frag) (mg : Str → Option Value) : Prop where
  b_all : mg "all" = none
  b_any : mg "any" = none
  b_dict : mg "dict" = none
  b_int : mg "int" = none
  b_isinstance : mg "isinstance" = none
  b_len : mg "len" = none
  b_list : mg "list" = none
  b_range : mg "range" = none
  b_str : mg "str" = none
  b_tuple : mg "tuple" = none
  c_LARGE : ∃ u, mg "LARGE" = some u ∧ RelV (.str "ABCDEFGHIJKLMNOPQRSTUVWXYZ") u
  c_LONGEST_WORD : ∃ u, mg "LONGEST_WORD" = some u ∧ RelV (.int 12) u
  c_MOST_PARTS : ∃ u, mg "MOST_PARTS" = some u ∧ RelV (.int 3) u
  c_MOST_WORDS : ∃ u, mg "MOST_WORDS" = some u ∧ RelV (.int 12) u
  c_SMALL : ∃ u, mg "SMALL" = some u ∧ RelV (.str "abcdefghijklmnopqrstuvwxyz") u
  e_BadKind : ExcF K mg "BadKind"
  g_NotesError : mg "NotesError" = some (.ref (clsA mg "NotesError"))
  g_BadKind : mg "BadKind" = some (.ref (clsA mg "BadKind"))
  g_Stock : mg "Stock" = some (.ref (clsA mg "Stock"))
  g_Kind : mg "Kind" = some (.ref (clsA mg "Kind"))
  i_Kind : InsK K (clsA mg "Kind")
  kit_Kind_Kind : PySem.W.kitOne K (.ref (clsA mg "Kind")) (.ref (clsA mg "Kind")) = some true
  k_Stock : Cls K (clsA mg "Stock")
  f_Stock_shapes : Fd K (clsA mg "Stock") "shapes"
  f_Stock_above : Fd K (clsA mg "Stock") "above"
  k_Kind : Cls K (clsA mg "Kind")
  f_Kind_stock : Fd K (clsA mg "Kind") "stock"
  f_Kind_row : Fd K (clsA mg "Kind") "row"
  s_Kind : PySem.W.noSeq K (clsA mg "Kind") = true
  sf_Kind : PySem.W.selfFirst K (clsA mg "Kind") = true
end Kn

set_option synthInstance.maxHeartbeats 0
set_option synthInstance.maxSize 100000
set_option Elab.async false
set_option maxRecDepth 100000
set_option linter.all false
namespace Kn
open PySem L2
local macro_rules | `(tactic| walk_at "wk") => `(tactic| repeat (first
  | refine ⟨_, rfl, ?_⟩
  | refine ⟨_, _, rfl, rfl, ?_⟩
  | refine ⟨⟨by decide, by decide⟩, ?_⟩
  | refine ⟨(by show (0 : Int) < _; decide), ?_⟩
  | refine ⟨Or.inl ⟨by omega, by omega⟩, ?_⟩
  | refine Or.inl ⟨_, rfl, ?_⟩
  | fail))
local macro_rules | `(tactic| walk_at "lits") => `(tactic| repeat (first
  | exact lit_nil
  | exact lit_str
  | exact lit_int
  | exact lit_non
  | refine lit_cons ?_ ?_
  | refine lit_tup ?_
  | fail))
local macro_rules | `(tactic| walk_at "d") => `(tactic| simp only [↓u_tdC, ↓u_tdOp, ↓u_tdNil, ↓u_tdCons, ↓u_tdTup, ↓u_tnLst, ↓u_tdFrz, ↓u_tdFrzK, ↓u_tkNew, ↓u_tdTest, ↓u_tdAnd, ↓u_tdOr, ↓u_tdNot, ↓u_tdYes, ↓u_tdAndV, ↓u_tdOrV, ↓u_tdNotV, ↓u_tdIf, ↓u_tdCB, ↓u_tnCB, ↓u_tnAdd, ↓u_tdNoPart, ↓u_tdPart, ↓u_tdSl, ↓u_tnSl, ↓u_tdRevT, ↓u_tnRevL, ↓u_tdIsiT, ↓u_tdNext, ↓u_tdSeq, ↓u_tdBreak, ↓u_tdCont, ↓u_tdDrop, ↓u_tdRet, ↓u_tdRetN, ↓u_tdRetO, ↓u_tdIfS, ↓u_gdName, ↓u_gdNil, ↓u_gdCons, ↓u_gdTup, ↓u_tdAsg, ↓u_tdAsgN, ↓u_tdAsgK, ↓u_tiAny, ↓u_tiRng1, ↓u_tiRng2, ↓u_tdFor, ↓u_tnLc, ↓u_tdCall, ↓u_tnCall, ↓u_tdRaise, ↓u_tdApp, ↓u_tdDPut, ↓u_tkDict, ↓u_tdAsgR, ↓u_tdForR, ↓u_tdFldC, ↓u_tdSetC, ↓u_tdMeth, ↓u_tdProp, ↓u_tdMakeR, ↓u_tdMakeF, ↓u_tdRaiseS, ↓u_tdTryAs, ↓u_tdTryN, ↓u_tdXf, ↓u_tdJoin, ↓u_tnSplit, ↓u_tdPartn, ↓u_tdFmt, ↓u_tdJoined, ↓u_tkDisp, ↓u_tdShK, ↓u_tdClear, ↓u_tdOGet, ↓u_tdOSet, ↓u_tdOIn, ↓u_tdNeg, ↓u_tdForO, ↓u_tnLcO, ↓u_tnLcR, ↓u_tdGet2, ↓u_tdPopAt, ↓u_tdRg1, ↓u_tdTupRg, ↓u_tnLstRg, ↓u_tdForW, ↓u_tdAugO, ↓u_tdLPut, ↓u_tdFmtW, ↓u_tdMethK, ↓u_tdChain, ↓u_tnLc2, ↓u_tdIndex, ↓u_addF_i, ↓u_addF_s, ↓u_addF_t, ↓u_addF_l, ↓u_iiF, ↓u_mulF_i, ↓u_mulF_s, ↓u_inF_l, ↓u_inF_t, ↓u_inF_s, ↓u_inF_ds, ↓u_inF_di, ↓u_ixF_l, ↓u_ixF_t, ↓u_ixF_s, ↓u_ixF_di, ↓u_ixF_ds, ↓u_slF_l, ↓u_slF_t, ↓u_slF_s, ↓u_lenF_l, ↓u_lenF_t, ↓u_lenF_s, ↓u_lenF_d, ↓u_isiF, ↓u_isiD, ↓u_tupF_l, ↓u_tupF_t, ↓u_lstF_l, ↓u_lstF_t, ↓u_allF, ↓u_anyF, ↓u_sumF, ↓u_sortF, ↓u_intF_i, ↓u_intF_b, ↓u_strF, ↓u_walkF_l, ↓u_walkF_t, ↓u_walkF_s, ↓u_walkF_d, ↓u_arg1, ↓u_arg2, ↓u_frcL_n, ↓u_frcL_c, ↓u_addD, ↓u_iiD, ↓u_mulD, ↓u_eqD_f, ↓u_eqD_t, ↓u_inD_f, ↓u_inD_t, ↓u_ixD, ↓u_dd2, ↓u_isND_f, ↓u_isND_t, ↓u_fldF, ↓u_recF, ↓u_ofC, ↓u_isBD, ↓u_isBF_f, ↓u_isBF_t, ↓u_turnD, ↓u_isoD, ↓u_isoF_o, ↓u_isoF_n, ↓u_asD, ↓u_binOD, ↓u_idxF, ↓u_minF, ↓u_maxF, ↓u_turnD2, ↓u_mm2D, ↓u_lputF, ↓u_fmtWF_s, ↓u_fmtWF_i, ↓u_inTD_f, ↓u_inTD_t, ↓u_inTF, ↓u_refV, ↓u_getF, ↓u_popF, ↓u_dctW, ↓u_tvVar, ↓u_tvFld, ↓u_refD, ↓u_ownW, ↓u_valV1, ↓u_mergeD_n, ↓u_mergeD_c, ↓u_eqKD, ↓u_eqKF_f, ↓u_eqKF_t, ↓u_asS, ↓u_joinF_l, ↓u_joinF_t, ↓u_fmtF_s, ↓u_fmtF_i, ↓u_excF, ↓u_clsV_r, ↓u_clsV_t, ↓u_isYD, ↓b_Call, ↓b_CallN, ↓b_opt, ↓b_dd1, ↓b_asB, ↓b_asI, ↓b_frc, ↓b_for, ↓b_comp, ↓b_ite, ↓b_while, ↓b_var, ↓b_aug, ↓b_mutL, ↓b_mutD, ↓b_retV, ↓b_deref, ↓b_dd1own, ↓b_mutO, ↓b_mutDO, ↓b_frcO, ↓b_comp2, ↓b_compR, ↓b_forL, ↓b_compL, ↓b_dctC, ↓b_ref, ↓b_forR, ↓b_insF, ↓b_insC, ↓b_exB, ↓o_opt, ↓o_asB, ↓o_asI, ↓o_non, ↓o_bl, ↓o_int, ↓o_str, ↓o_ty, ↓o_tup, ↓o_lst, ↓o_dct, ↓o_obj, ↓o_varV, ↓o_varL, ↓o_varD, ↓o_frc, ↓o_augI, ↓o_augS, ↓o_augL, ↓o_retV, ↓o_iteT, ↓o_iteF, ↓o_derefL, ↓o_derefD, ↓o_mutO, ↓o_mutDO, ↓o_frcL, ↓o_frcD, ↓o_frcV, ↓o_dctC, ↓o_ref, ↓o_derefR, ↓o_dd1R, ↓o_mutR, ↓o_derefK, ↓o_dd1K, ↓o_mutK, ↓o_putT, ↓o_insF, ↓o_insC, ↓o_derefI, ↓o_dd1I, ↓o_putS, ↓o_putP, look_c, look_n, putFd_c, putFd_n, ofS_eq, ↓reduceIte, eq_self, List.foldr_cons, List.foldr_nil, DEnds.un, PSt.unset, List.zip_cons_cons, List.zip_nil_left, List.zip_nil_right, List.reverse_cons, List.reverse_nil, exL, exK, exC, tysOf, tyN, isB, tyOk, isNn, PSt.set, S0, PSt.wipe, wipeR,
  List.map_cons, List.map_nil, List.length_cons, List.length_nil, List.replicate_succ, List.replicate_zero, List.cons_append, List.nil_append, List.set_cons_zero, List.set_cons_succ, List.getElem?_cons_zero, List.getElem?_cons_succ, List.getElem?_nil,
  Bool.not_true, Bool.not_false, bq_t, bq_f, Bool.not_not, Bool.false_eq_true, true_and, and_true, Nat.reduceAdd, Nat.reduceSub, Nat.reduceLeDiff, String.reduceEq, decide_true, decide_false, Bool.true_or, Bool.false_or, Bool.true_and, Bool.false_and, Bool.or_true, Bool.or_false, Bool.and_true, Bool.and_false, decide_eq_true_eq, List.mem_cons, List.not_mem_nil, or_true, true_or, or_false, false_or, List.any_cons, List.any_nil, List.all_cons, List.all_nil, Option.map_some, Option.map_none, Option.isSome_some, Option.isSome_none, eqOk_ii, eqOk_ss, eqOk_bb, eqOk_nn, eqOk_ns, eqOk_sn, eqOk_ni, eqOk_in, eqOk_si, eqOk_is, D.int.injEq, D.str.injEq, D.bl.injEq, reduceCtorEq, keyD, atI_0, atI_1, atI_2, atI_3, atI_4, cut1, ne_eq, not_true_eq_false, not_false_eq_true, Bool.not_eq_true', Bool.not_eq_false', decide_eq_false_iff_not])
local macro_rules | `(tactic| walk_at "z") => `(tactic| first
  | (apply z_seq; (focus walk_at "z"); (focus walk_at "z"))
  | (apply z_try; (focus (intro _ _ _; walk_at "z")); (focus (intro _ _ _; walk_at "z")); (focus walk_at "z"))
  | (apply z_tryN; (focus (intro _ _ _; walk_at "z")); (focus walk_at "z"); (focus walk_at "z"))
  | (apply z_cl; (focus (intro _ _ _; walk_at "z")); (focus walk_at "z"))
  | exact inferInstance
  | (apply z_if; (focus walk_at "z"); (focus walk_at "z"); (focus walk_at "z"))
  | (apply z_while; (focus walk_at "z"); (focus walk_at "z"))
  | (apply z_for; (focus walk_at "z"); (focus walk_at "z"); (focus walk_at "z")))
variable {P : Program} {w : World} {K : PySem.W.Frag} {mg : Str → Option Value} {base : Heap}
abbrev s__law_take : Stmt := top 28
abbrev N__law_take : List Str := ["_law_tape_here", "_law_many"]
abbrev P__law_take : List Str := ["_law_tape_here", "_law_many"]
theorem sc__law_take : FnScope N__law_take P__law_take (defScope s__law_take) := ⟨rfl, rfl, rfl, by decide +kernel, rfl, by decide +kernel, by decide +kernel⟩
theorem ok__law_take (F : Fz K mg "_law_take" s__law_take P__law_take) (T : Txt K mg) : Fx P w K mg base CX0 "_law_take" 1 P__law_take spTake := by
  refine F.ok sc__law_take (fun vs H Q E h => ?_) (fun f cdv A outer s H vs Q E hr h => ?_)
  · obtain ⟨t, m, rfl, _⟩ := h
    rfl
  · obtain ⟨t, m, rfl, ⟨ns, ht⟩, hm, k⟩ := h
    refine ⟨_, (pss_cons (ps_if (pt_cmpR op_eq (pe_callB (call_len_seqK K) (by rfl) T.b_len PySem.boot_len (pa_cons (pv 0) pa_nil)) pe_int (nomark _)) (pss_one (ps_ret pe_int)) pss_nil)
      (pss_one (ps_ret (pe_op op_mod (pe_callTy call_int1 (by rfl) T.b_int (by decide +kernel) (pa_cons (pe_bmK K PySem.F.plainAttrs_list PySem.F.slot_list_pop PySem.F.type_list_pop mt_popAt (pv 0) (pa_cons pe_int pa_nil)) pa_nil)) (pv 1))))), ?_⟩
    refine ⟨_, rfl, t, _, rfl, .inl (SqL.of ht), rfl, _, rfl, ?_⟩
    refine ite2 (fun c => ?_) (fun c => ?_)
    · exact k 0 H (Int.le_refl _) hm (Dr.refl ⟨ns, ht⟩)
    · cases ns with
      | nil => exact (c rfl).elim
      | cons n ns =>
        refine ⟨_, rfl, .inl ⟨rfl, _, SqL.of ht⟩, t, _, 0, 0, _, rfl, rfl, ht, by decide, by decide, by simp [seqIndex?], rfl, .inl ⟨n, rfl, ?_⟩⟩
        refine ⟨_, rfl, n, m, rfl, rfl, hm, ?_⟩
        exact k (n % m) _ (Int.emod_nonneg _ (by omega)) (Int.emod_lt_of_pos _ hm) (Dr.put ns)

abbrev s__law_cell : Stmt := top 26
abbrev N__law_cell : List Str := ["_law_script", "_law_k"]
abbrev P__law_cell : List Str := ["_law_script", "_law_k"]
theorem sc__law_cell : FnScope N__law_cell P__law_cell (defScope s__law_cell) := ⟨rfl, rfl, rfl, by decide +kernel, rfl, by decide +kernel, by decide +kernel⟩
def spCell (K : PySem.W.Frag) : Sp := fun vs H Q _ => ∃ (a : Addr) (k : Int) (ns : List Int), vs = [.ref a, .int k] ∧ SqL K H a (ns.map V.int) ∧ 0 ≤ k ∧ ∀ z, Q (.int z) H
theorem ok__law_cell (F : Fz K mg "_law_cell" s__law_cell P__law_cell) (T : Txt K mg) : Fx P w K mg base CX0 "_law_cell" 1 P__law_cell (spCell K) := by
  refine F.ok sc__law_cell (fun vs H Q E h => ?_) (fun f cdv A outer s H vs Q E hr h => ?_)
  · obtain ⟨a, i, ns, rfl, _⟩ := h
    rfl
  · obtain ⟨a, i, ns, rfl, hs, hi, k⟩ := h
    refine ⟨_, (pss_cons (ps_if (pt_cmpR op_lt (pv 1) (pe_callB (call_len_seqK K) (by rfl) T.b_len PySem.boot_len (pa_cons (pv 0) pa_nil)) (nomark _)) (pss_one (ps_ret (pe_ix (ix_listK K) (pv 0) (pv 1) (fun _ _ => rfl)))) pss_nil)
      (pss_one (ps_ret pe_int))), ?_⟩
    refine ⟨_, rfl, _, rfl, a, _, rfl, .inl hs, _, _, rfl, rfl, _, rfl, ?_⟩
    refine ite2 (fun c => ?_) (fun c => ?_)
    · have c := of_decide_eq_true c
      rw [List.length_map] at c
      have hj : i.toNat < ns.length := by omega
      refine ⟨_, rfl, _, rfl, a, _, i, V.int ns[i.toNat], rfl, rfl, hs, at_of (j := i.toNat) (by omega) (by simp [hj]), k _⟩
    · exact k _

abbrev s__law_tape : Stmt := top 27
abbrev N__law_tape : List Str := ["_law_script", "_law_k", "_law_size", "_law_cell_here", "_law_left", "_law_tape_here", "_law_j", "_law_mixed"]
abbrev P__law_tape : List Str := ["_law_script", "_law_k", "_law_size"]
theorem sc__law_tape : FnScope N__law_tape P__law_tape (defScope s__law_tape) := ⟨rfl, rfl, rfl, by decide +kernel, rfl, by decide +kernel, by decide +kernel⟩
def spTape (K : PySem.W.Frag) : Sp := fun vs H Q _ => ∃ (a : Addr) (k n : Int) (ns : List Int), vs = [.ref a, .int k, .int n] ∧ SqL K H a (ns.map V.int) ∧ 0 ≤ k ∧ 0 ≤ n ∧ n ≤ 1000 ∧
  ∀ (t : Addr) (H' : Hp), H t = none → Same H H' → Tape H' t → Q (.ref t) H'
theorem ok__law_tape (F : Fz K mg "_law_tape" s__law_tape P__law_tape) (T : Txt K mg) (G__law_cell : Fx P w K mg base CX0 "_law_cell" 1 P__law_cell (spCell K)) : Fx P w K mg base CX0 "_law_tape" 2 P__law_tape (spTape K) := by
  refine F.ok sc__law_tape (fun vs H Q E h => ?_) (fun f cdv A outer s H vs Q E hr h => ?_)
  · obtain ⟨a, i, n, ns, rfl, _⟩ := h
    rfl
  · obtain ⟨a, i, n, ns, rfl, hs, hi, hn0, hn, k⟩ := h
    refine ⟨_, (pss_cons (ps_set (i := 3) sc__law_tape.nd rfl (Or.inl rfl) (fcall G__law_cell (hr.mono (by first | decide | omega)) (by rfl) (pa_cons (pv 0) (pa_cons (pv 1) pa_nil))))
      (pss_cons (ps_set (i := 4) sc__law_tape.nd rfl (Or.inl rfl) (pv 3))
      (pss_cons (ps_set (i := 5) sc__law_tape.nd rfl (Or.inl rfl) (pe_lst pa_nil))
      (pss_cons (ps_for PassesOwn.never rfl (pi_range1 (by rfl) T.b_range (pa_cons (pv 2) pa_nil)) (pg_name (i := 6) sc__law_tape.nd rfl (Or.inl rfl)) (pss_one (ps_if (PW.pt (pw_and (pt_cmpR op_ge (pv 3) (pe_op op_pow pe_int pe_int) (nomark _)) (pw_and1 (pt_cmpR op_gt (pv 4) pe_int (nomark _))))) (pss_cons (ps_expr (pe_bmK K PySem.F.plainAttrs_list PySem.F.slot_list_append PySem.F.type_list_append mt_append (pv 5) (pa_cons (pe_op op_mod (pe_callTy call_int1 (by rfl) T.b_int (by decide +kernel) (pa_cons (pv 4) pa_nil)) pe_int) pa_nil)))
      (pss_one (ps_set (i := 4) sc__law_tape.nd rfl (Or.inl rfl) (pe_op op_fdiv (pv 4) pe_int)))) (pss_cons (ps_set (i := 7) sc__law_tape.nd rfl (Or.inl rfl) (pe_op op_mod (pe_callTy call_int1 (by rfl) T.b_int (by decide +kernel) (pa_cons (pe_op op_add (pe_op op_mul (pe_op op_mod (pe_callTy call_int1 (by rfl) T.b_int (by decide +kernel) (pa_cons (pv 3) pa_nil)) pe_int) (pe_op op_add pe_int (pe_op op_mul pe_int (pv 6)))) (pe_op op_mul pe_int (pv 6))) pa_nil)) pe_int))
      (pss_one (ps_expr (pe_bmK K PySem.F.plainAttrs_list PySem.F.slot_list_append PySem.F.type_list_append mt_append (pv 5) (pa_cons (pe_op op_add (pv 7) (pe_op op_fdiv (pv 7) pe_int)) pa_nil))))))))
      (pss_one (ps_ret (pv 5))))))), ?_⟩
    refine ⟨_, rfl, _, rfl, a, i, ns, rfl, hs, hi, fun z => ?_⟩
    refine ⟨_, rfl, (by show 0 ≤ sizeLine; decide), fun t ht => ?_⟩
    refine ⟨_, rfl, n, rfl, by omega, by omega, ?_⟩
    refine for_range (n := n.toNat) (fun j σ H2 => ∃ (l : Int) (v6 v7 : Option V) (ms : List Int), σ = [some (.ref a), some (.int i), some (.int n), some (.int z), some (.int l), some (.ref t), v6, v7] ∧ H2 t = some (.lst (ms.map V.int)) ∧ ms.length = j ∧ ∀ b o, H b = some o → H2 b = some o) ?_ ?_ ?_
    · exact ⟨z, _, _, [], rfl, upd_same, rfl, fun b o e => by rw [upd_ne (ne_of_none e ht)]; exact e⟩
    · rintro j σ H2 hj ⟨l, v6, v7, ms, rfl, h2, hl, kp⟩
      have step : ∀ (x : Int) (l' : Int) (v6' v7' : Option V), ∃ (l : Int) (v6 v7 : Option V) (ms' : List Int), [some (V.ref a), some (V.int i), some (V.int n), some (V.int z), some (V.int l'), some (V.ref t), v6', v7'] = [some (V.ref a), some (.int i), some (.int n), some (.int z), some (.int l), some (.ref t), v6, v7] ∧ (upd H2 t (.lst (ms.map V.int ++ [V.int x]))) t = some (.lst (ms'.map V.int)) ∧ ms'.length = j + 1 ∧ ∀ b o, H b = some o → (upd H2 t (.lst (ms.map V.int ++ [V.int x]))) b = some o := fun x l' v6' v7' =>
        ⟨l', v6', v7', ms ++ [x], rfl, by rw [upd_same]; simp, by simp [hl], fun b o e => by rw [upd_ne (ne_of_none e ht)]; exact kp b o e⟩
      have hp : (10 : Int) ^ (18 : Int).toNat = 1000000000000000000 := by decide
      have app : ∀ (x : Int) (l' : Int) (v6' v7' : Option V), (ms.map V.int).length < sizeLine := fun _ _ _ _ => small1000 (by rw [List.length_map]; omega)
      have hm : 0 ≤ z % 9973 ∧ z % 9973 < 9973 := ⟨Int.emod_nonneg _ (by decide), Int.emod_lt_of_pos _ (by decide)⟩
      refine ⟨_, rfl, _, _, rfl, rfl, ⟨by decide, by decide, by decide⟩, _, _, rfl, rfl, _, rfl, ?_⟩
      refine ite2 (fun c => ?_) (fun c => ?_)
      · refine ⟨_, rfl, _, _, rfl, rfl, _, rfl, ?_⟩
        refine ite2 (fun c2 => ?_) (fun c2 => ?_)
        · refine ⟨_, rfl, .inl ⟨rfl, _, SqL.of h2⟩, _, rfl, .inl ⟨l, rfl, ?_⟩⟩
          refine ⟨_, _, rfl, rfl, (by show (0 : Int) < 5040; decide), t, _, _, rfl, rfl, h2, app 0 0 none none, ?_⟩
          refine ⟨_, rfl, _, _, rfl, rfl, ⟨by decide, by decide⟩, ?_⟩
          exact step _ _ _ _
        · walk_at "wk"
          refine ⟨.inl ⟨rfl, _, SqL.of h2⟩, ?_⟩
          walk_at "wk"
          exact ⟨t, _, _, rfl, rfl, h2, app 0 0 none none, step _ _ _ _⟩
      · walk_at "wk"
        refine ⟨.inl ⟨rfl, _, SqL.of h2⟩, ?_⟩
        walk_at "wk"
        exact ⟨t, _, _, rfl, rfl, h2, app 0 0 none none, step _ _ _ _⟩
    · rintro σ H2 ⟨l, v6, v7, ms, rfl, h2, hl, kp⟩
      exact ⟨_, rfl, k t H2 ht kp ⟨ms, h2⟩⟩

end Kn

set_option synthInstance.maxHeartbeats 0
set_option synthInstance.maxSize 100000
set_option Elab.async false
set_option maxRecDepth 100000
set_option linter.all false
namespace Kn
open PySem L2
local macro_rules | `(tactic| walk_at "wk") => `(tactic| repeat (first
  | refine ⟨_, rfl, ?_⟩
  | refine ⟨_, _, rfl, rfl, ?_⟩
  | refine ⟨⟨by decide, by decide⟩, ?_⟩
  | refine ⟨(by show (0 : Int) < _; decide), ?_⟩
  | refine ⟨Or.inl ⟨by omega, by omega⟩, ?_⟩
  | refine Or.inl ⟨_, rfl, ?_⟩
  | fail))
local macro_rules | `(tactic| walk_at "lits") => `(tactic| repeat (first
  | exact lit_nil
  | exact lit_str
  | exact lit_int
  | exact lit_non
  | refine lit_cons ?_ ?_
  | refine lit_tup ?_
  | fail))
local macro_rules | `(tactic| walk_at "d") => `(tactic| simp only [↓u_tdC, ↓u_tdOp, ↓u_tdNil, ↓u_tdCons, ↓u_tdTup, ↓u_tnLst, ↓u_tdFrz, ↓u_tdFrzK, ↓u_tkNew, ↓u_tdTest, ↓u_tdAnd, ↓u_tdOr, ↓u_tdNot, ↓u_tdYes, ↓u_tdAndV, ↓u_tdOrV, ↓u_tdNotV, ↓u_tdIf, ↓u_tdCB, ↓u_tnCB, ↓u_tnAdd, ↓u_tdNoPart, ↓u_tdPart, ↓u_tdSl, ↓u_tnSl, ↓u_tdRevT, ↓u_tnRevL, ↓u_tdIsiT, ↓u_tdNext, ↓u_tdSeq, ↓u_tdBreak, ↓u_tdCont, ↓u_tdDrop, ↓u_tdRet, ↓u_tdRetN, ↓u_tdRetO, ↓u_tdIfS, ↓u_gdName, ↓u_gdNil, ↓u_gdCons, ↓u_gdTup, ↓u_tdAsg, ↓u_tdAsgN, ↓u_tdAsgK, ↓u_tiAny, ↓u_tiRng1, ↓u_tiRng2, ↓u_tdFor, ↓u_tnLc, ↓u_tdCall, ↓u_tnCall, ↓u_tdRaise, ↓u_tdApp, ↓u_tdDPut, ↓u_tkDict, ↓u_tdAsgR, ↓u_tdForR, ↓u_tdFldC, ↓u_tdSetC, ↓u_tdMeth, ↓u_tdProp, ↓u_tdMakeR, ↓u_tdMakeF, ↓u_tdRaiseS, ↓u_tdTryAs, ↓u_tdTryN, ↓u_tdXf, ↓u_tdJoin, ↓u_tnSplit, ↓u_tdPartn, ↓u_tdFmt, ↓u_tdJoined, ↓u_tkDisp, ↓u_tdShK, ↓u_tdClear, ↓u_tdOGet, ↓u_tdOSet, ↓u_tdOIn, ↓u_tdNeg, ↓u_tdForO, ↓u_tnLcO, ↓u_tnLcR, ↓u_tdGet2, ↓u_tdPopAt, ↓u_tdRg1, ↓u_tdTupRg, ↓u_tnLstRg, ↓u_tdForW, ↓u_tdAugO, ↓u_tdLPut, ↓u_tdFmtW, ↓u_tdMethK, ↓u_tdChain, ↓u_tnLc2, ↓u_tdIndex, ↓u_addF_i, ↓u_addF_s, ↓u_addF_t, ↓u_addF_l, ↓u_iiF, ↓u_mulF_i, ↓u_mulF_s, ↓u_inF_l, ↓u_inF_t, ↓u_inF_s, ↓u_inF_ds, ↓u_inF_di, ↓u_ixF_l, ↓u_ixF_t, ↓u_ixF_s, ↓u_ixF_di, ↓u_ixF_ds, ↓u_slF_l, ↓u_slF_t, ↓u_slF_s, ↓u_lenF_l, ↓u_lenF_t, ↓u_lenF_s, ↓u_lenF_d, ↓u_isiF, ↓u_isiD, ↓u_tupF_l, ↓u_tupF_t, ↓u_lstF_l, ↓u_lstF_t, ↓u_allF, ↓u_anyF, ↓u_sumF, ↓u_sortF, ↓u_intF_i, ↓u_intF_b, ↓u_strF, ↓u_walkF_l, ↓u_walkF_t, ↓u_walkF_s, ↓u_walkF_d, ↓u_arg1, ↓u_arg2, ↓u_frcL_n, ↓u_frcL_c, ↓u_addD, ↓u_iiD, ↓u_mulD, ↓u_eqD_f, ↓u_eqD_t, ↓u_inD_f, ↓u_inD_t, ↓u_ixD, ↓u_dd2, ↓u_isND_f, ↓u_isND_t, ↓u_fldF, ↓u_recF, ↓u_ofC, ↓u_isBD, ↓u_isBF_f, ↓u_isBF_t, ↓u_turnD, ↓u_isoD, ↓u_isoF_o, ↓u_isoF_n, ↓u_asD, ↓u_binOD, ↓u_idxF, ↓u_minF, ↓u_maxF, ↓u_turnD2, ↓u_mm2D, ↓u_lputF, ↓u_fmtWF_s, ↓u_fmtWF_i, ↓u_inTD_f, ↓u_inTD_t, ↓u_inTF, ↓u_refV, ↓u_getF, ↓u_popF, ↓u_dctW, ↓u_tvVar, ↓u_tvFld, ↓u_refD, ↓u_ownW, ↓u_valV1, ↓u_mergeD_n, ↓u_mergeD_c, ↓u_eqKD, ↓u_eqKF_f, ↓u_eqKF_t, ↓u_asS, ↓u_joinF_l, ↓u_joinF_t, ↓u_fmtF_s, ↓u_fmtF_i, ↓u_excF, ↓u_clsV_r, ↓u_clsV_t, ↓u_isYD, ↓b_Call, ↓b_CallN, ↓b_opt, ↓b_dd1, ↓b_asB, ↓b_asI, ↓b_frc, ↓b_for, ↓b_comp, ↓b_ite, ↓b_while, ↓b_var, ↓b_aug, ↓b_mutL, ↓b_mutD, ↓b_retV, ↓b_deref, ↓b_dd1own, ↓b_mutO, ↓b_mutDO, ↓b_frcO, ↓b_comp2, ↓b_compR, ↓b_forL, ↓b_compL, ↓b_dctC, ↓b_ref, ↓b_forR, ↓b_insF, ↓b_insC, ↓b_exB, ↓o_opt, ↓o_asB, ↓o_asI, ↓o_non, ↓o_bl, ↓o_int, ↓o_str, ↓o_ty, ↓o_tup, ↓o_lst, ↓o_dct, ↓o_obj, ↓o_varV, ↓o_varL, ↓o_varD, ↓o_frc, ↓o_augI, ↓o_augS, ↓o_augL, ↓o_retV, ↓o_iteT, ↓o_iteF, ↓o_derefL, ↓o_derefD, ↓o_mutO, ↓o_mutDO, ↓o_frcL, ↓o_frcD, ↓o_frcV, ↓o_dctC, ↓o_ref, ↓o_derefR, ↓o_dd1R, ↓o_mutR, ↓o_derefK, ↓o_dd1K, ↓o_mutK, ↓o_putT, ↓o_insF, ↓o_insC, ↓o_derefI, ↓o_dd1I, ↓o_putS, ↓o_putP, look_c, look_n, putFd_c, putFd_n, ofS_eq, ↓reduceIte, eq_self, List.foldr_cons, List.foldr_nil, DEnds.un, PSt.unset, List.zip_cons_cons, List.zip_nil_left, List.zip_nil_right, List.reverse_cons, List.reverse_nil, exL, exK, exC, tysOf, tyN, isB, tyOk, isNn, PSt.set, S0, PSt.wipe, wipeR,
  List.map_cons, List.map_nil, List.length_cons, List.length_nil, List.replicate_succ, List.replicate_zero, List.cons_append, List.nil_append, List.set_cons_zero, List.set_cons_succ, List.getElem?_cons_zero, List.getElem?_cons_succ, List.getElem?_nil,
  Bool.not_true, Bool.not_false, bq_t, bq_f, Bool.not_not, Bool.false_eq_true, true_and, and_true, Nat.reduceAdd, Nat.reduceSub, Nat.reduceLeDiff, String.reduceEq, decide_true, decide_false, Bool.true_or, Bool.false_or, Bool.true_and, Bool.false_and, Bool.or_true, Bool.or_false, Bool.and_true, Bool.and_false, decide_eq_true_eq, List.mem_cons, List.not_mem_nil, or_true, true_or, or_false, false_or, List.any_cons, List.any_nil, List.all_cons, List.all_nil, Option.map_some, Option.map_none, Option.isSome_some, Option.isSome_none, eqOk_ii, eqOk_ss, eqOk_bb, eqOk_nn, eqOk_ns, eqOk_sn, eqOk_ni, eqOk_in, eqOk_si, eqOk_is, D.int.injEq, D.str.injEq, D.bl.injEq, reduceCtorEq, keyD, atI_0, atI_1, atI_2, atI_3, atI_4, cut1, ne_eq, not_true_eq_false, not_false_eq_true, Bool.not_eq_true', Bool.not_eq_false', decide_eq_false_iff_not])
local macro_rules | `(tactic| walk_at "z") => `(tactic| first
  | (apply z_seq; (focus walk_at "z"); (focus walk_at "z"))
  | (apply z_try; (focus (intro _ _ _; walk_at "z")); (focus (intro _ _ _; walk_at "z")); (focus walk_at "z"))
  | (apply z_tryN; (focus (intro _ _ _; walk_at "z")); (focus walk_at "z"); (focus walk_at "z"))
  | (apply z_cl; (focus (intro _ _ _; walk_at "z")); (focus walk_at "z"))
  | exact inferInstance
  | (apply z_if; (focus walk_at "z"); (focus walk_at "z"); (focus walk_at "z"))
  | (apply z_while; (focus walk_at "z"); (focus walk_at "z"))
  | (apply z_for; (focus walk_at "z"); (focus walk_at "z"); (focus walk_at "z")))
variable {P : Program} {w : World} {K : PySem.W.Frag} {mg : Str → Option Value} {base : Heap}
theorem okD__law_take (F : Fz K mg "_law_take" s__law_take P__law_take) (T : Txt K mg) : Fx P w K mg base (L2.CX P w) "_law_take" 1 P__law_take (lift K F_take) := (ok__law_take (P := P) (w := w) (base := base) F T).toX.imp fun _ _ _ _ h => take_lift h
theorem okD__law_tape (F : Fz K mg "_law_tape" s__law_tape P__law_tape) (T : Txt K mg) (G : Fx P w K mg base CX0 "_law_cell" 1 P__law_cell (spCell K)) : Fx P w K mg base (L2.CX P w) "_law_tape" 2 P__law_tape (lift K F_tape) := (ok__law_tape F T G).toX.imp fun _ _ _ _ h => tape_lift h

/-! ### words, letters, forms -/
def SMALLc : List Nat := [97, 98, 99, 100, 101, 102, 103, 104, 105, 106, 107, 108, 109, 110, 111, 112, 113, 114, 115, 116, 117, 118, 119, 120, 121, 122]
def LARGEc : List Nat := [65, 66, 67, 68, 69, 70, 71, 72, 73, 74, 75, 76, 77, 78, 79, 80, 81, 82, 83, 84, 85, 86, 87, 88, 89, 90]
theorem small_c : (Str.ofString "abcdefghijklmnopqrstuvwxyz").cps.toList = SMALLc := by decide +kernel
theorem large_c : (Str.ofString "ABCDEFGHIJKLMNOPQRSTUVWXYZ").cps.toList = LARGEc := by decide +kernel
def isWord (x : Str) : Bool := decide (1 ≤ x.length) && decide (x.length ≤ 12) && x.cps.toList.all fun c => decide (c ∈ SMALLc)
def isLetter (x : Str) : Bool := decide (x.length = 1) && x.cps.toList.all fun c => decide (c ∈ LARGEc)
def isWordD : D → Bool
  | .str x => isWord x
  | _ => false
def isLetterD : D → Bool
  | .str x => isLetter x
  | _ => false
mutual
/-- plain data: texts, ints, None, bools, tuples -/
def fitD : D → Bool
  | .str x => decide (x.length ≤ 1000)
  | .tup ds => decide (ds.length ≤ 1000) && fitL ds
  | .non => true
  | .bl _ => true
  | .int _ => true
  | _ => false
def fitL : List D → Bool
  | [] => true
  | d :: ds => fitD d && fitL ds
end
mutual
def isFormD : D → Bool
  | .str x => isLetter x
  | .tup ds => match ds with
    | [] => false
    | d :: ds => decide (ds.length ≤ 3) && isWordD d && isFormsD ds
  | _ => false
def isFormsD : List D → Bool
  | [] => true
  | d :: ds => isFormD d && isFormsD ds
end
theorem isFormsD_all : ∀ ds : List D, isFormsD ds = ds.all isFormD
  | [] => by rw [isFormsD]; rfl
  | d :: ds => by rw [isFormsD, isFormsD_all ds]; rfl
theorem fitL_mem : ∀ {ds : List D}, fitL ds = true → ∀ d ∈ ds, fitD d = true
  | e :: ds, h, d, hd => by
    rw [fitL, Bool.and_eq_true] at h
    rcases List.mem_cons.mp hd with rfl | hd
    · exact h.1
    · exact fitL_mem h.2 d hd
theorem fitL_of : ∀ {ds : List D}, (∀ d ∈ ds, fitD d = true) → fitL ds = true
  | [], _ => by rw [fitL]
  | e :: ds, h => by rw [fitL, h e (by simp), fitL_of fun d hd => h d (by simp [hd])]; rfl
theorem dpL_mem : ∀ {ds : List D} {d : D}, d ∈ ds → dpD d ≤ dpL ds
  | e :: ds, d, h => by
    rw [dpL]
    rcases List.mem_cons.mp h with rfl | h
    · omega
    · have := dpL_mem h; omega
theorem dpL_le {n : Nat} : ∀ {ds : List D}, (∀ d ∈ ds, dpD d ≤ n) → dpL ds ≤ n
  | [], _ => by rw [dpL]; omega
  | e :: ds, h => by
    rw [dpL]
    have := h e (by simp)
    have := dpL_le (n := n) (ds := ds) fun d hd => h d (by simp [hd])
    omega

abbrev s_is_word : Stmt := top 10
abbrev N_is_word : List Str := ["value", "char"]
abbrev P_is_word : List Str := ["value"]
theorem sc_is_word : FnScope N_is_word P_is_word (defScope s_is_word) := ⟨rfl, rfl, rfl, by decide +kernel, rfl, by decide +kernel, by decide +kernel⟩
def F_is_word : FSpec := fun ds W Q _ => ∃ d, ds = [d] ∧ fitD d = true ∧ Q (.bl (isWordD d)) W
theorem ok_is_word (F : Fz K mg "is_word" s_is_word P_is_word) (T : Txt K mg) : Fx P w K mg base (L2.CX P w) "is_word" 1 P_is_word (lift K F_is_word) := by
  refine F.okD sc_is_word (fun ds W Q E h => ?_) (fun f cdv A outer s H E e ds Qd Ed hr lk h => ?_)
  · obtain ⟨d, rfl, _⟩ := h
    rfl
  · obtain ⟨d, rfl, hf, k⟩ := h
    refine ⟨_, _, (pss_cons (ps_if (PW.pt (pw_or (pt_not (pt_val (pe_callB (call_isi1K K) (by rfl) T.b_isinstance (by decide +kernel) (pa_cons (pv 0) (pa_cons (pe_bltn (v := .ty "str") (by rfl) T.b_str (by decide +kernel) rfl) pa_nil))))) (pw_or (pt_cmpR op_ltU (pe_callB (call_lenU K) (by rfl) T.b_len PySem.boot_len (pa_cons (pv 0) pa_nil)) pe_int (nomark _)) (pw_or1 (pt_cmpR op_gtU (pe_callB (call_lenU K) (by rfl) T.b_len PySem.boot_len (pa_cons (pv 0) pa_nil)) (pglob rfl T.c_LONGEST_WORD) (nomark _)))))) (pss_one (ps_ret pe_bl)) pss_nil)
      (pss_one (ps_ret (pe_callB (cr_allK K rfl) (by rfl) T.b_all (by decide +kernel) (pa_cons (pe_lc (own := [("char", 1)]) (g := (gName 1)) (tt := tYes) rfl sc_is_word.nd (pi_any K (pv 0)) (blkOk_by (own := [("char", 1)]) (N := N_is_word) (sc := defScope s_is_word) (by decide +kernel)) (fun _ _ _ _ _ => (pg_name (i := 1) sc_is_word.nd rfl (by first | exact Or.inl rfl | exact Or.inr rfl))) (fun _ _ _ _ _ => pts_nil) (fun _ _ _ _ _ => (pe_cmpR (op_inU K (hu65_of hr)) (pv 1) (pglob rfl T.c_SMALL) (by rfl)))) pa_nil))))), inferInstance, ?_⟩
    cases d with
    | str x =>
      have hx : x.length ≤ 1000000 := by rw [fitD] at hf; have := of_decide_eq_true hf; omega
      have k : Qd (.bl (isWord x)) e.W := k
      have hs : (signs x) = x.cps.toList.map fun c => D.str ⟨#[c]⟩ := rfl
      unfold isWord at k
      walk_at "d"
      refine ⟨hx, ?_⟩
      refine iteB_by (fun c => ?_) (fun c => ?_)
      · walk_at "d"
        rw [decide_eq_false (show ¬ 1 ≤ x.length by omega)] at k; exact k
      · walk_at "d"
        refine ⟨hx, ?_⟩
        refine iteB_by (fun c2 => ?_) (fun c2 => ?_)
        · walk_at "d"
          rw [decide_eq_false (show ¬ x.length ≤ 12 by omega), Bool.and_false] at k; exact k
        · walk_at "d"
          rw [decide_eq_true (show 1 ≤ x.length by omega), decide_eq_true (show x.length ≤ 12 by omega)] at k
          rw [hs]
          refine comp_map _ (fun c => .bl (decide (c ∈ SMALLc))) _ (by simp; exact hx) (fun c hc N M hn => ?_) ?_
          · walk_at "d"
            rw [strIn_sign, small_c]
            exact hn
          · walk_at "d"
            rw [bls_mapF]
            walk_at "d"
            rw [List.all_map]
            exact k
    | non => walk_at "d"; exact k
    | bl b => walk_at "d"; exact k
    | int b => walk_at "d"; exact k
    | tup b => walk_at "d"; exact k
    | _ => simp [fitD] at hf

abbrev s_is_letter : Stmt := top 11
abbrev N_is_letter : List Str := ["value"]
abbrev P_is_letter : List Str := ["value"]
theorem sc_is_letter : FnScope N_is_letter P_is_letter (defScope s_is_letter) := ⟨rfl, rfl, rfl, by decide +kernel, rfl, by decide +kernel, by decide +kernel⟩
def F_is_letter : FSpec := fun ds W Q _ => ∃ d, ds = [d] ∧ fitD d = true ∧ Q (.bl (isLetterD d)) W
theorem strIn_one {x z : Str} (h : x.length = 1) : strIn x z = x.cps.toList.all fun c => decide (c ∈ z.cps.toList) := by
  obtain ⟨a⟩ := x
  match a, h with
  | ⟨[c]⟩, _ => rw [show (⟨⟨[c]⟩⟩ : Str) = ⟨#[c]⟩ from rfl, strIn_sign]; simp
theorem ok_is_letter (F : Fz K mg "is_letter" s_is_letter P_is_letter) (T : Txt K mg) : Fx P w K mg base (L2.CX P w) "is_letter" 1 P_is_letter (lift K F_is_letter) := by
  refine F.okD sc_is_letter (fun ds W Q E h => ?_) (fun f cdv A outer s H E e ds Qd Ed hr lk h => ?_)
  · obtain ⟨d, rfl, _⟩ := h
    rfl
  · obtain ⟨d, rfl, hf, k⟩ := h
    refine ⟨_, _, (pss_one (ps_ret (pe_and (pe_callB (call_isi1K K) (by rfl) T.b_isinstance (by decide +kernel) (pa_cons (pv 0) (pa_cons (pe_bltn (v := .ty "str") (by rfl) T.b_str (by decide +kernel) rfl) pa_nil))) (pe_and (pe_cmpR (op_eqU K hr.units) (pe_callB (call_lenU K) (by rfl) T.b_len PySem.boot_len (pa_cons (pv 0) pa_nil)) pe_int (nomark _)) (pe_one (pe_cmpR (op_inU K (hu65_of hr)) (pv 0) (pglob rfl T.c_LARGE) (by rfl))))))), inferInstance, ?_⟩
    cases d with
    | str x =>
      have hx : x.length ≤ 1000000 := by rw [fitD] at hf; have := of_decide_eq_true hf; omega
      have k : Qd (.bl (isLetter x)) e.W := k
      unfold isLetter at k
      walk_at "d"
      refine ⟨hx, ?_⟩
      refine iteB_by (fun c => ?_) (fun c => ?_)
      · walk_at "d"
        rw [strIn_one (by omega), large_c]
        rw [decide_eq_true (show x.length = 1 by omega), Bool.true_and] at k
        exact k
      · walk_at "d"
        rw [decide_eq_false (show ¬ x.length = 1 by omega)] at k
        exact k
    | non => walk_at "d"; exact k
    | bl b => walk_at "d"; exact k
    | int b => walk_at "d"; exact k
    | tup b => walk_at "d"; exact k
    | _ => simp [fitD] at hf

end Kn

set_option synthInstance.maxHeartbeats 0
set_option synthInstance.maxSize 100000
set_option Elab.async false
set_option maxRecDepth 100000
set_option linter.all false
namespace Kn
open PySem L2
local macro_rules | `(tactic| walk_at "wk") => `(tactic| repeat (first
  | refine ⟨_, rfl, ?_⟩
  | refine ⟨_, _, rfl, rfl, ?_⟩
  | refine ⟨⟨by decide, by decide⟩, ?_⟩
  | refine ⟨(by show (0 : Int) < _; decide), ?_⟩
  | refine ⟨Or.inl ⟨by omega, by omega⟩, ?_⟩
  | refine Or.inl ⟨_, rfl, ?_⟩
  | fail))
local macro_rules | `(tactic| walk_at "lits") => `(tactic| repeat (first
  | exact lit_nil
  | exact lit_str
  | exact lit_int
  | exact lit_non
  | refine lit_cons ?_ ?_
  | refine lit_tup ?_
  | fail))
local macro_rules | `(tactic| walk_at "d") => `(tactic| simp only [↓u_tdC, ↓u_tdOp, ↓u_tdNil, ↓u_tdCons, ↓u_tdTup, ↓u_tnLst, ↓u_tdFrz, ↓u_tdFrzK, ↓u_tkNew, ↓u_tdTest, ↓u_tdAnd, ↓u_tdOr, ↓u_tdNot, ↓u_tdYes, ↓u_tdAndV, ↓u_tdOrV, ↓u_tdNotV, ↓u_tdIf, ↓u_tdCB, ↓u_tnCB, ↓u_tnAdd, ↓u_tdNoPart, ↓u_tdPart, ↓u_tdSl, ↓u_tnSl, ↓u_tdRevT, ↓u_tnRevL, ↓u_tdIsiT, ↓u_tdNext, ↓u_tdSeq, ↓u_tdBreak, ↓u_tdCont, ↓u_tdDrop, ↓u_tdRet, ↓u_tdRetN, ↓u_tdRetO, ↓u_tdIfS, ↓u_gdName, ↓u_gdNil, ↓u_gdCons, ↓u_gdTup, ↓u_tdAsg, ↓u_tdAsgN, ↓u_tdAsgK, ↓u_tiAny, ↓u_tiRng1, ↓u_tiRng2, ↓u_tdFor, ↓u_tnLc, ↓u_tdCall, ↓u_tnCall, ↓u_tdRaise, ↓u_tdApp, ↓u_tdDPut, ↓u_tkDict, ↓u_tdAsgR, ↓u_tdForR, ↓u_tdFldC, ↓u_tdSetC, ↓u_tdMeth, ↓u_tdProp, ↓u_tdMakeR, ↓u_tdMakeF, ↓u_tdRaiseS, ↓u_tdTryAs, ↓u_tdTryN, ↓u_tdXf, ↓u_tdJoin, ↓u_tnSplit, ↓u_tdPartn, ↓u_tdFmt, ↓u_tdJoined, ↓u_tkDisp, ↓u_tdShK, ↓u_tdClear, ↓u_tdOGet, ↓u_tdOSet, ↓u_tdOIn, ↓u_tdNeg, ↓u_tdForO, ↓u_tnLcO, ↓u_tnLcR, ↓u_tdGet2, ↓u_tdPopAt, ↓u_tdRg1, ↓u_tdTupRg, ↓u_tnLstRg, ↓u_tdForW, ↓u_tdAugO, ↓u_tdLPut, ↓u_tdFmtW, ↓u_tdMethK, ↓u_tdChain, ↓u_tnLc2, ↓u_tdIndex, ↓u_addF_i, ↓u_addF_s, ↓u_addF_t, ↓u_addF_l, ↓u_iiF, ↓u_mulF_i, ↓u_mulF_s, ↓u_inF_l, ↓u_inF_t, ↓u_inF_s, ↓u_inF_ds, ↓u_inF_di, ↓u_ixF_l, ↓u_ixF_t, ↓u_ixF_s, ↓u_ixF_di, ↓u_ixF_ds, ↓u_slF_l, ↓u_slF_t, ↓u_slF_s, ↓u_lenF_l, ↓u_lenF_t, ↓u_lenF_s, ↓u_lenF_d, ↓u_isiF, ↓u_isiD, ↓u_tupF_l, ↓u_tupF_t, ↓u_lstF_l, ↓u_lstF_t, ↓u_allF, ↓u_anyF, ↓u_sumF, ↓u_sortF, ↓u_intF_i, ↓u_intF_b, ↓u_strF, ↓u_walkF_l, ↓u_walkF_t, ↓u_walkF_s, ↓u_walkF_d, ↓u_arg1, ↓u_arg2, ↓u_frcL_n, ↓u_frcL_c, ↓u_addD, ↓u_iiD, ↓u_mulD, ↓u_eqD_f, ↓u_eqD_t, ↓u_inD_f, ↓u_inD_t, ↓u_ixD, ↓u_dd2, ↓u_isND_f, ↓u_isND_t, ↓u_fldF, ↓u_recF, ↓u_ofC, ↓u_isBD, ↓u_isBF_f, ↓u_isBF_t, ↓u_turnD, ↓u_isoD, ↓u_isoF_o, ↓u_isoF_n, ↓u_asD, ↓u_binOD, ↓u_idxF, ↓u_minF, ↓u_maxF, ↓u_turnD2, ↓u_mm2D, ↓u_lputF, ↓u_fmtWF_s, ↓u_fmtWF_i, ↓u_inTD_f, ↓u_inTD_t, ↓u_inTF, ↓u_refV, ↓u_getF, ↓u_popF, ↓u_dctW, ↓u_tvVar, ↓u_tvFld, ↓u_refD, ↓u_ownW, ↓u_valV1, ↓u_mergeD_n, ↓u_mergeD_c, ↓u_eqKD, ↓u_eqKF_f, ↓u_eqKF_t, ↓u_asS, ↓u_joinF_l, ↓u_joinF_t, ↓u_fmtF_s, ↓u_fmtF_i, ↓u_excF, ↓u_clsV_r, ↓u_clsV_t, ↓u_isYD, ↓b_Call, ↓b_CallN, ↓b_opt, ↓b_dd1, ↓b_asB, ↓b_asI, ↓b_frc, ↓b_for, ↓b_comp, ↓b_ite, ↓b_while, ↓b_var, ↓b_aug, ↓b_mutL, ↓b_mutD, ↓b_retV, ↓b_deref, ↓b_dd1own, ↓b_mutO, ↓b_mutDO, ↓b_frcO, ↓b_comp2, ↓b_compR, ↓b_forL, ↓b_compL, ↓b_dctC, ↓b_ref, ↓b_forR, ↓b_insF, ↓b_insC, ↓b_exB, ↓o_opt, ↓o_asB, ↓o_asI, ↓o_non, ↓o_bl, ↓o_int, ↓o_str, ↓o_ty, ↓o_tup, ↓o_lst, ↓o_dct, ↓o_obj, ↓o_varV, ↓o_varL, ↓o_varD, ↓o_frc, ↓o_augI, ↓o_augS, ↓o_augL, ↓o_retV, ↓o_iteT, ↓o_iteF, ↓o_derefL, ↓o_derefD, ↓o_mutO, ↓o_mutDO, ↓o_frcL, ↓o_frcD, ↓o_frcV, ↓o_dctC, ↓o_ref, ↓o_derefR, ↓o_dd1R, ↓o_mutR, ↓o_derefK, ↓o_dd1K, ↓o_mutK, ↓o_putT, ↓o_insF, ↓o_insC, ↓o_derefI, ↓o_dd1I, ↓o_putS, ↓o_putP, look_c, look_n, putFd_c, putFd_n, ofS_eq, ↓reduceIte, eq_self, List.foldr_cons, List.foldr_nil, DEnds.un, PSt.unset, List.zip_cons_cons, List.zip_nil_left, List.zip_nil_right, List.reverse_cons, List.reverse_nil, exL, exK, exC, tysOf, tyN, isB, tyOk, isNn, PSt.set, S0, PSt.wipe, wipeR,
  List.map_cons, List.map_nil, List.length_cons, List.length_nil, List.replicate_succ, List.replicate_zero, List.cons_append, List.nil_append, List.set_cons_zero, List.set_cons_succ, List.getElem?_cons_zero, List.getElem?_cons_succ, List.getElem?_nil,
  Bool.not_true, Bool.not_false, bq_t, bq_f, Bool.not_not, Bool.false_eq_true, true_and, and_true, Nat.reduceAdd, Nat.reduceSub, Nat.reduceLeDiff, String.reduceEq, decide_true, decide_false, Bool.true_or, Bool.false_or, Bool.true_and, Bool.false_and, Bool.or_true, Bool.or_false, Bool.and_true, Bool.and_false, decide_eq_true_eq, List.mem_cons, List.not_mem_nil, or_true, true_or, or_false, false_or, List.any_cons, List.any_nil, List.all_cons, List.all_nil, Option.map_some, Option.map_none, Option.isSome_some, Option.isSome_none, eqOk_ii, eqOk_ss, eqOk_bb, eqOk_nn, eqOk_ns, eqOk_sn, eqOk_ni, eqOk_in, eqOk_si, eqOk_is, D.int.injEq, D.str.injEq, D.bl.injEq, reduceCtorEq, keyD, atI_0, atI_1, atI_2, atI_3, atI_4, cut1, ne_eq, not_true_eq_false, not_false_eq_true, Bool.not_eq_true', Bool.not_eq_false', decide_eq_false_iff_not])
local macro_rules | `(tactic| walk_at "z") => `(tactic| first
  | (apply z_seq; (focus walk_at "z"); (focus walk_at "z"))
  | (apply z_try; (focus (intro _ _ _; walk_at "z")); (focus (intro _ _ _; walk_at "z")); (focus walk_at "z"))
  | (apply z_tryN; (focus (intro _ _ _; walk_at "z")); (focus walk_at "z"); (focus walk_at "z"))
  | (apply z_cl; (focus (intro _ _ _; walk_at "z")); (focus walk_at "z"))
  | exact inferInstance
  | (apply z_if; (focus walk_at "z"); (focus walk_at "z"); (focus walk_at "z"))
  | (apply z_while; (focus walk_at "z"); (focus walk_at "z"))
  | (apply z_for; (focus walk_at "z"); (focus walk_at "z"); (focus walk_at "z")))
variable {P : Program} {w : World} {K : PySem.W.Frag} {mg : Str → Option Value} {base : Heap}
abbrev s_is_form : Stmt := top 12
abbrev N_is_form : List Str := ["value", "part"]
abbrev P_is_form : List Str := ["value"]
theorem sc_is_form : FnScope N_is_form P_is_form (defScope s_is_form) := ⟨rfl, rfl, rfl, by decide +kernel, rfl, by decide +kernel, by decide +kernel⟩
def F_is_form (n : Nat) : FSpec := fun ds W Q _ => ∃ d, ds = [d] ∧ fitD d = true ∧ dpD d < n ∧ Q (.bl (isFormD d)) W
theorem ok_is_form (F : Fz K mg "is_form" s_is_form P_is_form) (T : Txt K mg) (G_is_word : Fx P w K mg base (L2.CX P w) "is_word" 1 P_is_word (lift K F_is_word)) (G_is_letter : Fx P w K mg base (L2.CX P w) "is_letter" 1 P_is_letter (lift K F_is_letter)) : ∀ n, Fx P w K mg base (L2.CX P w) "is_form" (n + 2) P_is_form (lift K (F_is_form n))
  | 0 => F.noneD fun ds W Q E ⟨d, _, _, z, _⟩ => by omega
  | n + 1 => by
    have G_is_form := ok_is_form F T G_is_word G_is_letter n
    refine F.okD sc_is_form (fun ds W Q E h => ?_) (fun f cdv A outer s H E e ds Qd Ed hr lk h => ?_)
    · obtain ⟨d, rfl, _⟩ := h
      rfl
    · obtain ⟨d, rfl, hf, hd, k⟩ := h
      refine ⟨_, _, (pss_cons (ps_if (pt_val (fcallX (takes_of rfl rfl rfl rfl) G_is_letter (hr.mono (by first | decide | omega)) (by rfl) (pa_cons (pv 0) pa_nil))) (pss_one (ps_ret pe_bl)) pss_nil)
      (pss_cons (ps_if (PW.pt (pw_or (pt_not (pt_val (pe_callB (call_isi1K K) (by rfl) T.b_isinstance (by decide +kernel) (pa_cons (pv 0) (pa_cons (pe_bltn (v := .ty "tuple") (by rfl) T.b_tuple (by decide +kernel) rfl) pa_nil))))) (pw_or (pt_cmpR op_ltU (pe_callB (call_lenU K) (by rfl) T.b_len PySem.boot_len (pa_cons (pv 0) pa_nil)) pe_int (nomark _)) (pw_or1 (pt_cmpR op_gtU (pe_callB (call_lenU K) (by rfl) T.b_len PySem.boot_len (pa_cons (pv 0) pa_nil)) (pe_op (op_addU K) (pglob rfl T.c_MOST_PARTS) pe_int) (nomark _)))))) (pss_one (ps_ret pe_bl)) pss_nil)
      (pss_one (ps_ret (pe_and (fcallX (takes_of rfl rfl rfl rfl) G_is_word (hr.mono (by first | decide | omega)) (by rfl) (pa_cons (pe_ix (ix_U K (hu_of hr)) (pv 0) pe_int (fun _ _ => rfl)) pa_nil)) (pe_one (pe_callB (cr_allK K rfl) (by rfl) T.b_all (by decide +kernel) (pa_cons (pe_lc (own := [("part", 1)]) (g := (gName 1)) (tt := tYes) rfl sc_is_form.nd (pi_any K (pe_slice (sl_U K) (pv 0) (po_some pe_int) po_none)) (blkOk_by (own := [("part", 1)]) (N := N_is_form) (sc := defScope s_is_form) (by decide +kernel)) (fun _ _ _ _ _ => (pg_name (i := 1) sc_is_form.nd rfl (by first | exact Or.inl rfl | exact Or.inr rfl))) (fun _ _ _ _ _ => pts_nil) (fun _ _ _ _ _ => (fcallX takes0 G_is_form (hr.mono (by first | decide | omega)) (by rfl) (pa_cons (pv 1) pa_nil)))) pa_nil)))))))), inferInstance, ?_⟩
      walk_at "d"
      refine ⟨d, rfl, hf, ?_⟩
      cases d with
      | str x =>
        rw [isFormD] at k
        rw [isLetterD]
        cases hx : isLetter x with
        | true =>
          rw [hx] at k
          walk_at "d"
          exact k
        | false =>
          rw [hx] at k
          walk_at "d"
          exact k
      | non => rw [show isLetterD .non = false from rfl]; walk_at "d"; exact k
      | bl b => rw [show isLetterD (.bl b) = false from rfl]; walk_at "d"; exact k
      | int b => rw [show isLetterD (.int b) = false from rfl]; walk_at "d"; exact k
      | tup ds =>
        rw [fitD, Bool.and_eq_true] at hf
        have hl := of_decide_eq_true hf.1
        have e0 : isLetterD (.tup ds) = false := rfl
        rw [e0]
        cases ds with
        | nil =>
          walk_at "d"
          exact k
        | cons d0 ds =>
          rw [fitL, Bool.and_eq_true] at hf
          rw [dpD] at hd
          have k : Qd (.bl (decide (ds.length ≤ 3) && isWordD d0 && isFormsD ds)) e.W := by rw [isFormD] at k; exact k
          walk_at "d"
          refine iteB_F (by omega) ?_
          walk_at "d"
          refine iteB_by (fun c => ?_) (fun c => ?_)
          · walk_at "d"
            rw [decide_eq_false (show ¬ ds.length ≤ 3 by omega)] at k
            exact k
          · walk_at "d"
            rw [decide_eq_true (show ds.length ≤ 3 by omega), Bool.true_and] at k
            refine ⟨d0, rfl, hf.2.1, ?_⟩
            cases cw : isWordD d0 with
            | false => walk_at "d"; rw [cw] at k; exact k
            | true =>
              rw [cw, Bool.true_and, isFormsD_all] at k
              walk_at "d"
              refine comp_lst (fun d => .bl (isFormD d)) (by simp; omega) (fun d hd' N M hn => ?_) ?_
              · walk_at "d"
                refine ⟨d, rfl, fitL_mem hf.2.2 d hd', ?_, hn⟩
                have := dpL_mem (List.mem_cons_of_mem d0 hd')
                omega
              · walk_at "d"
                rw [bls_mapF]
                walk_at "d"
                rw [List.all_map]
                exact k
      | _ => simp [fitD] at hf

end Kn

set_option synthInstance.maxHeartbeats 0
set_option synthInstance.maxSize 100000
set_option Elab.async false
set_option maxRecDepth 100000
set_option linter.all false
namespace Kn
open PySem L2
local macro_rules | `(tactic| walk_at "wk") => `(tactic| repeat (first
  | refine ⟨_, rfl, ?_⟩
  | refine ⟨_, _, rfl, rfl, ?_⟩
  | refine ⟨⟨by decide, by decide⟩, ?_⟩
  | refine ⟨(by show (0 : Int) < _; decide), ?_⟩
  | refine ⟨Or.inl ⟨by omega, by omega⟩, ?_⟩
  | refine Or.inl ⟨_, rfl, ?_⟩
  | fail))
local macro_rules | `(tactic| walk_at "lits") => `(tactic| repeat (first
  | exact lit_nil
  | exact lit_str
  | exact lit_int
  | exact lit_non
  | refine lit_cons ?_ ?_
  | refine lit_tup ?_
  | fail))
local macro_rules | `(tactic| walk_at "d") => `(tactic| simp only [↓u_tdC, ↓u_tdOp, ↓u_tdNil, ↓u_tdCons, ↓u_tdTup, ↓u_tnLst, ↓u_tdFrz, ↓u_tdFrzK, ↓u_tkNew, ↓u_tdTest, ↓u_tdAnd, ↓u_tdOr, ↓u_tdNot, ↓u_tdYes, ↓u_tdAndV, ↓u_tdOrV, ↓u_tdNotV, ↓u_tdIf, ↓u_tdCB, ↓u_tnCB, ↓u_tnAdd, ↓u_tdNoPart, ↓u_tdPart, ↓u_tdSl, ↓u_tnSl, ↓u_tdRevT, ↓u_tnRevL, ↓u_tdIsiT, ↓u_tdNext, ↓u_tdSeq, ↓u_tdBreak, ↓u_tdCont, ↓u_tdDrop, ↓u_tdRet, ↓u_tdRetN, ↓u_tdRetO, ↓u_tdIfS, ↓u_gdName, ↓u_gdNil, ↓u_gdCons, ↓u_gdTup, ↓u_tdAsg, ↓u_tdAsgN, ↓u_tdAsgK, ↓u_tiAny, ↓u_tiRng1, ↓u_tiRng2, ↓u_tdFor, ↓u_tnLc, ↓u_tdCall, ↓u_tnCall, ↓u_tdRaise, ↓u_tdApp, ↓u_tdDPut, ↓u_tkDict, ↓u_tdAsgR, ↓u_tdForR, ↓u_tdFldC, ↓u_tdSetC, ↓u_tdMeth, ↓u_tdProp, ↓u_tdMakeR, ↓u_tdMakeF, ↓u_tdRaiseS, ↓u_tdTryAs, ↓u_tdTryN, ↓u_tdXf, ↓u_tdJoin, ↓u_tnSplit, ↓u_tdPartn, ↓u_tdFmt, ↓u_tdJoined, ↓u_tkDisp, ↓u_tdShK, ↓u_tdClear, ↓u_tdOGet, ↓u_tdOSet, ↓u_tdOIn, ↓u_tdNeg, ↓u_tdForO, ↓u_tnLcO, ↓u_tnLcR, ↓u_tdGet2, ↓u_tdPopAt, ↓u_tdRg1, ↓u_tdTupRg, ↓u_tnLstRg, ↓u_tdForW, ↓u_tdAugO, ↓u_tdLPut, ↓u_tdFmtW, ↓u_tdMethK, ↓u_tdChain, ↓u_tnLc2, ↓u_tdIndex, ↓u_addF_i, ↓u_addF_s, ↓u_addF_t, ↓u_addF_l, ↓u_iiF, ↓u_mulF_i, ↓u_mulF_s, ↓u_inF_l, ↓u_inF_t, ↓u_inF_s, ↓u_inF_ds, ↓u_inF_di, ↓u_ixF_l, ↓u_ixF_t, ↓u_ixF_s, ↓u_ixF_di, ↓u_ixF_ds, ↓u_slF_l, ↓u_slF_t, ↓u_slF_s, ↓u_lenF_l, ↓u_lenF_t, ↓u_lenF_s, ↓u_lenF_d, ↓u_isiF, ↓u_isiD, ↓u_tupF_l, ↓u_tupF_t, ↓u_lstF_l, ↓u_lstF_t, ↓u_allF, ↓u_anyF, ↓u_sumF, ↓u_sortF, ↓u_intF_i, ↓u_intF_b, ↓u_strF, ↓u_walkF_l, ↓u_walkF_t, ↓u_walkF_s, ↓u_walkF_d, ↓u_arg1, ↓u_arg2, ↓u_frcL_n, ↓u_frcL_c, ↓u_addD, ↓u_iiD, ↓u_mulD, ↓u_eqD_f, ↓u_eqD_t, ↓u_inD_f, ↓u_inD_t, ↓u_ixD, ↓u_dd2, ↓u_isND_f, ↓u_isND_t, ↓u_fldF, ↓u_recF, ↓u_ofC, ↓u_isBD, ↓u_isBF_f, ↓u_isBF_t, ↓u_turnD, ↓u_isoD, ↓u_isoF_o, ↓u_isoF_n, ↓u_asD, ↓u_binOD, ↓u_idxF, ↓u_minF, ↓u_maxF, ↓u_turnD2, ↓u_mm2D, ↓u_lputF, ↓u_fmtWF_s, ↓u_fmtWF_i, ↓u_inTD_f, ↓u_inTD_t, ↓u_inTF, ↓u_refV, ↓u_getF, ↓u_popF, ↓u_dctW, ↓u_tvVar, ↓u_tvFld, ↓u_refD, ↓u_ownW, ↓u_valV1, ↓u_mergeD_n, ↓u_mergeD_c, ↓u_eqKD, ↓u_eqKF_f, ↓u_eqKF_t, ↓u_asS, ↓u_joinF_l, ↓u_joinF_t, ↓u_fmtF_s, ↓u_fmtF_i, ↓u_excF, ↓u_clsV_r, ↓u_clsV_t, ↓u_isYD, ↓b_Call, ↓b_CallN, ↓b_opt, ↓b_dd1, ↓b_asB, ↓b_asI, ↓b_frc, ↓b_for, ↓b_comp, ↓b_ite, ↓b_while, ↓b_var, ↓b_aug, ↓b_mutL, ↓b_mutD, ↓b_retV, ↓b_deref, ↓b_dd1own, ↓b_mutO, ↓b_mutDO, ↓b_frcO, ↓b_comp2, ↓b_compR, ↓b_forL, ↓b_compL, ↓b_dctC, ↓b_ref, ↓b_forR, ↓b_insF, ↓b_insC, ↓b_exB, ↓o_opt, ↓o_asB, ↓o_asI, ↓o_non, ↓o_bl, ↓o_int, ↓o_str, ↓o_ty, ↓o_tup, ↓o_lst, ↓o_dct, ↓o_obj, ↓o_varV, ↓o_varL, ↓o_varD, ↓o_frc, ↓o_augI, ↓o_augS, ↓o_augL, ↓o_retV, ↓o_iteT, ↓o_iteF, ↓o_derefL, ↓o_derefD, ↓o_mutO, ↓o_mutDO, ↓o_frcL, ↓o_frcD, ↓o_frcV, ↓o_dctC, ↓o_ref, ↓o_derefR, ↓o_dd1R, ↓o_mutR, ↓o_derefK, ↓o_dd1K, ↓o_mutK, ↓o_putT, ↓o_insF, ↓o_insC, ↓o_derefI, ↓o_dd1I, ↓o_putS, ↓o_putP, look_c, look_n, putFd_c, putFd_n, ofS_eq, ↓reduceIte, eq_self, List.foldr_cons, List.foldr_nil, DEnds.un, PSt.unset, List.zip_cons_cons, List.zip_nil_left, List.zip_nil_right, List.reverse_cons, List.reverse_nil, exL, exK, exC, tysOf, tyN, isB, tyOk, isNn, PSt.set, S0, PSt.wipe, wipeR,
  List.map_cons, List.map_nil, List.length_cons, List.length_nil, List.replicate_succ, List.replicate_zero, List.cons_append, List.nil_append, List.set_cons_zero, List.set_cons_succ, List.getElem?_cons_zero, List.getElem?_cons_succ, List.getElem?_nil,
  Bool.not_true, Bool.not_false, bq_t, bq_f, Bool.not_not, Bool.false_eq_true, true_and, and_true, Nat.reduceAdd, Nat.reduceSub, Nat.reduceLeDiff, String.reduceEq, decide_true, decide_false, Bool.true_or, Bool.false_or, Bool.true_and, Bool.false_and, Bool.or_true, Bool.or_false, Bool.and_true, Bool.and_false, decide_eq_true_eq, List.mem_cons, List.not_mem_nil, or_true, true_or, or_false, false_or, List.any_cons, List.any_nil, List.all_cons, List.all_nil, Option.map_some, Option.map_none, Option.isSome_some, Option.isSome_none, eqOk_ii, eqOk_ss, eqOk_bb, eqOk_nn, eqOk_ns, eqOk_sn, eqOk_ni, eqOk_in, eqOk_si, eqOk_is, D.int.injEq, D.str.injEq, D.bl.injEq, reduceCtorEq, keyD, atI_0, atI_1, atI_2, atI_3, atI_4, cut1, ne_eq, not_true_eq_false, not_false_eq_true, Bool.not_eq_true', Bool.not_eq_false', decide_eq_false_iff_not])
local macro_rules | `(tactic| walk_at "z") => `(tactic| first
  | (apply z_seq; (focus walk_at "z"); (focus walk_at "z"))
  | (apply z_try; (focus (intro _ _ _; walk_at "z")); (focus (intro _ _ _; walk_at "z")); (focus walk_at "z"))
  | (apply z_tryN; (focus (intro _ _ _; walk_at "z")); (focus walk_at "z"); (focus walk_at "z"))
  | (apply z_cl; (focus (intro _ _ _; walk_at "z")); (focus walk_at "z"))
  | exact inferInstance
  | (apply z_if; (focus walk_at "z"); (focus walk_at "z"); (focus walk_at "z"))
  | (apply z_while; (focus walk_at "z"); (focus walk_at "z"))
  | (apply z_for; (focus walk_at "z"); (focus walk_at "z"); (focus walk_at "z")))
variable {P : Program} {w : World} {K : PySem.W.Frag} {mg : Str → Option Value} {base : Heap}
/-! ### the words of a stock -/
theorem repS_list (x : Str) (n : Nat) : (repS x n).cps.toList = (List.replicate n x.cps.toList).flatten := by unfold repS; simp
theorem repS_len (x : Str) (n : Nat) : (repS x n).length = n * x.length := by
  show ((List.replicate n x.cps.toList).flatten).toArray.size = _
  rw [List.size_toArray, List.length_flatten, List.map_replicate, List.sum_replicate_nat]
  rfl
theorem repS_mem {x : Str} {n c : Nat} (h : c ∈ (repS x n).cps.toList) : c ∈ x.cps.toList := by
  rw [repS_list, List.mem_flatten] at h
  obtain ⟨l, hl, hc⟩ := h
  rw [List.eq_of_mem_replicate hl] at hc
  exact hc
theorem toList_app (a b : Str) : (a ++ b).cps.toList = a.cps.toList ++ b.cps.toList := by
  show (a.cps ++ b.cps).toList = _
  simp
theorem len_app (a b : Str) : (a ++ b).length = a.length + b.length := by
  show (a.cps ++ b.cps).size = _
  simp; rfl
def ownS (st k : Nat) : Str := ⟨#[SMALLc.getD ((st + k) % 26) 0]⟩
def wordAt (b : Bool) (fi lo : Str) (st k : Nat) : Str := if b then (ownS st k ++ fi) ++ repS lo k else (fi ++ repS lo k) ++ ownS st k
/-- a text of at most n small letters -/
def smS (n : Nat) (x : Str) : Prop := x.length ≤ n ∧ ∀ c ∈ x.cps.toList, c ∈ SMALLc
theorem smS_one {c : Nat} (h : c ∈ SMALLc) : smS 1 ⟨#[c]⟩ := ⟨by show 1 ≤ 1; omega, fun d hd => by
  have : d = c := by simpa using hd
  rw [this]; exact h⟩
theorem smS_rep {m : Nat} {x : Str} (h : smS m x) (n : Nat) : smS (n * m) (repS x n) := ⟨by rw [repS_len]; exact Nat.mul_le_mul_left n h.1, fun c hc => h.2 c (repS_mem hc)⟩
theorem smS_app {m n : Nat} {x y : Str} (h : smS m x) (k : smS n y) : smS (m + n) (x ++ y) := by
  refine ⟨by rw [len_app]; exact Nat.add_le_add h.1 k.1, fun c hc => ?_⟩
  rw [toList_app] at hc
  rcases List.mem_append.mp hc with hc | hc
  · exact h.2 c hc
  · exact k.2 c hc
theorem smS_mono {m n : Nat} {x : Str} (h : smS m x) (k : m ≤ n) : smS n x := ⟨Nat.le_trans h.1 k, h.2⟩
theorem small_at {i : Nat} (h : i < 26) : SMALLc[i]? = some (SMALLc.getD i 0) := by
  have : i < SMALLc.length := h
  rw [List.getD_eq_getElem?_getD, List.getElem?_eq_getElem this]; rfl
theorem own_sm (st k : Nat) : smS 1 (ownS st k) := smS_one (List.mem_of_getElem? (small_at (Nat.mod_lt _ (by decide))))
theorem word_sm {b : Bool} {fi lo : Str} {st k : Nat} (h1 : smS 3 fi) (h2 : smS 1 lo) : smS (4 + k) (wordAt b fi lo st k) := by
  unfold wordAt
  have hr := smS_rep h2 k
  cases b
  · exact smS_mono (smS_app (smS_app h1 hr) (own_sm st k)) (by omega)
  · exact smS_mono (smS_app (smS_app (own_sm st k) h1) hr) (by omega)
theorem word_is {b : Bool} {fi lo : Str} {st k : Nat} (h1 : smS 3 fi) (h2 : smS 1 lo) (hk : k ≤ 8) : isWord (wordAt b fi lo st k) = true := by
  have h := word_sm (b := b) (st := st) (k := k) h1 h2
  have hl : 1 ≤ (wordAt b fi lo st k).length := by
    have e : (ownS st k).length = 1 := rfl
    unfold wordAt
    cases b
    · show 1 ≤ ((fi ++ repS lo k) ++ ownS st k).length
      rw [len_app, e]; omega
    · show 1 ≤ ((ownS st k ++ fi) ++ repS lo k).length
      rw [len_app, len_app, e]; omega
  unfold isWord
  rw [decide_eq_true hl, decide_eq_true (show (wordAt b fi lo st k).length ≤ 12 by have := h.1; omega), Bool.true_and, Bool.true_and, List.all_eq_true]
  exact fun c hc => decide_eq_true (h.2 c hc)
theorem small_inj : ∀ i ∈ List.range 26, ∀ j ∈ List.range 26, SMALLc.getD i 0 = SMALLc.getD j 0 → i = j := by decide +kernel
theorem own_inj {st i j : Nat} (hi : i < 26) (hj : j < 26) (h : SMALLc.getD ((st + i) % 26) 0 = SMALLc.getD ((st + j) % 26) 0) : i = j := by
  have := small_inj _ (List.mem_range.mpr (Nat.mod_lt (st + i) (by decide))) _ (List.mem_range.mpr (Nat.mod_lt (st + j) (by decide))) h
  omega
theorem word_inj {b : Bool} {fi lo : Str} {st i j : Nat} (hi : i < 26) (hj : j < 26) (h : wordAt b fi lo st i = wordAt b fi lo st j) : i = j := by
  have h := congrArg (fun x : Str => x.cps.toList) h
  have eo : ∀ k, (ownS st k).cps.toList = [SMALLc.getD ((st + k) % 26) 0] := fun k => rfl
  unfold wordAt at h
  cases b
  · have h : ((fi ++ repS lo i) ++ ownS st i).cps.toList = ((fi ++ repS lo j) ++ ownS st j).cps.toList := h
    simp only [toList_app, eo] at h
    have := congrArg List.getLast? h
    rw [List.getLast?_concat, List.getLast?_concat] at this
    exact own_inj hi hj (Option.some.inj this)
  · have h : ((ownS st i ++ fi) ++ repS lo i).cps.toList = ((ownS st j ++ fi) ++ repS lo j).cps.toList := h
    simp only [toList_app, eo] at h
    simp only [List.singleton_append, List.cons_append] at h
    injection h with h _
    exact own_inj hi hj h
def wordsOf (b : Bool) (fi lo : Str) (st n : Nat) : List Str := (List.range n).map (wordAt b fi lo st)
/-- n words, all different -/
structure Words (n : Nat) (ws : List Str) : Prop where
  len : ws.length = n
  word : ∀ x ∈ ws, isWord x = true
  nodup : ws.Nodup
  short : ∀ x ∈ ws, x.length ≤ n + 3
theorem words_of {b : Bool} {fi lo : Str} {st n : Nat} (h1 : smS 3 fi) (h2 : smS 1 lo) (hn : n ≤ 9) : Words n (wordsOf b fi lo st n) := by
  refine ⟨by simp [wordsOf], fun x hx => ?_, ?_, fun x hx => ?_⟩
  · obtain ⟨k, hk, rfl⟩ := List.mem_map.mp hx
    have := List.mem_range.mp hk
    exact word_is h1 h2 (by omega)
  · unfold wordsOf
    refine List.Pairwise.map _ (fun i j h => ?_) (List.Pairwise.and_mem.mp (List.nodup_range (n := n)))
    obtain ⟨hi, hj, hne⟩ := h
    have := List.mem_range.mp hi
    have := List.mem_range.mp hj
    exact fun e => hne (word_inj (by omega) (by omega) e)
  · obtain ⟨k, hk, rfl⟩ := List.mem_map.mp hx
    have := List.mem_range.mp hk
    have := (word_sm (b := b) (st := st) (k := k) h1 h2).1
    omega

abbrev s__law_words : Stmt := top 29
abbrev N__law_words : List Str := ["_law_tape_here", "_law_many", "_law_alphabet", "_law_filler", "_law_longer", "_law_start", "_law_last", "_law_words_here", "_law_k", "_law_own"]
abbrev P__law_words : List Str := ["_law_tape_here", "_law_many"]
theorem sc__law_words : FnScope N__law_words P__law_words (defScope s__law_words) := ⟨rfl, rfl, rfl, by decide +kernel, rfl, by decide +kernel, by decide +kernel⟩
def F_words : FSpec := fun ds W Q _ => ∃ n : Nat, ds = [.tape, .int n] ∧ n ≤ 9 ∧ ∀ ws : List Str, Words n ws → Q (.lst (ws.map D.str)) W
theorem pickS (r : Int) (a0 : 0 ≤ r) (a1 : r < 26) : ∃ c, atI (Str.ofString "abcdefghijklmnopqrstuvwxyz").cps.toList r = some c ∧ c ∈ SMALLc := by
  refine ⟨SMALLc.getD r.toNat 0, ?_, List.mem_of_getElem? (small_at (by omega))⟩
  rw [small_c, show r = ((r.toNat : Nat) : Int) by omega]
  exact atI_nat (small_at (by omega))
theorem alen : (Str.ofString "abcdefghijklmnopqrstuvwxyz").length ≤ 1000000 := by decide +kernel
theorem ok__law_words (F : Fz K mg "_law_words" s__law_words P__law_words) (T : Txt K mg) (G__law_take : Fx P w K mg base (L2.CX P w) "_law_take" 1 P__law_take (lift K F_take)) : Fx P w K mg base (L2.CX P w) "_law_words" 2 P__law_words (lift K F_words) := by
  refine F.okD sc__law_words (fun ds W Q E h => ?_) (fun f cdv A outer s H E e ds Qd Ed hr lk h => ?_)
  · obtain ⟨n, rfl, _⟩ := h
    rfl
  · obtain ⟨n, rfl, hn, k⟩ := h
    refine ⟨_, _, (pss_cons (ps_set (i := 2) sc__law_words.nd rfl (Or.inl rfl) pe_str)
      (pss_cons (ps_set (i := 3) sc__law_words.nd rfl (Or.inl rfl) (pe_op op_mulU (pe_ix (ix_U K (hu_of hr)) (pv 2) (fcallX (takes_of rfl rfl rfl rfl) G__law_take (hr.mono (by first | decide | omega)) (by rfl) (pa_cons (pv 0) (pa_cons pe_int pa_nil))) (fun _ _ => rfl)) (fcallX (takes_of rfl rfl rfl rfl) G__law_take (hr.mono (by first | decide | omega)) (by rfl) (pa_cons (pv 0) (pa_cons pe_int pa_nil)))))
      (pss_cons (ps_set (i := 4) sc__law_words.nd rfl (Or.inl rfl) (pe_op op_mulU (pe_ix (ix_U K (hu_of hr)) (pv 2) (fcallX (takes_of rfl rfl rfl rfl) G__law_take (hr.mono (by first | decide | omega)) (by rfl) (pa_cons (pv 0) (pa_cons pe_int pa_nil))) (fun _ _ => rfl)) (fcallX (takes_of rfl rfl rfl rfl) G__law_take (hr.mono (by first | decide | omega)) (by rfl) (pa_cons (pv 0) (pa_cons pe_int pa_nil)))))
      (pss_cons (ps_set (i := 5) sc__law_words.nd rfl (Or.inl rfl) (fcallX (takes_of rfl rfl rfl rfl) G__law_take (hr.mono (by first | decide | omega)) (by rfl) (pa_cons (pv 0) (pa_cons pe_int pa_nil))))
      (pss_cons (ps_set (i := 6) sc__law_words.nd rfl (Or.inl rfl) (fcallX (takes_of rfl rfl rfl rfl) G__law_take (hr.mono (by first | decide | omega)) (by rfl) (pa_cons (pv 0) (pa_cons pe_int pa_nil))))
      (pss_cons (setO_of (ps_set (i := 7) sc__law_words.nd rfl (Or.inl rfl) (pe_lst pa_nil)))
      (pss_cons (ps_for (passes_of rfl) rfl (pi_range1 (by rfl) T.b_range (pa_cons (pv 1) pa_nil)) (pg_name (i := 8) sc__law_words.nd rfl (Or.inl rfl)) (pss_cons (ps_set (i := 9) sc__law_words.nd rfl (Or.inl rfl) (pe_ix (ix_U K (hu_of hr)) (pv 2) (pe_op op_modU (pe_op (op_addU K) (pv 5) (pv 8)) pe_int) (fun _ _ => rfl)))
      (pss_one (ps_if (pt_cmpR (op_eqU K hr.units) (pv 6) pe_int (nomark _)) (pss_one (ps_expr (pe_bmK K PySem.F.plainAttrs_list PySem.F.slot_list_append PySem.F.type_list_append mt_append (pv 7) (pa_cons (pe_op (op_addU K) (pe_op (op_addU K) (pv 9) (pv 3)) (pe_op op_mulU (pv 4) (pv 8))) pa_nil)))) (pss_one (ps_expr (pe_bmK K PySem.F.plainAttrs_list PySem.F.slot_list_append PySem.F.type_list_append mt_append (pv 7) (pa_cons (pe_op (op_addU K) (pe_op (op_addU K) (pv 3) (pe_op op_mulU (pv 4) (pv 8))) (pv 9)) pa_nil))))))))
      (pss_one (ps_ret (pv 7)))))))))), inferInstance, ?_⟩
    walk_at "d"
    refine ⟨26, rfl, by decide, fun r1 a0 a1 => ?_⟩
    obtain ⟨c1, e1, m1⟩ := pickS r1 a0 a1
    walk_at "d"
    refine ⟨alen, ?_⟩
    rw [e1]
    walk_at "d"
    refine ⟨4, rfl, by decide, fun n1 a2 a3 => ?_⟩
    walk_at "d"
    refine ⟨a2, (by show 1 ≤ 1000; decide), by omega, 26, rfl, by decide, fun r2 a4 a5 => ?_⟩
    obtain ⟨c2, e2, m2⟩ := pickS r2 a4 a5
    walk_at "d"
    refine ⟨alen, ?_⟩
    rw [e2]
    walk_at "d"
    refine ⟨2, rfl, by decide, fun n2 a6 a7 => ?_⟩
    walk_at "d"
    refine ⟨a6, (by show 1 ≤ 1000; decide), by omega, 26, rfl, by decide, fun st a8 a9 => ?_⟩
    walk_at "d"
    refine ⟨2, rfl, by decide, fun la b0 b1 => ?_⟩
    obtain ⟨st, rfl⟩ : ∃ j : Nat, st = (j : Int) := ⟨st.toNat, by omega⟩
    have hfi : smS 3 (repS ⟨#[c1]⟩ n1.toNat) := smS_mono (smS_rep (smS_one m1) n1.toNat) (by omega)
    have hlo : smS 1 (repS ⟨#[c2]⟩ n2.toNat) := smS_mono (smS_rep (smS_one m2) n2.toNat) (by omega)
    generalize repS ⟨#[c1]⟩ n1.toNat = fi at *
    generalize repS ⟨#[c2]⟩ n2.toNat = lo at *
    walk_at "d"
    refine ⟨by omega, by omega, ?_⟩
    refine for_rng (fun i S => ∃ v8 v9, S = ⟨[some (.val .tape), some (.val (.int n)), some (.val (.str "abcdefghijklmnopqrstuvwxyz")), some (.val (.str fi)), some (.val (.str lo)), some (.val (.int st)), some (.val (.int la)), some (.ownL ((wordsOf (decide (la = 0)) fi lo st i).map D.str)), v8, v9], e.W⟩) ⟨_, _, rfl⟩ ?_ ?_
    · rintro i S hi ⟨v8, v9, rfl⟩
      have hsm := hlo.1
      have hfm := hfi.1
      have hrl : (repS lo i).length ≤ 9 := by
        rw [repS_len]
        calc i * lo.length ≤ i * 1 := Nat.mul_le_mul_left i hsm
          _ ≤ 9 := by omega
      have own : atI (Str.ofString "abcdefghijklmnopqrstuvwxyz").cps.toList (((st : Int) + (0 + (i : Int))) % 26) = some (SMALLc.getD ((st + i) % 26) 0) := by
        rw [small_c, show ((st : Int) + (0 + (i : Int))) % 26 = (((st + i) % 26 : Nat) : Int) by omega]
        exact atI_nat (small_at (Nat.mod_lt _ (by decide)))
      have fin : ∀ x, x = wordAt (decide (la = 0)) fi lo st i → (wordsOf (decide (la = 0)) fi lo st i).map D.str ++ [D.str x] = (wordsOf (decide (la = 0)) fi lo st (i + 1)).map D.str := fun x hx => by
        unfold wordsOf
        rw [List.range_succ, List.map_append, List.map_append, hx]; rfl
      have lenl : ((wordsOf (decide (la = 0)) fi lo st i).map D.str).length = i := by simp [wordsOf]
      have ei : ((0 : Int) + (i : Int)).toNat = i := by omega
      walk_at "d"
      refine ⟨by decide, alen, ?_⟩
      rw [own]
      walk_at "d"
      refine iteB_by (fun c => ?_) (fun c => ?_)
      · have e0 : decide (la = 0) = true := decide_eq_true c
        rw [e0] at fin lenl ⊢
        walk_at "d"
        rw [ei, fin ((⟨#[SMALLc.getD ((st + i) % 26) 0]⟩ ++ fi) ++ repS lo i) rfl]
        exact ⟨by show 1 + fi.length ≤ _; omega, by omega, by omega, by omega, by rw [len_app]; show 1 + fi.length + _ ≤ _; omega, by rw [lenl]; omega, _, _, rfl⟩
      · have e0 : decide (la = 0) = false := decide_eq_false c
        rw [e0] at fin lenl ⊢
        walk_at "d"
        rw [ei, fin ((fi ++ repS lo i) ++ ⟨#[SMALLc.getD ((st + i) % 26) 0]⟩) rfl]
        exact ⟨by omega, by omega, by omega, by omega, by rw [len_app]; show _ + 1 ≤ _; omega, by rw [lenl]; omega, _, _, rfl⟩
    · rintro S ⟨v8, v9, rfl⟩
      walk_at "d"
      exact k _ (words_of hfi hlo hn)

/-! ### a stock: the shapes of its words, which word lies under which -/
def dkS (l : List (Str × Str)) : List (Key × D) := l.map fun p => (Sum.inr p.1, D.str p.2)
def lkS : List (Str × Str) → Str → Option Str
  | [], _ => none
  | p :: l, x => if p.1 = x then some p.2 else lkS l x
theorem look_dkS (x : Str) : ∀ l : List (Str × Str), look (dkS l) (Sum.inr x) = (lkS l x).map D.str
  | [] => rfl
  | p :: l => by
    show (if (Sum.inr p.1 : Key) = Sum.inr x then some (D.str p.2) else look (dkS l) (Sum.inr x)) = _
    by_cases c : p.1 = x
    · rw [lkS, if_pos c, if_pos (by rw [c])]; rfl
    · rw [lkS, if_neg c, if_neg (fun z => c (Sum.inr.inj z)), look_dkS x l]
theorem lkS_none {x : Str} : ∀ {l : List (Str × Str)}, x ∉ l.map (·.1) → lkS l x = none
  | [], _ => rfl
  | p :: l, h => by
    rw [List.map_cons, List.mem_cons, not_or] at h
    rw [lkS, if_neg (fun z => h.1 z.symm), lkS_none h.2]
theorem lkS_mem {x y : Str} : ∀ {l : List (Str × Str)}, (l.map (·.1)).Nodup → (x, y) ∈ l → lkS l x = some y
  | p :: l, hn, h => by
    rw [List.map_cons, List.nodup_cons] at hn
    rcases List.mem_cons.mp h with rfl | h
    · rw [lkS, if_pos rfl]
    · have : p.1 ≠ x := fun z => hn.1 (z ▸ List.mem_map.mpr ⟨_, h, rfl⟩)
      rw [lkS, if_neg this, lkS_mem hn.2 h]
theorem look_any {ks : List (Key × D)} {k : Key} : (ks.any fun p => decide (p.1 = k)) = (look ks k).isSome := by
  induction ks with
  | nil => rfl
  | cons p l ih =>
    rw [List.any_cons, look]
    by_cases c : p.1 = k
    · rw [if_pos c, decide_eq_true c]; rfl
    · rw [if_neg c, decide_eq_false c, Bool.false_or, ih]
theorem put_none {ks : List (Key × D)} {k : Key} {d : D} (h : look ks k = none) : put ks k d = ks ++ [(k, d)] := by
  unfold put
  rw [look_any, h]; rfl
theorem put_dkS {l : List (Str × Str)} {x y : Str} (h : x ∉ l.map (·.1)) : put (dkS l) (Sum.inr x) (.str y) = dkS (l ++ [(x, y)]) := by
  rw [put_none (by rw [look_dkS, lkS_none h]; rfl)]
  simp [dkS]
def shapesOf (ws : List Str) (b : Nat) (mu : List Str) : List (Str × Str) := ((ws.take b).map fun x => (x, ("" : Str))) ++ ((ws.drop 4).take mu.length).zip mu
def underOf (ws : List Str) (un : List (Nat × Nat)) : List (Str × Str) := un.map fun p => (ws.getD p.1 "", ws.getD p.2 "")
structure Stk (flat : Bool) (menu ws : List Str) (b : Nat) (mu : List Str) (un : List (Nat × Nat)) : Prop where
  w : Words 7 ws
  b2 : 2 ≤ b
  b4 : b ≤ 4
  m3 : mu.length ≤ 3
  mm : ∀ x ∈ mu, x ∈ menu
  u : ∀ p ∈ un, 1 ≤ p.1 ∧ p.1 < b ∧ p.2 < p.1
  asc : (un.map (·.1)).Pairwise (· < ·)
  fl : flat = true → un = []
theorem ws_ix {n : Nat} {ws : List Str} (h : ws.length = n) {i : Nat} (hi : i < n) : ws[i]? = some (ws.getD i "") := by
  rw [List.getD_eq_getElem?_getD, List.getElem?_eq_getElem (by omega)]; rfl
theorem ws_inj {ws : List Str} (h : ws.Nodup) {i j : Nat} (hi : i < ws.length) (hj : j < ws.length) (e : ws.getD i "" = ws.getD j "") : i = j := by
  have a := ws_ix rfl hi
  have b := ws_ix rfl hj
  rw [e] at a
  exact nd_ix h a b
theorem shapes_step1 {ws : List Str} {i : Nat} (hi : i < ws.length) : ((ws.take (i + 1)).map fun x => (x, ("" : Str))) = ((ws.take i).map fun x => (x, ("" : Str))) ++ [(ws.getD i "", ("" : Str))] := by
  rw [take_succ_get (ws_ix rfl hi), List.map_append]; rfl
theorem shapes_step2 {ws mu : List Str} {b : Nat} {m : Str} (hw : ws.length = 7) (hi : mu.length < 3) : shapesOf ws b (mu ++ [m]) = shapesOf ws b mu ++ [(ws.getD (4 + mu.length) "", m)] := by
  have e : (ws.drop 4)[mu.length]? = some (ws.getD (4 + mu.length) "") := by
    rw [List.getElem?_drop]; exact ws_ix hw (by omega)
  unfold shapesOf
  rw [List.length_append, List.length_singleton, take_succ_get e, List.zip_append (by rw [List.length_take, List.length_drop]; omega), List.append_assoc]; rfl
theorem shapes_keys {ws mu : List Str} {b : Nat} (hw : ws.length = 7) (hm : mu.length ≤ 3) : (shapesOf ws b mu).map (·.1) = ws.take b ++ (ws.drop 4).take mu.length := by
  unfold shapesOf
  rw [List.map_append, List.map_map, List.map_fst_zip (by rw [List.length_take, List.length_drop]; omega)]
  congr 1
  exact List.map_id' _
theorem not_in_take {ws : List Str} (h : ws.Nodup) {i j : Nat} (hi : i < ws.length) (hj : j ≤ i) : ws.getD i "" ∉ ws.take j := fun z => by
  obtain ⟨k, hk, e⟩ := List.mem_iff_getElem.mp z
  rw [List.length_take] at hk
  rw [List.getElem_take] at e
  have : ws.getD k "" = ws[k] := by
    have := ws_ix rfl (show k < ws.length by omega)
    rw [List.getElem?_eq_getElem (by omega)] at this
    exact (Option.some.inj this).symm
  have := ws_inj h hi (show k < ws.length by omega) (by rw [this, e])
  omega
theorem not_in_drop {ws : List Str} (h : ws.Nodup) {i j : Nat} (hi : 4 + i < ws.length) (hj : j ≤ i) : ws.getD (4 + i) "" ∉ (ws.drop 4).take j := fun z => by
  have e : (ws.drop 4).getD i "" = ws.getD (4 + i) "" := by
    rw [List.getD_eq_getElem?_getD, List.getElem?_drop, ← List.getD_eq_getElem?_getD]
  rw [← e] at z
  exact not_in_take (h.sublist (List.drop_sublist 4 ws)) (by rw [List.length_drop]; omega) hj z

abbrev s__law_stock : Stmt := top 30
abbrev N__law_stock : List Str := ["_law_tape_here", "_law_flat", "_law_menu", "_law_words_here", "_law_bases", "_law_shapes", "_law_k", "_law_under_here", "_law_above"]
abbrev P__law_stock : List Str := ["_law_tape_here", "_law_flat", "_law_menu"]
theorem sc__law_stock : FnScope N__law_stock P__law_stock (defScope s__law_stock) := ⟨rfl, rfl, rfl, by decide +kernel, rfl, by decide +kernel, by decide +kernel⟩
def F_stock : FSpec := fun ds W Q _ => ∃ (flat : Bool) (menu : List Str), ds = [.tape, .bl flat, .lst (menu.map D.str)] ∧ menu ≠ [] ∧ menu.length ≤ 100 ∧
  ∀ (ws : List Str) (b : Nat) (mu : List Str) (un : List (Nat × Nat)), Stk flat menu ws b mu un → Q (.tup [.dct (dkS (shapesOf ws b mu)), .dct (dkS (underOf ws un))]) W
theorem ok__law_stock (F : Fz K mg "_law_stock" s__law_stock P__law_stock) (T : Txt K mg) (G__law_take : Fx P w K mg base (L2.CX P w) "_law_take" 1 P__law_take (lift K F_take)) (G__law_words : Fx P w K mg base (L2.CX P w) "_law_words" 2 P__law_words (lift K F_words)) : Fx P w K mg base (L2.CX P w) "_law_stock" 3 P__law_stock (lift K F_stock) := by
  refine F.okD sc__law_stock (fun ds W Q E h => ?_) (fun f cdv A outer s H E e ds Qd Ed hr lk h => ?_)
  · obtain ⟨flat, menu, rfl, _⟩ := h
    rfl
  · obtain ⟨flat, menu, rfl, hme, hml, k⟩ := h
    refine ⟨_, _, (pss_cons (ps_set (i := 3) sc__law_stock.nd rfl (Or.inl rfl) (fcallX (takes_of rfl rfl rfl rfl) G__law_words (hr.mono (by first | decide | omega)) (by rfl) (pa_cons (pv 0) (pa_cons pe_int pa_nil))))
      (pss_cons (ps_set (i := 4) sc__law_stock.nd rfl (Or.inl rfl) (pe_op (op_addU K) pe_int (fcallX (takes_of rfl rfl rfl rfl) G__law_take (hr.mono (by first | decide | omega)) (by rfl) (pa_cons (pv 0) (pa_cons pe_int pa_nil)))))
      (pss_cons (setO_of (ps_set (i := 5) sc__law_stock.nd rfl (Or.inl rfl) pe_dnewK))
      (pss_cons (ps_for (passes_of rfl) rfl (pi_range1 (by rfl) T.b_range (pa_cons (pv 4) pa_nil)) (pg_name (i := 6) sc__law_stock.nd rfl (Or.inl rfl)) (pss_one (ps_dput (hu_of hr) (pv 5) (pe_ix (ix_U K (hu_of hr)) (pv 3) (pv 6) (fun _ _ => rfl)) pe_str rfl)))
      (pss_cons (ps_for (passes_of rfl) rfl (pi_range1 (by rfl) T.b_range (pa_cons (fcallX (takes_of rfl rfl rfl rfl) G__law_take (hr.mono (by first | decide | omega)) (by rfl) (pa_cons (pv 0) (pa_cons pe_int pa_nil))) pa_nil)) (pg_name (i := 6) sc__law_stock.nd rfl (Or.inl rfl)) (pss_one (ps_dput (hu_of hr) (pv 5) (pe_ix (ix_U K (hu_of hr)) (pv 3) (pe_op (op_addU K) pe_int (pv 6)) (fun _ _ => rfl)) (pe_ix (ix_U K (hu_of hr)) (pv 2) (fcallX (takes_of rfl rfl rfl rfl) G__law_take (hr.mono (by first | decide | omega)) (by rfl) (pa_cons (pv 0) (pa_cons (pe_callB (call_lenU K) (by rfl) T.b_len PySem.boot_len (pa_cons (pv 2) pa_nil)) pa_nil))) (fun _ _ => rfl)) rfl)))
      (pss_cons (setO_of (ps_set (i := 7) sc__law_stock.nd rfl (Or.inl rfl) pe_dnewK))
      (pss_cons (ps_for (passes_of rfl) rfl (pi_range2 (by rfl) T.b_range (pa_cons pe_int (pa_cons (pv 4) pa_nil))) (pg_name (i := 6) sc__law_stock.nd rfl (Or.inl rfl)) (pss_cons (ps_set (i := 8) sc__law_stock.nd rfl (Or.inl rfl) (fcallX (takes_of rfl rfl rfl rfl) G__law_take (hr.mono (by first | decide | omega)) (by rfl) (pa_cons (pv 0) (pa_cons (pe_op (op_addU K) (pv 6) pe_int) pa_nil))))
      (pss_one (ps_if (PW.pt (pw_and (pt_cmpR op_ltU (pv 8) (pv 6) (nomark _)) (pw_and1 (pt_not (pt_val (pv 1)))))) (pss_one (ps_dput (hu_of hr) (pv 7) (pe_ix (ix_U K (hu_of hr)) (pv 3) (pv 6) (fun _ _ => rfl)) (pe_ix (ix_U K (hu_of hr)) (pv 3) (pv 8) (fun _ _ => rfl)) rfl)) pss_nil))))
      (pss_one (ps_ret (pe_tup (pa_cons (pv 5) (pa_cons (pv 7) pa_nil)))))))))))), inferInstance, ?_⟩
    walk_at "d"
    refine ⟨7, rfl, by decide, fun ws hw => ?_⟩
    have hlen := hw.len
    have ixw : ∀ {z : Int} {i : Nat}, z = (i : Int) → i < 7 → atI (ws.map D.str) z = some (D.str (ws.getD i "")) := fun hz hi => at_get hz (by rw [List.getElem?_map, ws_ix hlen hi]; rfl)
    walk_at "d"
    refine ⟨3, rfl, by decide, fun q q0 q1 => ?_⟩
    obtain ⟨q, rfl⟩ : ∃ j : Nat, q = (j : Int) := ⟨q.toNat, by omega⟩
    walk_at "d"
    refine ⟨by omega, by omega, ?_⟩
    refine for_rng (fun i S => ∃ v6, S = ⟨[some (.val .tape), some (.val (.bl flat)), some (.val (.lst (menu.map D.str))), some (.val (.lst (ws.map D.str))), some (.val (.int (2 + (q : Int)))), some (.ownD (dkS ((ws.take i).map fun x => (x, ("" : Str))))), v6, none, none], e.W⟩) ⟨_, rfl⟩ ?_ ?_
    · rintro i S hi ⟨v6, rfl⟩
      walk_at "d"
      rw [ixw (i := i) (by omega) (by omega)]
      walk_at "d"
      rw [put_dkS (by rw [show ((ws.take i).map fun x => (x, ("" : Str))).map (·.1) = ws.take i by rw [List.map_map]; exact List.map_id' _]; exact not_in_take hw.nodup (show i < ws.length by omega) (Nat.le_refl i)), ← shapes_step1 (show i < ws.length by omega)]
      exact ⟨by simp [dkS]; omega, _, rfl⟩
    · rintro S ⟨v6, rfl⟩
      have e0 : (ws.take (2 + (q : Int)).toNat).map (fun x => (x, ("" : Str))) = shapesOf ws (2 + q) [] := by
        unfold shapesOf
        rw [show (2 + (q : Int)).toNat = 2 + q by omega]; simp
      rw [e0]
      walk_at "d"
      refine ⟨4, rfl, by decide, fun c c0 c1 => ?_⟩
      walk_at "d"
      refine ⟨by omega, by omega, ?_⟩
      refine for_rng (fun i S => ∃ v6 mu, S = ⟨[some (.val .tape), some (.val (.bl flat)), some (.val (.lst (menu.map D.str))), some (.val (.lst (ws.map D.str))), some (.val (.int (2 + (q : Int)))), some (.ownD (dkS (shapesOf ws (2 + q) mu))), v6, none, none], e.W⟩ ∧ mu.length = i ∧ ∀ x ∈ mu, x ∈ menu) ⟨_, [], rfl, rfl, by simp⟩ ?_ ?_
      · rintro i S hi ⟨v6, mu, rfl, hmu, hmm⟩
        walk_at "d"
        refine ⟨_, rfl, ?_, fun r r0 r1 => ?_⟩
        · have : menu.length ≠ 0 := fun z => hme (List.length_eq_zero_iff.mp z)
          simp; omega
        rw [List.length_map] at r1
        obtain ⟨m, hm⟩ : ∃ m, menu[r.toNat]? = some m := ⟨_, List.getElem?_eq_getElem (by omega)⟩
        walk_at "d"
        rw [at_get (j := r.toNat) (by omega) (show (menu.map D.str)[r.toNat]? = some (D.str m) by rw [List.getElem?_map, hm]; rfl)]
        walk_at "d"
        rw [ixw (i := 4 + i) (by omega) (by omega)]
        walk_at "d"
        rw [put_dkS (by
          rw [shapes_keys hlen (by omega), List.mem_append]
          rintro (z | z)
          · exact not_in_take hw.nodup (show 4 + i < ws.length by omega) (by omega) z
          · exact not_in_drop hw.nodup (show 4 + i < ws.length by omega) (by omega) z), ← hmu, ← shapes_step2 hlen (by omega)]
        refine ⟨?_, _, mu ++ [m], rfl, by simp, fun x hx => ?_⟩
        · simp [dkS, shapesOf]; omega
        · rcases List.mem_append.mp hx with hx | hx
          · exact hmm x hx
          · rw [List.mem_singleton.mp hx]; exact List.mem_of_getElem? hm
      · rintro S ⟨v6, mu, rfl, hmu, hmm⟩
        walk_at "d"
        refine ⟨by omega, ?_⟩
        refine for_rng (fun i S => ∃ v6 v8 un, S = ⟨[some (.val .tape), some (.val (.bl flat)), some (.val (.lst (menu.map D.str))), some (.val (.lst (ws.map D.str))), some (.val (.int (2 + (q : Int)))), some (.ownD (dkS (shapesOf ws (2 + q) mu))), v6, some (.ownD (dkS (underOf ws un))), v8], e.W⟩ ∧ un.length ≤ i ∧ (∀ p ∈ un, 1 ≤ p.1 ∧ p.1 < 1 + i ∧ p.2 < p.1) ∧ (un.map (·.1)).Pairwise (· < ·) ∧ (flat = true → un = [])) ⟨_, _, [], rfl, by simp, by simp, by simp, fun _ => rfl⟩ ?_ ?_
        · rintro i S hi ⟨v6, v8, un, rfl, ul, u1, u2, u3⟩
          walk_at "d"
          refine ⟨_, rfl, by omega, fun r r0 r1 => ?_⟩
          walk_at "d"
          have skip : ∃ v6' v8' un', (⟨[some (.val .tape), some (.val (.bl flat)), some (.val (.lst (menu.map D.str))), some (.val (.lst (ws.map D.str))), some (.val (.int (2 + (q : Int)))), some (.ownD (dkS (shapesOf ws (2 + q) mu))), some (.val (.int (1 + (i : Int)))), some (.ownD (dkS (underOf ws un))), some (.val (.int r))], e.W⟩ : PSt) = ⟨[some (.val .tape), some (.val (.bl flat)), some (.val (.lst (menu.map D.str))), some (.val (.lst (ws.map D.str))), some (.val (.int (2 + (q : Int)))), some (.ownD (dkS (shapesOf ws (2 + q) mu))), v6', some (.ownD (dkS (underOf ws un'))), v8'], e.W⟩ ∧ un'.length ≤ i + 1 ∧ (∀ p ∈ un', 1 ≤ p.1 ∧ p.1 < 1 + (i + 1) ∧ p.2 < p.1) ∧ (un'.map (·.1)).Pairwise (· < ·) ∧ (flat = true → un' = []) :=
            ⟨_, _, un, rfl, by omega, fun p hp => by have := u1 p hp; omega, u2, u3⟩
          refine iteB_by (fun c => ?_) (fun c => ?_)
          · walk_at "d"
            refine iteB_by (fun cf => ?_) (fun cf => ?_)
            · walk_at "d"
              rw [ixw (i := r.toNat) (by omega) (by omega)]
              walk_at "d"
              rw [ixw (i := 1 + i) (by omega) (by omega)]
              walk_at "d"
              have nin : ws.getD (1 + i) "" ∉ ((underOf ws un).map (·.1)) := fun z => by
                rw [underOf, List.map_map] at z
                obtain ⟨p, hp, e⟩ := List.mem_map.mp z
                have h1 := u1 p hp
                have := ws_inj hw.nodup (show p.1 < ws.length by omega) (show 1 + i < ws.length by omega) e
                omega
              rw [put_dkS nin, show underOf ws un ++ [(ws.getD (1 + i) "", ws.getD r.toNat "")] = underOf ws (un ++ [(1 + i, r.toNat)]) by simp [underOf]]
              refine ⟨by simp [dkS, underOf]; omega, _, _, un ++ [(1 + i, r.toNat)], rfl, by simp; omega, fun p hp => ?_, ?_, fun z => by rw [cf] at z; cases z⟩
              · rcases List.mem_append.mp hp with hp | hp
                · have := u1 p hp; omega
                · rw [List.mem_singleton.mp hp]
                  refine ⟨?_, ?_, ?_⟩ <;> dsimp only <;> omega
              · rw [List.map_append, List.pairwise_append]
                refine ⟨u2, by simp, fun x hx y hy => ?_⟩
                obtain ⟨p, hp, rfl⟩ := List.mem_map.mp hx
                have := u1 p hp
                have hy : y = 1 + i := by simpa using hy
                rw [hy]
                exact this.2.1
            · walk_at "d"
              exact skip
          · walk_at "d"
            exact skip
        · rintro S ⟨v6, v8, un, rfl, ul, u1, u2, u3⟩
          walk_at "d"
          exact k ws (2 + q) mu un ⟨hw, by omega, by omega, by omega, hmm, fun p hp => by have := u1 p hp; omega, u2, u3⟩

/-! ### forms of a stock -/
/-- shapes whose first two words are bases -/
structure Shp (ss : List (Str × Str)) : Prop where
  nd : (ss.map (·.1)).Nodup
  two : ∃ (a b : Str) (r : List (Str × Str)), ss = (a, ("" : Str)) :: (b, ("" : Str)) :: r
  few : ss.length ≤ 20
  small : ∀ p ∈ ss, p.2.length ≤ 3
inductive FormOf (ss : List (Str × Str)) (L : Str) : Nat → D → Prop
  | letter {n c : Nat} (h : c ∈ L.cps.toList) : FormOf ss L n (.str ⟨#[c]⟩)
  | node {n : Nat} {w m : Str} {ds : List D} (h : lkS ss w = some m) (hl : ds.length = m.length) (h0 : 0 < m.length → 0 < n) (hd : ∀ d ∈ ds, FormOf ss L (n - 1) d) : FormOf ss L n (.tup (.str w :: ds))
theorem keys_dkS (ss : List (Str × Str)) : ((dkS ss).map fun p => keyV p.1) = ss.map fun p => D.str p.1 := by
  unfold dkS
  rw [List.map_map]; rfl
theorem lkS_get {ss : List (Str × Str)} (hn : (ss.map (·.1)).Nodup) {i : Nat} {p : Str × Str} (h : ss[i]? = some p) : lkS ss p.1 = some p.2 := lkS_mem hn (List.mem_of_getElem? h)

abbrev s__law_form : Stmt := top 31
abbrev N__law_form : List Str := ["_law_tape_here", "_law_shapes", "_law_letters", "_law_depth", "_law_words_here", "_law_word", "_law_mark"]
abbrev P__law_form : List Str := ["_law_tape_here", "_law_shapes", "_law_letters", "_law_depth"]
theorem sc__law_form : FnScope N__law_form P__law_form (defScope s__law_form) := ⟨rfl, rfl, rfl, by decide +kernel, rfl, by decide +kernel, by decide +kernel⟩
def F_form (n : Nat) : FSpec := fun ds W Q _ => ∃ (ss : List (Str × Str)) (L : Str), ds = [.tape, .dct (dkS ss), .str L, .int n] ∧ Shp ss ∧ L.length ≤ 1000 ∧ ∀ d, FormOf ss L n d → Q d W
theorem str_pos {L : Str} (h : ¬ L = Str.ofString "") : 0 < L.length := Nat.pos_of_ne_zero fun z => h (by
  cases L with
  | mk a =>
    have : a = #[] := Array.eq_empty_of_size_eq_zero z
    rw [this]; rfl)
theorem signs_len (x : Str) : (signs x).length = x.length := by simp [signs]; rfl
theorem form_step (F : Fz K mg "_law_form" s__law_form P__law_form) (T : Txt K mg) (G__law_take : Fx P w K mg base (L2.CX P w) "_law_take" 1 P__law_take (lift K F_take)) (n : Nat) {Fs : FSpec} (G__law_form : Fx P w K mg base (L2.CX P w) "_law_form" (n + 2) P__law_form (lift K Fs)) (hG : ∀ m, n = m + 1 → ∀ ds W Q E, F_form m ds W Q E → Fs ds W Q E) : Fx P w K mg base (L2.CX P w) "_law_form" (n + 3) P__law_form (lift K (F_form n)) := by
  refine F.okD sc__law_form (fun ds W Q E h => ?_) (fun f cdv A outer s H E e ds Qd Ed hr lk h => ?_)
  · obtain ⟨ss, L, rfl, _⟩ := h
    rfl
  · obtain ⟨ss, L, rfl, hs, hL, k⟩ := h
    refine ⟨_, _, (pss_cons (ps_setLc (i := 4) (own := [("_law_word", 5)]) (g := (gName 5)) (tt := tYes) rfl sc__law_form.nd rfl rfl (sw_true rfl rfl rfl (by decide +kernel)) (pi_any K (pv 1)) (blkOk_by (own := [("_law_word", 5)]) (N := N__law_form) (sc := defScope s__law_form) (by decide +kernel)) (fun _ _ _ _ _ => (pg_name (i := 5) sc__law_form.nd rfl (by first | exact Or.inl rfl | exact Or.inr rfl))) (fun _ _ _ _ _ => pts_nil) (fun _ _ _ _ _ => (pv 5)))
      (pss_cons (ps_if (PW.pt (pw_and (pt_cmpR (op_neU K hr.units) (pv 2) pe_str (nomark _)) (pw_and1 (pt_cmpR (op_eqU K hr.units) (fcallX (takes_of rfl rfl rfl rfl) G__law_take (hr.mono (by first | decide | omega)) (by rfl) (pa_cons (pv 0) (pa_cons pe_int pa_nil))) pe_int (nomark _))))) (pss_one (ps_ret (pe_ix (ix_U K (hu_of hr)) (pv 2) (fcallX (takes_of rfl rfl rfl rfl) G__law_take (hr.mono (by first | decide | omega)) (by rfl) (pa_cons (pv 0) (pa_cons (pe_callB (call_lenU K) (by rfl) T.b_len PySem.boot_len (pa_cons (pv 2) pa_nil)) pa_nil))) (fun _ _ => rfl)))) pss_nil)
      (pss_cons (ps_set (i := 5) sc__law_form.nd rfl (Or.inl rfl) (pe_ix (ix_U K (hu_of hr)) (pv 4) (fcallX (takes_of rfl rfl rfl rfl) G__law_take (hr.mono (by first | decide | omega)) (by rfl) (pa_cons (pv 0) (pa_cons (pe_callB (call_lenU K) (by rfl) T.b_len PySem.boot_len (pa_cons (pv 4) pa_nil)) pa_nil))) (fun _ _ => rfl)))
      (pss_cons (ps_if (pt_cmpR (op_eqU K hr.units) (pv 3) pe_int (nomark _)) (pss_one (ps_set (i := 5) sc__law_form.nd rfl (Or.inl rfl) (pe_ix (ix_U K (hu_of hr)) (pv 4) (fcallX (takes_of rfl rfl rfl rfl) G__law_take (hr.mono (by first | decide | omega)) (by rfl) (pa_cons (pv 0) (pa_cons pe_int pa_nil))) (fun _ _ => rfl)))) pss_nil)
      (pss_one (ps_ret (pe_op (op_addU K) (pe_tup (pa_cons (pv 5) pa_nil)) (pe_callTy (call_tuple_ofK K) (by rfl) T.b_tuple (by decide +kernel) (pa_cons (pe_lc (own := [("_law_mark", 6)]) (g := (gName 6)) (tt := tYes) rfl sc__law_form.nd (pi_any K (pe_ix (ix_U K (hu_of hr)) (pv 1) (pv 5) (fun _ _ => rfl))) (blkOk_by (own := [("_law_mark", 6)]) (N := N__law_form) (sc := defScope s__law_form) (by decide +kernel)) (fun _ _ _ _ _ => (pg_name (i := 6) sc__law_form.nd rfl (by first | exact Or.inl rfl | exact Or.inr rfl))) (fun _ _ _ _ _ => pts_nil) (fun _ _ _ _ _ => (fcallX takes0 G__law_form (hr.mono (by first | decide | omega)) (by rfl) (pa_cons (pv 0) (pa_cons (pv 1) (pa_cons (pv 2) (pa_cons (pe_op op_subU (pv 3) pe_int) pa_nil))))))) pa_nil))))))))), inferInstance, ?_⟩
    obtain ⟨a, b, r, hab⟩ := hs.two
    walk_at "d"
    rw [keys_dkS]
    refine comp_map _ (fun p => D.str p.1) ss (by have := hs.few; simp; omega) (fun p hp N M hn => ?_) ?_
    · walk_at "d"
      exact hn
    walk_at "d"
    refine iteB_by (fun c => ?a) (fun c => ?b)
    case' a =>
      walk_at "d"
      refine ⟨2, rfl, by decide, fun r r0 r1 => ?_⟩
      walk_at "d"
      refine iteB_by (fun c2 => ?a1) (fun c2 => ?a2)
    case a1 =>
      walk_at "d"
      refine ⟨by omega, _, rfl, ?_, fun q q0 q1 => ?_⟩
      · have := str_pos c
        omega
      obtain ⟨ch, hc⟩ : ∃ ch, L.cps.toList[q.toNat]? = some ch := ⟨_, List.getElem?_eq_getElem (by have : L.cps.toList.length = L.length := rfl; omega)⟩
      walk_at "d"
      refine ⟨by omega, ?_⟩
      rw [at_get (j := q.toNat) (by omega) hc]
      walk_at "d"
      exact k _ (.letter (List.mem_of_getElem? hc))
    all_goals
      walk_at "d"
      refine ⟨_, rfl, by rw [List.length_map, hab]; simp; omega, fun q q0 q1 => ?_⟩
      rw [List.length_map] at q1
      obtain ⟨p, hp⟩ : ∃ p, ss[q.toNat]? = some p := ⟨_, List.getElem?_eq_getElem (by omega)⟩
      walk_at "d"
      rw [at_get (j := q.toNat) (by omega) (show (ss.map fun p => D.str p.1)[q.toNat]? = some (D.str p.1) by rw [List.getElem?_map, hp]; rfl)]
      walk_at "d"
      refine iteB_by (fun c3 => ?_) (fun c3 => ?_)
      walk_at "d"
      refine ⟨2, rfl, by decide, fun t t0 t1 => ?_⟩
      obtain ⟨p, hp, h0⟩ : ∃ p : Str × Str, ss[t.toNat]? = some p ∧ p.2.length = 0 := by
        rw [hab]
        rcases (show t.toNat = 0 ∨ t.toNat = 1 by omega) with z | z <;> rw [z]
        · exact ⟨_, rfl, rfl⟩
        · exact ⟨_, rfl, rfl⟩
      walk_at "d"
      rw [at_get (j := t.toNat) (by omega) (show (ss.map fun p => D.str p.1)[t.toNat]? = some (D.str p.1) by rw [List.getElem?_map, hp]; rfl)]
      have ok : 0 < p.2.length → 0 < n := fun z => by omega
      rotate_left
      have ok : 0 < p.2.length → 0 < n := fun z => by omega
      all_goals
        walk_at "d"
        rw [look_dkS, lkS_get hs.nd hp]
        walk_at "d"
        have hsm := hs.small p (List.mem_of_getElem? hp)
        refine comp_relL (fun _ d => FormOf ss L (n - 1) d) (by rw [signs_len]; simp; omega) (fun x hx N M hn => ?_) (fun ys hy => ?_)
        · walk_at "d"
          have : 0 < p.2.length := by rw [← signs_len]; exact List.length_pos_of_mem hx
          refine hG (n - 1) (by have := ok this; omega) _ _ _ _ ⟨ss, L, ?_, hs, hL, fun d hd => ?_⟩
          · have := ok this
            rw [show ((n - 1 : Nat) : Int) = (n : Int) - 1 by omega]
          · walk_at "d"
            exact hn d hd
        · have hl := hy.len
          rw [signs_len] at hl
          walk_at "d"
          exact ⟨by omega, k _ (.node (lkS_get hs.nd hp) hl.symm ok (All2.mem (Q := fun d => FormOf ss L (n - 1) d) (fun _ _ z => z) hy))⟩
theorem ok__law_form (F : Fz K mg "_law_form" s__law_form P__law_form) (T : Txt K mg) (G : Fx P w K mg base (L2.CX P w) "_law_take" 1 P__law_take (lift K F_take)) : ∀ n : Nat, Fx P w K mg base (L2.CX P w) "_law_form" (n + 3) P__law_form (lift K (F_form n))
  | 0 => form_step F T G 0 (Fs := fun _ _ _ _ => False) (F.noneD fun _ _ _ _ z => z) (fun m z => by omega)
  | n + 1 => form_step F T G (n + 1) (ok__law_form F T G n) (fun m z => by
      have : m = n := by omega
      subst this
      exact fun _ _ _ _ h => h)

end Kn

set_option synthInstance.maxHeartbeats 0
set_option synthInstance.maxSize 100000
set_option Elab.async false
set_option maxRecDepth 100000
set_option linter.all false
namespace Kn
open PySem L2
local macro_rules | `(tactic| walk_at "wk") => `(tactic| repeat (first
  | refine ⟨_, rfl, ?_⟩
  | refine ⟨_, _, rfl, rfl, ?_⟩
  | refine ⟨⟨by decide, by decide⟩, ?_⟩
  | refine ⟨(by show (0 : Int) < _; decide), ?_⟩
  | refine ⟨Or.inl ⟨by omega, by omega⟩, ?_⟩
  | refine Or.inl ⟨_, rfl, ?_⟩
  | fail))
local macro_rules | `(tactic| walk_at "lits") => `(tactic| repeat (first
  | exact lit_nil
  | exact lit_str
  | exact lit_int
  | exact lit_non
  | refine lit_cons ?_ ?_
  | refine lit_tup ?_
  | fail))
local macro_rules | `(tactic| walk_at "d") => `(tactic| simp only [↓u_tdC, ↓u_tdOp, ↓u_tdNil, ↓u_tdCons, ↓u_tdTup, ↓u_tnLst, ↓u_tdFrz, ↓u_tdFrzK, ↓u_tkNew, ↓u_tdTest, ↓u_tdAnd, ↓u_tdOr, ↓u_tdNot, ↓u_tdYes, ↓u_tdAndV, ↓u_tdOrV, ↓u_tdNotV, ↓u_tdIf, ↓u_tdCB, ↓u_tnCB, ↓u_tnAdd, ↓u_tdNoPart, ↓u_tdPart, ↓u_tdSl, ↓u_tnSl, ↓u_tdRevT, ↓u_tnRevL, ↓u_tdIsiT, ↓u_tdNext, ↓u_tdSeq, ↓u_tdBreak, ↓u_tdCont, ↓u_tdDrop, ↓u_tdRet, ↓u_tdRetN, ↓u_tdRetO, ↓u_tdIfS, ↓u_gdName, ↓u_gdNil, ↓u_gdCons, ↓u_gdTup, ↓u_tdAsg, ↓u_tdAsgN, ↓u_tdAsgK, ↓u_tiAny, ↓u_tiRng1, ↓u_tiRng2, ↓u_tdFor, ↓u_tnLc, ↓u_tdCall, ↓u_tnCall, ↓u_tdRaise, ↓u_tdApp, ↓u_tdDPut, ↓u_tkDict, ↓u_tdAsgR, ↓u_tdForR, ↓u_tdFldC, ↓u_tdSetC, ↓u_tdMeth, ↓u_tdProp, ↓u_tdMakeR, ↓u_tdMakeF, ↓u_tdRaiseS, ↓u_tdTryAs, ↓u_tdTryN, ↓u_tdXf, ↓u_tdJoin, ↓u_tnSplit, ↓u_tdPartn, ↓u_tdFmt, ↓u_tdJoined, ↓u_tkDisp, ↓u_tdShK, ↓u_tdClear, ↓u_tdOGet, ↓u_tdOSet, ↓u_tdOIn, ↓u_tdNeg, ↓u_tdForO, ↓u_tnLcO, ↓u_tnLcR, ↓u_tdGet2, ↓u_tdPopAt, ↓u_tdRg1, ↓u_tdTupRg, ↓u_tnLstRg, ↓u_tdForW, ↓u_tdAugO, ↓u_tdLPut, ↓u_tdFmtW, ↓u_tdMethK, ↓u_tdChain, ↓u_tnLc2, ↓u_tdIndex, ↓u_addF_i, ↓u_addF_s, ↓u_addF_t, ↓u_addF_l, ↓u_iiF, ↓u_mulF_i, ↓u_mulF_s, ↓u_inF_l, ↓u_inF_t, ↓u_inF_s, ↓u_inF_ds, ↓u_inF_di, ↓u_ixF_l, ↓u_ixF_t, ↓u_ixF_s, ↓u_ixF_di, ↓u_ixF_ds, ↓u_slF_l, ↓u_slF_t, ↓u_slF_s, ↓u_lenF_l, ↓u_lenF_t, ↓u_lenF_s, ↓u_lenF_d, ↓u_isiF, ↓u_isiD, ↓u_tupF_l, ↓u_tupF_t, ↓u_lstF_l, ↓u_lstF_t, ↓u_allF, ↓u_anyF, ↓u_sumF, ↓u_sortF, ↓u_intF_i, ↓u_intF_b, ↓u_strF, ↓u_walkF_l, ↓u_walkF_t, ↓u_walkF_s, ↓u_walkF_d, ↓u_arg1, ↓u_arg2, ↓u_frcL_n, ↓u_frcL_c, ↓u_addD, ↓u_iiD, ↓u_mulD, ↓u_eqD_f, ↓u_eqD_t, ↓u_inD_f, ↓u_inD_t, ↓u_ixD, ↓u_dd2, ↓u_isND_f, ↓u_isND_t, ↓u_fldF, ↓u_recF, ↓u_ofC, ↓u_isBD, ↓u_isBF_f, ↓u_isBF_t, ↓u_turnD, ↓u_isoD, ↓u_isoF_o, ↓u_isoF_n, ↓u_asD, ↓u_binOD, ↓u_idxF, ↓u_minF, ↓u_maxF, ↓u_turnD2, ↓u_mm2D, ↓u_lputF, ↓u_fmtWF_s, ↓u_fmtWF_i, ↓u_inTD_f, ↓u_inTD_t, ↓u_inTF, ↓u_refV, ↓u_getF, ↓u_popF, ↓u_dctW, ↓u_tvVar, ↓u_tvFld, ↓u_refD, ↓u_ownW, ↓u_valV1, ↓u_mergeD_n, ↓u_mergeD_c, ↓u_eqKD, ↓u_eqKF_f, ↓u_eqKF_t, ↓u_asS, ↓u_joinF_l, ↓u_joinF_t, ↓u_fmtF_s, ↓u_fmtF_i, ↓u_excF, ↓u_clsV_r, ↓u_clsV_t, ↓u_isYD, ↓b_Call, ↓b_CallN, ↓b_opt, ↓b_dd1, ↓b_asB, ↓b_asI, ↓b_frc, ↓b_for, ↓b_comp, ↓b_ite, ↓b_while, ↓b_var, ↓b_aug, ↓b_mutL, ↓b_mutD, ↓b_retV, ↓b_deref, ↓b_dd1own, ↓b_mutO, ↓b_mutDO, ↓b_frcO, ↓b_comp2, ↓b_compR, ↓b_forL, ↓b_compL, ↓b_dctC, ↓b_ref, ↓b_forR, ↓b_insF, ↓b_insC, ↓b_exB, ↓o_opt, ↓o_asB, ↓o_asI, ↓o_non, ↓o_bl, ↓o_int, ↓o_str, ↓o_ty, ↓o_tup, ↓o_lst, ↓o_dct, ↓o_obj, ↓o_varV, ↓o_varL, ↓o_varD, ↓o_frc, ↓o_augI, ↓o_augS, ↓o_augL, ↓o_retV, ↓o_iteT, ↓o_iteF, ↓o_derefL, ↓o_derefD, ↓o_mutO, ↓o_mutDO, ↓o_frcL, ↓o_frcD, ↓o_frcV, ↓o_dctC, ↓o_ref, ↓o_derefR, ↓o_dd1R, ↓o_mutR, ↓o_derefK, ↓o_dd1K, ↓o_mutK, ↓o_putT, ↓o_insF, ↓o_insC, ↓o_derefI, ↓o_dd1I, ↓o_putS, ↓o_putP, look_c, look_n, putFd_c, putFd_n, ofS_eq, ↓reduceIte, eq_self, List.foldr_cons, List.foldr_nil, DEnds.un, PSt.unset, List.zip_cons_cons, List.zip_nil_left, List.zip_nil_right, List.reverse_cons, List.reverse_nil, exL, exK, exC, tysOf, tyN, isB, tyOk, isNn, PSt.set, S0, PSt.wipe, wipeR,
  List.map_cons, List.map_nil, List.length_cons, List.length_nil, List.replicate_succ, List.replicate_zero, List.cons_append, List.nil_append, List.set_cons_zero, List.set_cons_succ, List.getElem?_cons_zero, List.getElem?_cons_succ, List.getElem?_nil,
  Bool.not_true, Bool.not_false, bq_t, bq_f, Bool.not_not, Bool.false_eq_true, true_and, and_true, Nat.reduceAdd, Nat.reduceSub, Nat.reduceLeDiff, String.reduceEq, decide_true, decide_false, Bool.true_or, Bool.false_or, Bool.true_and, Bool.false_and, Bool.or_true, Bool.or_false, Bool.and_true, Bool.and_false, decide_eq_true_eq, List.mem_cons, List.not_mem_nil, or_true, true_or, or_false, false_or, List.any_cons, List.any_nil, List.all_cons, List.all_nil, Option.map_some, Option.map_none, Option.isSome_some, Option.isSome_none, eqOk_ii, eqOk_ss, eqOk_bb, eqOk_nn, eqOk_ns, eqOk_sn, eqOk_ni, eqOk_in, eqOk_si, eqOk_is, D.int.injEq, D.str.injEq, D.bl.injEq, reduceCtorEq, keyD, atI_0, atI_1, atI_2, atI_3, atI_4, cut1, ne_eq, not_true_eq_false, not_false_eq_true, Bool.not_eq_true', Bool.not_eq_false', decide_eq_false_iff_not])
local macro_rules | `(tactic| walk_at "z") => `(tactic| first
  | (apply z_seq; (focus walk_at "z"); (focus walk_at "z"))
  | (apply z_try; (focus (intro _ _ _; walk_at "z")); (focus (intro _ _ _; walk_at "z")); (focus walk_at "z"))
  | (apply z_tryN; (focus (intro _ _ _; walk_at "z")); (focus walk_at "z"); (focus walk_at "z"))
  | (apply z_cl; (focus (intro _ _ _; walk_at "z")); (focus walk_at "z"))
  | exact inferInstance
  | (apply z_if; (focus walk_at "z"); (focus walk_at "z"); (focus walk_at "z"))
  | (apply z_while; (focus walk_at "z"); (focus walk_at "z"))
  | (apply z_for; (focus walk_at "z"); (focus walk_at "z"); (focus walk_at "z")))
variable {P : Program} {w : World} {K : PySem.W.Frag} {mg : Str → Option Value} {base : Heap}
abbrev s_fits_shapes : Stmt := top 14
abbrev N_fits_shapes : List Str := ["shapes", "pattern", "part"]
abbrev P_fits_shapes : List Str := ["shapes", "pattern"]
theorem sc_fits_shapes : FnScope N_fits_shapes P_fits_shapes (defScope s_fits_shapes) := ⟨rfl, rfl, rfl, by decide +kernel, rfl, by decide +kernel, by decide +kernel⟩
mutual
/-- a form that fits the shapes -/
def fitsD (ss : List (Str × Str)) : D → Bool
  | .str _ => true
  | .tup ds => match ds with
    | [] => false
    | d :: ds => fits0 ss d ds.length && fitsL ss ds
  | _ => false
def fitsL (ss : List (Str × Str)) : List D → Bool
  | [] => true
  | d :: ds => fitsD ss d && fitsL ss ds
def fits0 (ss : List (Str × Str)) : D → Nat → Bool
  | .str w, n => (match lkS ss w with
    | some m => decide (m.length = n)
    | none => false)
  | _, _ => false
end
theorem fitsL_all (ss : List (Str × Str)) : ∀ ds : List D, fitsL ss ds = ds.all (fitsD ss)
  | [] => by rw [fitsL]; rfl
  | d :: ds => by rw [fitsL, fitsL_all ss ds]; rfl
theorem lkS_in {x y : Str} : ∀ {l : List (Str × Str)}, lkS l x = some y → (x, y) ∈ l
  | [], h => by cases h
  | (a, b) :: l, h => by
      rw [lkS] at h
      split at h
      · rename_i c
        cases h
        subst c
        exact List.mem_cons_self
      · exact List.mem_cons_of_mem _ (lkS_in h)
def F_fits (n : Nat) : FSpec := fun ds W Q _ => ∃ (ss : List (Str × Str)) (d : D), ds = [.dct (dkS ss), d] ∧ (∀ p ∈ ss, p.2.length ≤ 1000) ∧ isFormD d = true ∧ fitD d = true ∧ dpD d < n ∧ Q (.bl (fitsD ss d)) W
theorem ok_fits_shapes (F : Fz K mg "fits_shapes" s_fits_shapes P_fits_shapes) (T : Txt K mg) (G_is_letter : Fx P w K mg base (L2.CX P w) "is_letter" 1 P_is_letter (lift K F_is_letter)) : ∀ n, Fx P w K mg base (L2.CX P w) "fits_shapes" (n + 2) P_fits_shapes (lift K (F_fits n))
  | 0 => F.noneD fun ds W Q E ⟨_, d, _, _, _, _, z, _⟩ => by omega
  | n + 1 => by
    have G_fits_shapes := ok_fits_shapes F T G_is_letter n
    refine F.okD sc_fits_shapes (fun ds W Q E h => ?_) (fun f cdv A outer s H E e ds Qd Ed hr lk h => ?_)
    · obtain ⟨ss, d, rfl, _⟩ := h
      rfl
    · obtain ⟨ss, d, rfl, hss, hfo, hf, hd, k⟩ := h
      refine ⟨_, _, (pss_cons (ps_if (pt_val (fcallX (takes_of rfl rfl rfl rfl) G_is_letter (hr.mono (by first | decide | omega)) (by rfl) (pa_cons (pv 1) pa_nil))) (pss_one (ps_ret pe_bl)) pss_nil)
      (pss_cons (ps_if (PW.pt (pw_or (pt_cmpR (op_notInU K (hu65_of hr)) (pe_ix (ix_U K (hu_of hr)) (pv 1) pe_int (fun _ _ => rfl)) (pv 0) (by rfl)) (pw_or1 (pt_cmpR (op_neU K hr.units) (pe_callB (call_lenU K) (by rfl) T.b_len PySem.boot_len (pa_cons (pe_ix (ix_U K (hu_of hr)) (pv 0) (pe_ix (ix_U K (hu_of hr)) (pv 1) pe_int (fun _ _ => rfl)) (fun _ _ => rfl)) pa_nil)) (pe_op op_subU (pe_callB (call_lenU K) (by rfl) T.b_len PySem.boot_len (pa_cons (pv 1) pa_nil)) pe_int) (nomark _))))) (pss_one (ps_ret pe_bl)) pss_nil)
      (pss_one (ps_ret (pe_callB (cr_allK K rfl) (by rfl) T.b_all (by decide +kernel) (pa_cons (pe_lc (own := [("part", 2)]) (g := (gName 2)) (tt := tYes) rfl sc_fits_shapes.nd (pi_any K (pe_slice (sl_U K) (pv 1) (po_some pe_int) po_none)) (blkOk_by (own := [("part", 2)]) (N := N_fits_shapes) (sc := defScope s_fits_shapes) (by decide +kernel)) (fun _ _ _ _ _ => (pg_name (i := 2) sc_fits_shapes.nd rfl (by first | exact Or.inl rfl | exact Or.inr rfl))) (fun _ _ _ _ _ => pts_nil) (fun _ _ _ _ _ => (fcallX takes0 G_fits_shapes (hr.mono (by first | decide | omega)) (by rfl) (pa_cons (pv 0) (pa_cons (pv 2) pa_nil))))) pa_nil)))))), inferInstance, ?_⟩
      walk_at "d"
      refine ⟨d, rfl, hf, ?_⟩
      cases d with
      | str x =>
        rw [isFormD] at hfo
        rw [isLetterD, hfo]
        walk_at "d"
        exact k
      | tup ds =>
        have e0 : isLetterD (.tup ds) = false := rfl
        rw [e0]
        cases ds with
        | nil => rw [isFormD] at hfo; cases hfo
        | cons d0 ds =>
          rw [isFormD, Bool.and_eq_true, Bool.and_eq_true] at hfo
          rw [fitD, Bool.and_eq_true, fitL, Bool.and_eq_true] at hf
          rw [dpD] at hd
          obtain ⟨⟨h3, hw⟩, hfs⟩ := hfo
          have h3 := of_decide_eq_true h3
          cases d0 with
          | str w0 =>
            rw [fitsD, fits0] at k
            walk_at "d"
            rw [look_dkS]
            cases hm : lkS ss w0 with
            | none =>
              rw [hm] at k
              refine iteB_T rfl ?_
              walk_at "d"
              exact k
            | some m =>
              have hml := hss _ (lkS_in hm)
              rw [hm] at k
              have k : Qd (.bl (decide (m.length = ds.length) && fitsL ss ds)) e.W := k
              refine iteB_F (by simp) ?_
              walk_at "d"
              rw [look_dkS, hm]
              walk_at "d"
              refine ⟨by dsimp only at hml; omega, ?_⟩
              refine iteB_by (fun c => ?_) (fun c => ?_)
              · walk_at "d"
                rw [show decide (m.length = ds.length) = false from decide_eq_false (by omega), Bool.false_and] at k
                exact k
              · walk_at "d"
                rw [show decide (m.length = ds.length) = true from decide_eq_true (by omega), Bool.true_and, fitsL_all] at k
                refine comp_lst (fun d => .bl (fitsD ss d)) (by simp; omega) (fun d hd' N M hn => ?_) ?_
                · walk_at "d"
                  refine ⟨ss, d, rfl, hss, ?_, fitL_mem hf.2.2 d hd', ?_, hn⟩
                  · rw [isFormsD_all] at hfs
                    exact List.all_eq_true.mp hfs d hd'
                  · have := dpL_mem (List.mem_cons_of_mem (D.str w0) hd')
                    omega
                · walk_at "d"
                  rw [bls_mapF]
                  walk_at "d"
                  rw [List.all_map]
                  exact k
          | _ => cases hw
      | _ => simp [isFormD] at hfo

end Kn

set_option synthInstance.maxHeartbeats 0
set_option synthInstance.maxSize 100000
set_option Elab.async false
set_option maxRecDepth 100000
set_option linter.all false
namespace Kn
open PySem L2
local macro_rules | `(tactic| walk_at "wk") => `(tactic| repeat (first
  | refine ⟨_, rfl, ?_⟩
  | refine ⟨_, _, rfl, rfl, ?_⟩
  | refine ⟨⟨by decide, by decide⟩, ?_⟩
  | refine ⟨(by show (0 : Int) < _; decide), ?_⟩
  | refine ⟨Or.inl ⟨by omega, by omega⟩, ?_⟩
  | refine Or.inl ⟨_, rfl, ?_⟩
  | fail))
local macro_rules | `(tactic| walk_at "lits") => `(tactic| repeat (first
  | exact lit_nil
  | exact lit_str
  | exact lit_int
  | exact lit_non
  | refine lit_cons ?_ ?_
  | refine lit_tup ?_
  | fail))
local macro_rules | `(tactic| walk_at "d") => `(tactic| simp only [↓u_tdC, ↓u_tdOp, ↓u_tdNil, ↓u_tdCons, ↓u_tdTup, ↓u_tnLst, ↓u_tdFrz, ↓u_tdFrzK, ↓u_tkNew, ↓u_tdTest, ↓u_tdAnd, ↓u_tdOr, ↓u_tdNot, ↓u_tdYes, ↓u_tdAndV, ↓u_tdOrV, ↓u_tdNotV, ↓u_tdIf, ↓u_tdCB, ↓u_tnCB, ↓u_tnAdd, ↓u_tdNoPart, ↓u_tdPart, ↓u_tdSl, ↓u_tnSl, ↓u_tdRevT, ↓u_tnRevL, ↓u_tdIsiT, ↓u_tdNext, ↓u_tdSeq, ↓u_tdBreak, ↓u_tdCont, ↓u_tdDrop, ↓u_tdRet, ↓u_tdRetN, ↓u_tdRetO, ↓u_tdIfS, ↓u_gdName, ↓u_gdNil, ↓u_gdCons, ↓u_gdTup, ↓u_tdAsg, ↓u_tdAsgN, ↓u_tdAsgK, ↓u_tiAny, ↓u_tiRng1, ↓u_tiRng2, ↓u_tdFor, ↓u_tnLc, ↓u_tdCall, ↓u_tnCall, ↓u_tdRaise, ↓u_tdApp, ↓u_tdDPut, ↓u_tkDict, ↓u_tdAsgR, ↓u_tdForR, ↓u_tdFldC, ↓u_tdSetC, ↓u_tdMeth, ↓u_tdProp, ↓u_tdMakeR, ↓u_tdMakeF, ↓u_tdRaiseS, ↓u_tdTryAs, ↓u_tdTryN, ↓u_tdXf, ↓u_tdJoin, ↓u_tnSplit, ↓u_tdPartn, ↓u_tdFmt, ↓u_tdJoined, ↓u_tkDisp, ↓u_tdShK, ↓u_tdClear, ↓u_tdOGet, ↓u_tdOSet, ↓u_tdOIn, ↓u_tdNeg, ↓u_tdForO, ↓u_tnLcO, ↓u_tnLcR, ↓u_tdGet2, ↓u_tdPopAt, ↓u_tdRg1, ↓u_tdTupRg, ↓u_tnLstRg, ↓u_tdForW, ↓u_tdAugO, ↓u_tdLPut, ↓u_tdFmtW, ↓u_tdMethK, ↓u_tdChain, ↓u_tnLc2, ↓u_tdIndex, ↓u_addF_i, ↓u_addF_s, ↓u_addF_t, ↓u_addF_l, ↓u_iiF, ↓u_mulF_i, ↓u_mulF_s, ↓u_inF_l, ↓u_inF_t, ↓u_inF_s, ↓u_inF_ds, ↓u_inF_di, ↓u_ixF_l, ↓u_ixF_t, ↓u_ixF_s, ↓u_ixF_di, ↓u_ixF_ds, ↓u_slF_l, ↓u_slF_t, ↓u_slF_s, ↓u_lenF_l, ↓u_lenF_t, ↓u_lenF_s, ↓u_lenF_d, ↓u_isiF, ↓u_isiD, ↓u_tupF_l, ↓u_tupF_t, ↓u_lstF_l, ↓u_lstF_t, ↓u_allF, ↓u_anyF, ↓u_sumF, ↓u_sortF, ↓u_intF_i, ↓u_intF_b, ↓u_strF, ↓u_walkF_l, ↓u_walkF_t, ↓u_walkF_s, ↓u_walkF_d, ↓u_arg1, ↓u_arg2, ↓u_frcL_n, ↓u_frcL_c, ↓u_addD, ↓u_iiD, ↓u_mulD, ↓u_eqD_f, ↓u_eqD_t, ↓u_inD_f, ↓u_inD_t, ↓u_ixD, ↓u_dd2, ↓u_isND_f, ↓u_isND_t, ↓u_fldF, ↓u_recF, ↓u_ofC, ↓u_isBD, ↓u_isBF_f, ↓u_isBF_t, ↓u_turnD, ↓u_isoD, ↓u_isoF_o, ↓u_isoF_n, ↓u_asD, ↓u_binOD, ↓u_idxF, ↓u_minF, ↓u_maxF, ↓u_turnD2, ↓u_mm2D, ↓u_lputF, ↓u_fmtWF_s, ↓u_fmtWF_i, ↓u_inTD_f, ↓u_inTD_t, ↓u_inTF, ↓u_refV, ↓u_getF, ↓u_popF, ↓u_dctW, ↓u_tvVar, ↓u_tvFld, ↓u_refD, ↓u_ownW, ↓u_valV1, ↓u_mergeD_n, ↓u_mergeD_c, ↓u_eqKD, ↓u_eqKF_f, ↓u_eqKF_t, ↓u_asS, ↓u_joinF_l, ↓u_joinF_t, ↓u_fmtF_s, ↓u_fmtF_i, ↓u_excF, ↓u_clsV_r, ↓u_clsV_t, ↓u_isYD, ↓b_Call, ↓b_CallN, ↓b_opt, ↓b_dd1, ↓b_asB, ↓b_asI, ↓b_frc, ↓b_for, ↓b_comp, ↓b_ite, ↓b_while, ↓b_var, ↓b_aug, ↓b_mutL, ↓b_mutD, ↓b_retV, ↓b_deref, ↓b_dd1own, ↓b_mutO, ↓b_mutDO, ↓b_frcO, ↓b_comp2, ↓b_compR, ↓b_forL, ↓b_compL, ↓b_dctC, ↓b_ref, ↓b_forR, ↓b_insF, ↓b_insC, ↓b_exB, ↓o_opt, ↓o_asB, ↓o_asI, ↓o_non, ↓o_bl, ↓o_int, ↓o_str, ↓o_ty, ↓o_tup, ↓o_lst, ↓o_dct, ↓o_obj, ↓o_varV, ↓o_varL, ↓o_varD, ↓o_frc, ↓o_augI, ↓o_augS, ↓o_augL, ↓o_retV, ↓o_iteT, ↓o_iteF, ↓o_derefL, ↓o_derefD, ↓o_mutO, ↓o_mutDO, ↓o_frcL, ↓o_frcD, ↓o_frcV, ↓o_dctC, ↓o_ref, ↓o_derefR, ↓o_dd1R, ↓o_mutR, ↓o_derefK, ↓o_dd1K, ↓o_mutK, ↓o_putT, ↓o_insF, ↓o_insC, ↓o_derefI, ↓o_dd1I, ↓o_putS, ↓o_putP, look_c, look_n, putFd_c, putFd_n, ofS_eq, ↓reduceIte, eq_self, List.foldr_cons, List.foldr_nil, DEnds.un, PSt.unset, List.zip_cons_cons, List.zip_nil_left, List.zip_nil_right, List.reverse_cons, List.reverse_nil, exL, exK, exC, tysOf, tyN, isB, tyOk, isNn, PSt.set, S0, PSt.wipe, wipeR,
  List.map_cons, List.map_nil, List.length_cons, List.length_nil, List.replicate_succ, List.replicate_zero, List.cons_append, List.nil_append, List.set_cons_zero, List.set_cons_succ, List.getElem?_cons_zero, List.getElem?_cons_succ, List.getElem?_nil,
  Bool.not_true, Bool.not_false, bq_t, bq_f, Bool.not_not, Bool.false_eq_true, true_and, and_true, Nat.reduceAdd, Nat.reduceSub, Nat.reduceLeDiff, String.reduceEq, decide_true, decide_false, Bool.true_or, Bool.false_or, Bool.true_and, Bool.false_and, Bool.or_true, Bool.or_false, Bool.and_true, Bool.and_false, decide_eq_true_eq, List.mem_cons, List.not_mem_nil, or_true, true_or, or_false, false_or, List.any_cons, List.any_nil, List.all_cons, List.all_nil, Option.map_some, Option.map_none, Option.isSome_some, Option.isSome_none, eqOk_ii, eqOk_ss, eqOk_bb, eqOk_nn, eqOk_ns, eqOk_sn, eqOk_ni, eqOk_in, eqOk_si, eqOk_is, D.int.injEq, D.str.injEq, D.bl.injEq, reduceCtorEq, keyD, atI_0, atI_1, atI_2, atI_3, atI_4, cut1, ne_eq, not_true_eq_false, not_false_eq_true, Bool.not_eq_true', Bool.not_eq_false', decide_eq_false_iff_not])
local macro_rules | `(tactic| walk_at "z") => `(tactic| first
  | (apply z_seq; (focus walk_at "z"); (focus walk_at "z"))
  | (apply z_try; (focus (intro _ _ _; walk_at "z")); (focus (intro _ _ _; walk_at "z")); (focus walk_at "z"))
  | (apply z_tryN; (focus (intro _ _ _; walk_at "z")); (focus walk_at "z"); (focus walk_at "z"))
  | (apply z_cl; (focus (intro _ _ _; walk_at "z")); (focus walk_at "z"))
  | exact inferInstance
  | (apply z_if; (focus walk_at "z"); (focus walk_at "z"); (focus walk_at "z"))
  | (apply z_while; (focus walk_at "z"); (focus walk_at "z"))
  | (apply z_for; (focus walk_at "z"); (focus walk_at "z"); (focus walk_at "z")))
variable {P : Program} {w : World} {K : PySem.W.Frag} {mg : Str → Option Value} {base : Heap}
abbrev s_sound_shapes : Stmt := top 17
abbrev N_sound_shapes : List Str := ["shapes", "bases", "word", "marks", "mark"]
abbrev P_sound_shapes : List Str := ["shapes"]
theorem sc_sound_shapes : FnScope N_sound_shapes P_sound_shapes (defScope s_sound_shapes) := ⟨rfl, rfl, rfl, by decide +kernel, rfl, by decide +kernel, by decide +kernel⟩
def MARKSc : List Nat := [43, 45]
/-- the shapes of a stock -/
def soundS (ss : List (Str × Str)) : Bool := decide (2 ≤ ss.length) && decide (ss.length ≤ 12) && ss.all (fun p => isWord p.1 && decide (p.2.length ≤ 3) && p.2.cps.toList.all fun c => decide (c ∈ MARKSc)) && decide (2 ≤ (ss.filter fun p => decide (p.2 = Str.ofString "")).length)
theorem marks_c : (Str.ofString "+-").cps.toList = MARKSc := by decide +kernel
def F_soundS : FSpec := fun ds W Q _ => ∃ ss : List (Str × Str), ds = [.dct (dkS ss)] ∧ (ss.map (·.1)).Nodup ∧ ss.length ≤ 1000 ∧ (∀ p ∈ ss, p.1.length ≤ 1000 ∧ p.2.length ≤ 1000) ∧ Q (.bl (soundS ss)) W
theorem ok_sound_shapes (F : Fz K mg "sound_shapes" s_sound_shapes P_sound_shapes) (T : Txt K mg) (G_is_word : Fx P w K mg base (L2.CX P w) "is_word" 1 P_is_word (lift K F_is_word)) : Fx P w K mg base (L2.CX P w) "sound_shapes" 2 P_sound_shapes (lift K F_soundS) := by
  refine F.okD sc_sound_shapes (fun ds W Q E h => ?_) (fun f cdv A outer s H E e ds Qd Ed hr lk h => ?_)
  · obtain ⟨ss, rfl, _⟩ := h
    rfl
  · obtain ⟨ss, rfl, hn, hl, hs, k⟩ := h
    refine ⟨_, _, (pss_cons (ps_if (PW.pt (pw_or (pt_cmpR op_ltU (pe_callB (call_lenU K) (by rfl) T.b_len PySem.boot_len (pa_cons (pv 0) pa_nil)) pe_int (nomark _)) (pw_or1 (pt_cmpR op_gtU (pe_callB (call_lenU K) (by rfl) T.b_len PySem.boot_len (pa_cons (pv 0) pa_nil)) (pglob rfl T.c_MOST_WORDS) (nomark _))))) (pss_one (ps_ret pe_bl)) pss_nil)
      (pss_cons (ps_set (i := 1) sc_sound_shapes.nd rfl (Or.inl rfl) pe_int)
      (pss_cons (ps_for (passes_of rfl) rfl (pi_any K (pv 0)) (pg_name (i := 2) sc_sound_shapes.nd rfl (Or.inl rfl)) (pss_cons (ps_set (i := 3) sc_sound_shapes.nd rfl (Or.inl rfl) (pe_ix (ix_U K (hu_of hr)) (pv 0) (pv 2) (fun _ _ => rfl)))
      (pss_cons (ps_if (PW.pt (pw_or (pt_not (pt_val (fcallX (takes_of rfl rfl rfl rfl) G_is_word (hr.mono (by first | decide | omega)) (by rfl) (pa_cons (pv 2) pa_nil)))) (pw_or (pt_not (pt_val (pe_callB (call_isi1K K) (by rfl) T.b_isinstance (by decide +kernel) (pa_cons (pv 3) (pa_cons (pe_bltn (v := .ty "str") (by rfl) T.b_str (by decide +kernel) rfl) pa_nil))))) (pw_or1 (pt_cmpR op_gtU (pe_callB (call_lenU K) (by rfl) T.b_len PySem.boot_len (pa_cons (pv 3) pa_nil)) (pglob rfl T.c_MOST_PARTS) (nomark _)))))) (pss_one (ps_ret pe_bl)) pss_nil)
      (pss_cons (ps_if (pt_not (pt_val (pe_callB (cr_allK K rfl) (by rfl) T.b_all (by decide +kernel) (pa_cons (pe_lc (own := [("mark", 4)]) (g := (gName 4)) (tt := tYes) rfl sc_sound_shapes.nd (pi_any K (pv 3)) (blkOk_by (own := [("mark", 4)]) (N := N_sound_shapes) (sc := defScope s_sound_shapes) (by decide +kernel)) (fun _ _ _ _ _ => (pg_name (i := 4) sc_sound_shapes.nd rfl (by first | exact Or.inl rfl | exact Or.inr rfl))) (fun _ _ _ _ _ => pts_nil) (fun _ _ _ _ _ => (pe_cmpR (op_inU K (hu65_of hr)) (pv 4) pe_str (by rfl)))) pa_nil)))) (pss_one (ps_ret pe_bl)) pss_nil)
      (pss_one (ps_if (pt_cmpR (op_eqU K hr.units) (pv 3) pe_str (nomark _)) (pss_one (ps_aug (i := 1) sc_sound_shapes.nd rfl (Or.inl rfl) pe_int ip_augU)) pss_nil))))))
      (pss_one (ps_ret (pe_cmpR op_geU (pv 1) pe_int (nomark _))))))), inferInstance, ?_⟩
    have hdl : (dkS ss).length = ss.length := by simp [dkS]
    walk_at "d"
    refine iteB_by (fun c => ?_) (fun c => ?_)
    · walk_at "d"
      rw [soundS, decide_eq_false (show ¬ 2 ≤ ss.length by omega)] at k
      exact k
    · walk_at "d"
      refine iteB_by (fun c2 => ?_) (fun c2 => ?_)
      · walk_at "d"
        rw [soundS, decide_eq_false (show ¬ ss.length ≤ 12 by omega), Bool.and_false] at k
        exact k
      · walk_at "d"
        rw [keys_dkS]
        refine for_map (fun p : Str × Str => D.str p.1) ss (fun i S => ∃ v2 v3 v4, S = ⟨[some (.val (.dct (dkS ss))), some (.val (.int ((ss.take i).filter fun p => decide (p.2 = Str.ofString "")).length)), v2, v3, v4], e.W⟩ ∧ (ss.take i).all (fun p => isWord p.1 && decide (p.2.length ≤ 3) && p.2.cps.toList.all fun c => decide (c ∈ MARKSc)) = true) ⟨_, _, _, rfl, rfl⟩ ?_ ?_
        · rintro i p S hp ⟨v2, v3, v4, rfl, ha⟩
          walk_at "d"
          rw [look_dkS, lkS_get hn hp]
          walk_at "d"
          have hpm := hs p (List.mem_of_getElem? hp)
          have bad : (isWord p.1 && decide (p.2.length ≤ 3) && p.2.cps.toList.all fun c => decide (c ∈ MARKSc)) = false → Qd (.bl false) e.W := fun z => by
            have : (ss.all fun p => isWord p.1 && decide (p.2.length ≤ 3) && p.2.cps.toList.all fun c => decide (c ∈ MARKSc)) = false := by
              rw [← Bool.not_eq_true, List.all_eq_true]
              exact fun h => by rw [h p (List.mem_of_getElem? hp)] at z; cases z
            rw [soundS, this, Bool.and_false, Bool.false_and] at k
            exact k
          refine ⟨_, rfl, by rw [fitD]; exact decide_eq_true hpm.1, ?_⟩
          rw [isWordD]
          cases hw : isWord p.1 with
          | false =>
            walk_at "d"
            exact bad (by rw [hw]; rfl)
          | true =>
            walk_at "d"
            refine ⟨by omega, ?_⟩
            refine iteB_by (fun c3 => ?_) (fun c3 => ?_)
            · walk_at "d"
              exact bad (by rw [decide_eq_false (show ¬ p.2.length ≤ 3 by omega), Bool.and_false, Bool.false_and])
            · walk_at "d"
              refine comp_map (fun c => D.str ⟨#[c]⟩) (fun c => .bl (decide (c ∈ MARKSc))) p.2.cps.toList (by have : p.2.cps.toList.length = p.2.length := rfl; simp only [List.length_nil]; omega) (fun c hc N M hn' => ?_) ?_
              · walk_at "d"
                rw [strIn_sign, marks_c]
                exact hn'
              · walk_at "d"
                rw [bls_mapF]
                walk_at "d"
                rw [List.all_map]
                cases hc : p.2.cps.toList.all fun c => decide (c ∈ MARKSc) with
                | false =>
                  refine iteB_T (by exact hc) ?_
                  walk_at "d"
                  exact bad (by rw [hc, Bool.and_false])
                | true =>
                  refine iteB_F (by rw [show (p.2.cps.toList.all (id ∘ fun c => decide (c ∈ MARKSc))) = true from hc]; simp) ?_
                  walk_at "d"
                  have hnx : (ss.take (i + 1)).all (fun p => isWord p.1 && decide (p.2.length ≤ 3) && p.2.cps.toList.all fun c => decide (c ∈ MARKSc)) = true := by
                    rw [take_succ_get hp, List.all_append, ha, List.all_cons, List.all_nil, hw, hc, decide_eq_true (show p.2.length ≤ 3 by omega)]
                    rfl
                  refine iteB_by (fun c4 => ?_) (fun c4 => ?_)
                  · have hq : (((ss.take (i + 1)).filter fun p => decide (p.2 = Str.ofString "")).length : Int) = (((ss.take i).filter fun p => decide (p.2 = Str.ofString "")).length : Int) + 1 := by
                      rw [take_succ_get hp, List.filter_append, List.filter_cons_of_pos (by exact decide_eq_true c4), List.length_append]
                      rfl
                    walk_at "d"
                    rw [hq]
                    exact ⟨_, _, _, rfl, hnx⟩
                  · have hq : (((ss.take (i + 1)).filter fun p => decide (p.2 = Str.ofString "")).length : Int) = (((ss.take i).filter fun p => decide (p.2 = Str.ofString "")).length : Int) := by
                      rw [take_succ_get hp, List.filter_append, List.filter_cons_of_neg (by simpa using c4), List.filter_nil, List.append_nil]
                    walk_at "d"
                    rw [hq]
                    exact ⟨_, _, _, rfl, hnx⟩
        · rintro S ⟨v2, v3, v4, rfl, ha⟩
          rw [List.take_length] at ha ⊢
          walk_at "d"
          rw [soundS, ha, decide_eq_true (show 2 ≤ ss.length by omega), decide_eq_true (show ss.length ≤ 12 by omega), Bool.true_and, Bool.true_and, Bool.true_and] at k
          rw [show decide ((2 : Int) ≤ ((ss.filter fun p => decide (p.2 = Str.ofString "")).length : Int)) = decide (2 ≤ (ss.filter fun p => decide (p.2 = Str.ofString "")).length) from decide_eq_decide.mpr (by omega)]
          exact k

end Kn

set_option synthInstance.maxHeartbeats 0
set_option synthInstance.maxSize 100000
set_option Elab.async false
set_option maxRecDepth 100000
set_option linter.all false
namespace Kn
open PySem L2
local macro_rules | `(tactic| walk_at "wk") => `(tactic| repeat (first
  | refine ⟨_, rfl, ?_⟩
  | refine ⟨_, _, rfl, rfl, ?_⟩
  | refine ⟨⟨by decide, by decide⟩, ?_⟩
  | refine ⟨(by show (0 : Int) < _; decide), ?_⟩
  | refine ⟨Or.inl ⟨by omega, by omega⟩, ?_⟩
  | refine Or.inl ⟨_, rfl, ?_⟩
  | fail))
local macro_rules | `(tactic| walk_at "lits") => `(tactic| repeat (first
  | exact lit_nil
  | exact lit_str
  | exact lit_int
  | exact lit_non
  | refine lit_cons ?_ ?_
  | refine lit_tup ?_
  | fail))
local macro_rules | `(tactic| walk_at "d") => `(tactic| simp only [↓u_tdC, ↓u_tdOp, ↓u_tdNil, ↓u_tdCons, ↓u_tdTup, ↓u_tnLst, ↓u_tdFrz, ↓u_tdFrzK, ↓u_tkNew, ↓u_tdTest, ↓u_tdAnd, ↓u_tdOr, ↓u_tdNot, ↓u_tdYes, ↓u_tdAndV, ↓u_tdOrV, ↓u_tdNotV, ↓u_tdIf, ↓u_tdCB, ↓u_tnCB, ↓u_tnAdd, ↓u_tdNoPart, ↓u_tdPart, ↓u_tdSl, ↓u_tnSl, ↓u_tdRevT, ↓u_tnRevL, ↓u_tdIsiT, ↓u_tdNext, ↓u_tdSeq, ↓u_tdBreak, ↓u_tdCont, ↓u_tdDrop, ↓u_tdRet, ↓u_tdRetN, ↓u_tdRetO, ↓u_tdIfS, ↓u_gdName, ↓u_gdNil, ↓u_gdCons, ↓u_gdTup, ↓u_tdAsg, ↓u_tdAsgN, ↓u_tdAsgK, ↓u_tiAny, ↓u_tiRng1, ↓u_tiRng2, ↓u_tdFor, ↓u_tnLc, ↓u_tdCall, ↓u_tnCall, ↓u_tdRaise, ↓u_tdApp, ↓u_tdDPut, ↓u_tkDict, ↓u_tdAsgR, ↓u_tdForR, ↓u_tdFldC, ↓u_tdSetC, ↓u_tdMeth, ↓u_tdProp, ↓u_tdMakeR, ↓u_tdMakeF, ↓u_tdRaiseS, ↓u_tdTryAs, ↓u_tdTryN, ↓u_tdXf, ↓u_tdJoin, ↓u_tnSplit, ↓u_tdPartn, ↓u_tdFmt, ↓u_tdJoined, ↓u_tkDisp, ↓u_tdShK, ↓u_tdClear, ↓u_tdOGet, ↓u_tdOSet, ↓u_tdOIn, ↓u_tdNeg, ↓u_tdForO, ↓u_tnLcO, ↓u_tnLcR, ↓u_tdGet2, ↓u_tdPopAt, ↓u_tdRg1, ↓u_tdTupRg, ↓u_tnLstRg, ↓u_tdForW, ↓u_tdAugO, ↓u_tdLPut, ↓u_tdFmtW, ↓u_tdMethK, ↓u_tdChain, ↓u_tnLc2, ↓u_tdIndex, ↓u_addF_i, ↓u_addF_s, ↓u_addF_t, ↓u_addF_l, ↓u_iiF, ↓u_mulF_i, ↓u_mulF_s, ↓u_inF_l, ↓u_inF_t, ↓u_inF_s, ↓u_inF_ds, ↓u_inF_di, ↓u_ixF_l, ↓u_ixF_t, ↓u_ixF_s, ↓u_ixF_di, ↓u_ixF_ds, ↓u_slF_l, ↓u_slF_t, ↓u_slF_s, ↓u_lenF_l, ↓u_lenF_t, ↓u_lenF_s, ↓u_lenF_d, ↓u_isiF, ↓u_isiD, ↓u_tupF_l, ↓u_tupF_t, ↓u_lstF_l, ↓u_lstF_t, ↓u_allF, ↓u_anyF, ↓u_sumF, ↓u_sortF, ↓u_intF_i, ↓u_intF_b, ↓u_strF, ↓u_walkF_l, ↓u_walkF_t, ↓u_walkF_s, ↓u_walkF_d, ↓u_arg1, ↓u_arg2, ↓u_frcL_n, ↓u_frcL_c, ↓u_addD, ↓u_iiD, ↓u_mulD, ↓u_eqD_f, ↓u_eqD_t, ↓u_inD_f, ↓u_inD_t, ↓u_ixD, ↓u_dd2, ↓u_isND_f, ↓u_isND_t, ↓u_fldF, ↓u_recF, ↓u_ofC, ↓u_isBD, ↓u_isBF_f, ↓u_isBF_t, ↓u_turnD, ↓u_isoD, ↓u_isoF_o, ↓u_isoF_n, ↓u_asD, ↓u_binOD, ↓u_idxF, ↓u_minF, ↓u_maxF, ↓u_turnD2, ↓u_mm2D, ↓u_lputF, ↓u_fmtWF_s, ↓u_fmtWF_i, ↓u_inTD_f, ↓u_inTD_t, ↓u_inTF, ↓u_refV, ↓u_getF, ↓u_popF, ↓u_dctW, ↓u_tvVar, ↓u_tvFld, ↓u_refD, ↓u_ownW, ↓u_valV1, ↓u_mergeD_n, ↓u_mergeD_c, ↓u_eqKD, ↓u_eqKF_f, ↓u_eqKF_t, ↓u_asS, ↓u_joinF_l, ↓u_joinF_t, ↓u_fmtF_s, ↓u_fmtF_i, ↓u_excF, ↓u_clsV_r, ↓u_clsV_t, ↓u_isYD, ↓b_Call, ↓b_CallN, ↓b_opt, ↓b_dd1, ↓b_asB, ↓b_asI, ↓b_frc, ↓b_for, ↓b_comp, ↓b_ite, ↓b_while, ↓b_var, ↓b_aug, ↓b_mutL, ↓b_mutD, ↓b_retV, ↓b_deref, ↓b_dd1own, ↓b_mutO, ↓b_mutDO, ↓b_frcO, ↓b_comp2, ↓b_compR, ↓b_forL, ↓b_compL, ↓b_dctC, ↓b_ref, ↓b_forR, ↓b_insF, ↓b_insC, ↓b_exB, ↓o_opt, ↓o_asB, ↓o_asI, ↓o_non, ↓o_bl, ↓o_int, ↓o_str, ↓o_ty, ↓o_tup, ↓o_lst, ↓o_dct, ↓o_obj, ↓o_varV, ↓o_varL, ↓o_varD, ↓o_frc, ↓o_augI, ↓o_augS, ↓o_augL, ↓o_retV, ↓o_iteT, ↓o_iteF, ↓o_derefL, ↓o_derefD, ↓o_mutO, ↓o_mutDO, ↓o_frcL, ↓o_frcD, ↓o_frcV, ↓o_dctC, ↓o_ref, ↓o_derefR, ↓o_dd1R, ↓o_mutR, ↓o_derefK, ↓o_dd1K, ↓o_mutK, ↓o_putT, ↓o_insF, ↓o_insC, ↓o_derefI, ↓o_dd1I, ↓o_putS, ↓o_putP, look_c, look_n, putFd_c, putFd_n, ofS_eq, ↓reduceIte, eq_self, List.foldr_cons, List.foldr_nil, DEnds.un, PSt.unset, List.zip_cons_cons, List.zip_nil_left, List.zip_nil_right, List.reverse_cons, List.reverse_nil, exL, exK, exC, tysOf, tyN, isB, tyOk, isNn, PSt.set, S0, PSt.wipe, wipeR,
  List.map_cons, List.map_nil, List.length_cons, List.length_nil, List.replicate_succ, List.replicate_zero, List.cons_append, List.nil_append, List.set_cons_zero, List.set_cons_succ, List.getElem?_cons_zero, List.getElem?_cons_succ, List.getElem?_nil,
  Bool.not_true, Bool.not_false, bq_t, bq_f, Bool.not_not, Bool.false_eq_true, true_and, and_true, Nat.reduceAdd, Nat.reduceSub, Nat.reduceLeDiff, String.reduceEq, decide_true, decide_false, Bool.true_or, Bool.false_or, Bool.true_and, Bool.false_and, Bool.or_true, Bool.or_false, Bool.and_true, Bool.and_false, decide_eq_true_eq, List.mem_cons, List.not_mem_nil, or_true, true_or, or_false, false_or, List.any_cons, List.any_nil, List.all_cons, List.all_nil, Option.map_some, Option.map_none, Option.isSome_some, Option.isSome_none, eqOk_ii, eqOk_ss, eqOk_bb, eqOk_nn, eqOk_ns, eqOk_sn, eqOk_ni, eqOk_in, eqOk_si, eqOk_is, D.int.injEq, D.str.injEq, D.bl.injEq, reduceCtorEq, keyD, atI_0, atI_1, atI_2, atI_3, atI_4, cut1, ne_eq, not_true_eq_false, not_false_eq_true, Bool.not_eq_true', Bool.not_eq_false', decide_eq_false_iff_not])
local macro_rules | `(tactic| walk_at "z") => `(tactic| first
  | (apply z_seq; (focus walk_at "z"); (focus walk_at "z"))
  | (apply z_try; (focus (intro _ _ _; walk_at "z")); (focus (intro _ _ _; walk_at "z")); (focus walk_at "z"))
  | (apply z_tryN; (focus (intro _ _ _; walk_at "z")); (focus walk_at "z"); (focus walk_at "z"))
  | (apply z_cl; (focus (intro _ _ _; walk_at "z")); (focus walk_at "z"))
  | exact inferInstance
  | (apply z_if; (focus walk_at "z"); (focus walk_at "z"); (focus walk_at "z"))
  | (apply z_while; (focus walk_at "z"); (focus walk_at "z"))
  | (apply z_for; (focus walk_at "z"); (focus walk_at "z"); (focus walk_at "z")))
variable {P : Program} {w : World} {K : PySem.W.Frag} {mg : Str → Option Value} {base : Heap}
/-- the steps upwards, at most m -/
def stepsF (us : List (Str × Str)) : Nat → Str → Nat
  | 0, _ => 0
  | m + 1, x => match lkS us x with
    | none => 0
    | some y => stepsF us m y + 1
def leadsB (us : List (Str × Str)) : Bool := us.any fun p => decide (us.length < stepsF us (us.length + 1) p.1)
abbrev s_leads_back : Stmt := top 16
abbrev N_leads_back : List Str := ["above", "start", "at", "steps"]
abbrev P_leads_back : List Str := ["above"]
theorem sc_leads_back : FnScope N_leads_back P_leads_back (defScope s_leads_back) := ⟨rfl, rfl, rfl, by decide +kernel, rfl, by decide +kernel, by decide +kernel⟩
def F_leads : FSpec := fun ds W Q _ => ∃ us : List (Str × Str), ds = [.dct (dkS us)] ∧ us.length ≤ 1000 ∧ Q (.bl (leadsB us)) W
theorem while_by {c : TDT} {tb : TDS} {E : DEnds} {S : PSt} (I : Nat → PSt → Prop) (m : Nat) (h0 : I m S) (hs : ∀ m S, I m S → c S fun b S1 => if b = true then ∃ N : PSt → Prop, (∀ S', N S' → ∃ m', m' < m ∧ I m' S') ∧ tb ⟨N, E.rt, E.nx, N, E.rn⟩ S1 else E.nx S1) : @whileB S ⟨c⟩ ⟨tb⟩ ⟨E⟩ := ⟨I, ⟨m, h0⟩, hs⟩
theorem stepsF_le (us : List (Str × Str)) : ∀ (m : Nat) (x : Str), stepsF us m x ≤ m
  | 0, _ => Nat.le_refl _
  | m + 1, x => by
    rw [stepsF]
    split
    · exact Nat.zero_le _
    · have := stepsF_le us m; rename_i y _; have := this y; omega
theorem ok_leads_back (F : Fz K mg "leads_back" s_leads_back P_leads_back) (T : Txt K mg) : Fx P w K mg base (L2.CX P w) "leads_back" 1 P_leads_back (lift K F_leads) := by
  refine F.okD sc_leads_back (fun ds W Q E h => ?_) (fun f cdv A outer s H E e ds Qd Ed hr lk h => ?_)
  · obtain ⟨us, rfl, _⟩ := h
    rfl
  · obtain ⟨us, rfl, hl, k⟩ := h
    refine ⟨_, _, (pss_cons (ps_for (passes_of rfl) rfl (pi_any K (pv 0)) (pg_name (i := 1) sc_leads_back.nd rfl (Or.inl rfl)) (pss_cons (ps_set (i := 2) sc_leads_back.nd rfl (Or.inl rfl) (pv 1))
      (pss_cons (ps_set (i := 3) sc_leads_back.nd rfl (Or.inl rfl) pe_int)
      (pss_cons (ps_while (passes_of rfl) (PW.pt (pw_and (pt_cmpR (op_inU K (hu65_of hr)) (pv 2) (pv 0) (by rfl)) (pw_and1 (pt_cmpR op_leU (pv 3) (pe_callB (call_lenU K) (by rfl) T.b_len PySem.boot_len (pa_cons (pv 0) pa_nil)) (nomark _))))) (pss_cons (ps_set (i := 2) sc_leads_back.nd rfl (Or.inl rfl) (pe_ix (ix_U K (hu_of hr)) (pv 0) (pv 2) (fun _ _ => rfl)))
      (pss_one (ps_aug (i := 3) sc_leads_back.nd rfl (Or.inl rfl) pe_int ip_augU))))
      (pss_one (ps_if (pt_cmpR op_gtU (pv 3) (pe_callB (call_lenU K) (by rfl) T.b_len PySem.boot_len (pa_cons (pv 0) pa_nil)) (nomark _)) (pss_one (ps_ret pe_bl)) pss_nil))))))
      (pss_one (ps_ret pe_bl))), inferInstance, ?_⟩
    have hdl : (dkS us).length = us.length := by simp [dkS]
    walk_at "d"
    rw [keys_dkS]
    refine for_map (fun p : Str × Str => D.str p.1) us (fun i S => ∃ v1 v2 v3, S = ⟨[some (.val (.dct (dkS us))), v1, v2, v3], e.W⟩ ∧ (us.take i).any (fun p => decide (us.length < stepsF us (us.length + 1) p.1)) = false) ⟨_, _, _, rfl, rfl⟩ ?_ ?_
    · rintro i p S hp ⟨v1, v2, v3, rfl, ha⟩
      walk_at "d"
      refine while_by (fun m S => ∃ (x : Str) (j : Nat), S = ⟨[some (.val (.dct (dkS us))), some (.val (.str p.1)), some (.val (.str x)), some (.val (.int j))], e.W⟩ ∧ j + m = us.length + 1 ∧ stepsF us (us.length + 1) p.1 = j + stepsF us m x) (us.length + 1) ⟨p.1, 0, rfl, by omega, by omega⟩ ?_
      rintro m S ⟨x, j, rfl, hjm, hst⟩
      walk_at "d"
      rw [look_dkS]
      have fin : (lkS us x = none ∨ m = 0) → j = stepsF us (us.length + 1) p.1 := fun h => by
        rw [hst]
        rcases h with h | h
        · cases m with
          | zero => rfl
          | succ m => rw [stepsF, h]; rfl
        · subst h; rfl
      have ends : j = stepsF us (us.length + 1) p.1 → ∀ b : Bool, us.length < j → us.any (fun p => decide (us.length < stepsF us (us.length + 1) p.1)) = true := fun h _ c => by
        rw [List.any_eq_true]
        exact ⟨p, List.mem_of_getElem? hp, by rw [← h]; exact decide_eq_true c⟩
      have nxt : j = stepsF us (us.length + 1) p.1 → ¬ us.length < j → (us.take (i + 1)).any (fun p => decide (us.length < stepsF us (us.length + 1) p.1)) = false := fun h c => by
        rw [take_succ_get hp, List.any_append, ha, List.any_cons, List.any_nil, ← h, decide_eq_false c]; rfl
      cases hx : lkS us x with
      | none =>
        walk_at "d"
        refine iteB_by (fun c => ?_) (fun c => ?_)
        · walk_at "d"
          rw [leadsB, ends (fin (.inl hx)) true (by omega)] at k
          exact k
        · walk_at "d"
          exact ⟨_, _, _, rfl, nxt (fin (.inl hx)) (by omega)⟩
      | some y =>
        walk_at "d"
        refine iteB_by (fun c => ?_) (fun c => ?_)
        · walk_at "d"
          refine ⟨_, fun S' h => h, ?_⟩
          rw [look_dkS, hx]
          walk_at "d"
          obtain ⟨m, rfl⟩ : ∃ n, m = n + 1 := ⟨m - 1, by omega⟩
          refine ⟨m, by omega, y, j + 1, rfl, by omega, ?_⟩
          rw [hst, stepsF, hx]
          show j + (stepsF us m y + 1) = _
          omega
        · walk_at "d"
          refine iteB_by (fun c => ?_) (fun c => ?_)
          · walk_at "d"
            rw [leadsB, ends (fin (.inr (by omega))) true (by omega)] at k
            exact k
          · walk_at "d"
            exact ⟨_, _, _, rfl, nxt (fin (.inr (by omega))) (by omega)⟩
    · rintro S ⟨v1, v2, v3, rfl, ha⟩
      rw [List.take_length] at ha
      walk_at "d"
      rw [leadsB, ha] at k
      exact k

abbrev s_sound_order : Stmt := top 18
abbrev N_sound_order : List Str := ["shapes", "above", "low", "word"]
abbrev P_sound_order : List Str := ["shapes", "above"]
theorem sc_sound_order : FnScope N_sound_order P_sound_order (defScope s_sound_order) := ⟨rfl, rfl, rfl, by decide +kernel, rfl, by decide +kernel, by decide +kernel⟩
def NOMK : Str := Str.ofString ""
def soundO (ss us : List (Str × Str)) : Bool := (us.all fun p => decide (lkS ss p.1 = some NOMK) && decide (lkS ss p.2 = some NOMK)) && !leadsB us
def F_soundO : FSpec := fun ds W Q _ => ∃ ss us : List (Str × Str), ds = [.dct (dkS ss), .dct (dkS us)] ∧ (us.map (·.1)).Nodup ∧ us.length ≤ 1000 ∧ ss.length ≤ 1000 ∧ Q (.bl (soundO ss us)) W
theorem ok_sound_order (F : Fz K mg "sound_order" s_sound_order P_sound_order) (T : Txt K mg) (G_leads_back : Fx P w K mg base (L2.CX P w) "leads_back" 1 P_leads_back (lift K F_leads)) : Fx P w K mg base (L2.CX P w) "sound_order" 2 P_sound_order (lift K F_soundO) := by
  refine F.okD sc_sound_order (fun ds W Q E h => ?_) (fun f cdv A outer s H E e ds Qd Ed hr lk h => ?_)
  · obtain ⟨ss, us, rfl, _⟩ := h
    rfl
  · obtain ⟨ss, us, rfl, hn, hu, hs, k⟩ := h
    refine ⟨_, _, (pss_cons (ps_for (passes_of rfl) rfl (pi_any K (pv 1)) (pg_name (i := 2) sc_sound_order.nd rfl (Or.inl rfl)) (pss_one (ps_for (passes_of rfl) rfl (pi_any K (pe_tup (pa_cons (pv 2) (pa_cons (pe_ix (ix_U K (hu_of hr)) (pv 1) (pv 2) (fun _ _ => rfl)) pa_nil)))) (pg_name (i := 3) sc_sound_order.nd rfl (Or.inl rfl)) (pss_one (ps_if (PW.pt (pw_or (pt_cmpR (op_notInU K (hu65_of hr)) (pv 3) (pv 0) (by rfl)) (pw_or1 (pt_cmpR (op_neU K hr.units) (pe_ix (ix_U K (hu_of hr)) (pv 0) (pv 3) (fun _ _ => rfl)) pe_str (nomark _))))) (pss_one (ps_ret pe_bl)) pss_nil)))))
      (pss_one (ps_ret (pe_not (fcallX (takes_of rfl rfl rfl rfl) G_leads_back (hr.mono (by first | decide | omega)) (by rfl) (pa_cons (pv 1) pa_nil)))))), inferInstance, ?_⟩
    walk_at "d"
    rw [keys_dkS]
    refine for_map (fun p : Str × Str => D.str p.1) us (fun i S => ∃ v2 v3, S = ⟨[some (.val (.dct (dkS ss))), some (.val (.dct (dkS us))), v2, v3], e.W⟩ ∧ (us.take i).all (fun p => decide (lkS ss p.1 = some NOMK) && decide (lkS ss p.2 = some NOMK)) = true) ⟨_, _, rfl, rfl⟩ ?_ ?_
    · rintro i p S hp ⟨v2, v3, rfl, ha⟩
      walk_at "d"
      rw [look_dkS, lkS_get hn hp]
      walk_at "d"
      have bad : (decide (lkS ss p.1 = some NOMK) && decide (lkS ss p.2 = some NOMK)) = false → Qd (.bl false) e.W := fun z => by
        have : (us.all fun p => decide (lkS ss p.1 = some NOMK) && decide (lkS ss p.2 = some NOMK)) = false := by
          rw [← Bool.not_eq_true, List.all_eq_true]
          exact fun h => by rw [h p (List.mem_of_getElem? hp)] at z; cases z
        rw [soundO, this] at k
        exact k
      refine for_map (fun x : Str => D.str x) [p.1, p.2] (fun j S => ∃ v3, S = ⟨[some (.val (.dct (dkS ss))), some (.val (.dct (dkS us))), some (.val (.str p.1)), v3], e.W⟩ ∧ ∀ x ∈ [p.1, p.2].take j, lkS ss x = some NOMK) ⟨_, rfl, by simp⟩ ?_ ?_
      · rintro j x S hx ⟨v3, rfl, hj⟩
        have hxm := List.mem_of_getElem? hx
        have badx : lkS ss x ≠ some NOMK → Qd (.bl false) e.W := fun z => by
          refine bad ?_
          simp only [List.mem_cons, List.not_mem_nil, or_false] at hxm
          rcases hxm with rfl | rfl
          · rw [decide_eq_false z, Bool.false_and]
          · rw [decide_eq_false z, Bool.and_false]
        walk_at "d"
        rw [look_dkS]
        cases hxx : lkS ss x with
        | none =>
          walk_at "d"
          exact badx (by rw [hxx]; simp)
        | some y =>
          walk_at "d"
          rw [look_dkS, hxx]
          walk_at "d"
          refine iteB_by (fun c => ?_) (fun c => ?_)
          · walk_at "d"
            exact badx (by rw [hxx]; exact fun z => c (Option.some.inj z))
          · walk_at "d"
            refine ⟨_, rfl, fun z hz => ?_⟩
            rw [take_succ_get hx] at hz
            rcases List.mem_append.mp hz with hz | hz
            · exact hj z hz
            · rw [List.mem_singleton.mp hz, hxx]
              exact congrArg some (Classical.not_not.mp c)
      · rintro S ⟨v3, rfl, hj⟩
        refine ⟨_, _, rfl, ?_⟩
        have h1 := hj p.1 (by simp)
        have h2 := hj p.2 (by simp)
        rw [take_succ_get hp, List.all_append, ha, List.all_cons, List.all_nil, h1, h2]
        simp
    · rintro S ⟨v2, v3, rfl, ha⟩
      rw [List.take_length] at ha
      walk_at "d"
      refine ⟨us, rfl, hu, ?_⟩
      rw [soundO, ha] at k
      walk_at "d"
      exact k

end Kn

set_option synthInstance.maxHeartbeats 0
set_option synthInstance.maxSize 100000
set_option Elab.async false
set_option maxRecDepth 100000
set_option linter.all false
namespace Kn
open PySem L2
local macro_rules | `(tactic| walk_at "wk") => `(tactic| repeat (first
  | refine ⟨_, rfl, ?_⟩
  | refine ⟨_, _, rfl, rfl, ?_⟩
  | refine ⟨⟨by decide, by decide⟩, ?_⟩
  | refine ⟨(by show (0 : Int) < _; decide), ?_⟩
  | refine ⟨Or.inl ⟨by omega, by omega⟩, ?_⟩
  | refine Or.inl ⟨_, rfl, ?_⟩
  | fail))
local macro_rules | `(tactic| walk_at "lits") => `(tactic| repeat (first
  | exact lit_nil
  | exact lit_str
  | exact lit_int
  | exact lit_non
  | refine lit_cons ?_ ?_
  | refine lit_tup ?_
  | fail))
local macro_rules | `(tactic| walk_at "d") => `(tactic| simp only [↓u_tdC, ↓u_tdOp, ↓u_tdNil, ↓u_tdCons, ↓u_tdTup, ↓u_tnLst, ↓u_tdFrz, ↓u_tdFrzK, ↓u_tkNew, ↓u_tdTest, ↓u_tdAnd, ↓u_tdOr, ↓u_tdNot, ↓u_tdYes, ↓u_tdAndV, ↓u_tdOrV, ↓u_tdNotV, ↓u_tdIf, ↓u_tdCB, ↓u_tnCB, ↓u_tnAdd, ↓u_tdNoPart, ↓u_tdPart, ↓u_tdSl, ↓u_tnSl, ↓u_tdRevT, ↓u_tnRevL, ↓u_tdIsiT, ↓u_tdNext, ↓u_tdSeq, ↓u_tdBreak, ↓u_tdCont, ↓u_tdDrop, ↓u_tdRet, ↓u_tdRetN, ↓u_tdRetO, ↓u_tdIfS, ↓u_gdName, ↓u_gdNil, ↓u_gdCons, ↓u_gdTup, ↓u_tdAsg, ↓u_tdAsgN, ↓u_tdAsgK, ↓u_tiAny, ↓u_tiRng1, ↓u_tiRng2, ↓u_tdFor, ↓u_tnLc, ↓u_tdCall, ↓u_tnCall, ↓u_tdRaise, ↓u_tdApp, ↓u_tdDPut, ↓u_tkDict, ↓u_tdAsgR, ↓u_tdForR, ↓u_tdFldC, ↓u_tdSetC, ↓u_tdMeth, ↓u_tdProp, ↓u_tdMakeR, ↓u_tdMakeF, ↓u_tdRaiseS, ↓u_tdTryAs, ↓u_tdTryN, ↓u_tdXf, ↓u_tdJoin, ↓u_tnSplit, ↓u_tdPartn, ↓u_tdFmt, ↓u_tdJoined, ↓u_tkDisp, ↓u_tdShK, ↓u_tdClear, ↓u_tdOGet, ↓u_tdOSet, ↓u_tdOIn, ↓u_tdNeg, ↓u_tdForO, ↓u_tnLcO, ↓u_tnLcR, ↓u_tdGet2, ↓u_tdPopAt, ↓u_tdRg1, ↓u_tdTupRg, ↓u_tnLstRg, ↓u_tdForW, ↓u_tdAugO, ↓u_tdLPut, ↓u_tdFmtW, ↓u_tdMethK, ↓u_tdChain, ↓u_tnLc2, ↓u_tdIndex, ↓u_addF_i, ↓u_addF_s, ↓u_addF_t, ↓u_addF_l, ↓u_iiF, ↓u_mulF_i, ↓u_mulF_s, ↓u_inF_l, ↓u_inF_t, ↓u_inF_s, ↓u_inF_ds, ↓u_inF_di, ↓u_ixF_l, ↓u_ixF_t, ↓u_ixF_s, ↓u_ixF_di, ↓u_ixF_ds, ↓u_slF_l, ↓u_slF_t, ↓u_slF_s, ↓u_lenF_l, ↓u_lenF_t, ↓u_lenF_s, ↓u_lenF_d, ↓u_isiF, ↓u_isiD, ↓u_tupF_l, ↓u_tupF_t, ↓u_lstF_l, ↓u_lstF_t, ↓u_allF, ↓u_anyF, ↓u_sumF, ↓u_sortF, ↓u_intF_i, ↓u_intF_b, ↓u_strF, ↓u_walkF_l, ↓u_walkF_t, ↓u_walkF_s, ↓u_walkF_d, ↓u_arg1, ↓u_arg2, ↓u_frcL_n, ↓u_frcL_c, ↓u_addD, ↓u_iiD, ↓u_mulD, ↓u_eqD_f, ↓u_eqD_t, ↓u_inD_f, ↓u_inD_t, ↓u_ixD, ↓u_dd2, ↓u_isND_f, ↓u_isND_t, ↓u_fldF, ↓u_recF, ↓u_ofC, ↓u_isBD, ↓u_isBF_f, ↓u_isBF_t, ↓u_turnD, ↓u_isoD, ↓u_isoF_o, ↓u_isoF_n, ↓u_asD, ↓u_binOD, ↓u_idxF, ↓u_minF, ↓u_maxF, ↓u_turnD2, ↓u_mm2D, ↓u_lputF, ↓u_fmtWF_s, ↓u_fmtWF_i, ↓u_inTD_f, ↓u_inTD_t, ↓u_inTF, ↓u_refV, ↓u_getF, ↓u_popF, ↓u_dctW, ↓u_tvVar, ↓u_tvFld, ↓u_refD, ↓u_ownW, ↓u_valV1, ↓u_mergeD_n, ↓u_mergeD_c, ↓u_eqKD, ↓u_eqKF_f, ↓u_eqKF_t, ↓u_asS, ↓u_joinF_l, ↓u_joinF_t, ↓u_fmtF_s, ↓u_fmtF_i, ↓u_excF, ↓u_clsV_r, ↓u_clsV_t, ↓u_isYD, ↓b_Call, ↓b_CallN, ↓b_opt, ↓b_dd1, ↓b_asB, ↓b_asI, ↓b_frc, ↓b_for, ↓b_comp, ↓b_ite, ↓b_while, ↓b_var, ↓b_aug, ↓b_mutL, ↓b_mutD, ↓b_retV, ↓b_deref, ↓b_dd1own, ↓b_mutO, ↓b_mutDO, ↓b_frcO, ↓b_comp2, ↓b_compR, ↓b_forL, ↓b_compL, ↓b_dctC, ↓b_ref, ↓b_forR, ↓b_insF, ↓b_insC, ↓b_exB, ↓o_opt, ↓o_asB, ↓o_asI, ↓o_non, ↓o_bl, ↓o_int, ↓o_str, ↓o_ty, ↓o_tup, ↓o_lst, ↓o_dct, ↓o_obj, ↓o_varV, ↓o_varL, ↓o_varD, ↓o_frc, ↓o_augI, ↓o_augS, ↓o_augL, ↓o_retV, ↓o_iteT, ↓o_iteF, ↓o_derefL, ↓o_derefD, ↓o_mutO, ↓o_mutDO, ↓o_frcL, ↓o_frcD, ↓o_frcV, ↓o_dctC, ↓o_ref, ↓o_derefR, ↓o_dd1R, ↓o_mutR, ↓o_derefK, ↓o_dd1K, ↓o_mutK, ↓o_putT, ↓o_insF, ↓o_insC, ↓o_derefI, ↓o_dd1I, ↓o_putS, ↓o_putP, look_c, look_n, putFd_c, putFd_n, ofS_eq, ↓reduceIte, eq_self, List.foldr_cons, List.foldr_nil, DEnds.un, PSt.unset, List.zip_cons_cons, List.zip_nil_left, List.zip_nil_right, List.reverse_cons, List.reverse_nil, exL, exK, exC, tysOf, tyN, isB, tyOk, isNn, PSt.set, S0, PSt.wipe, wipeR,
  List.map_cons, List.map_nil, List.length_cons, List.length_nil, List.replicate_succ, List.replicate_zero, List.cons_append, List.nil_append, List.set_cons_zero, List.set_cons_succ, List.getElem?_cons_zero, List.getElem?_cons_succ, List.getElem?_nil,
  Bool.not_true, Bool.not_false, bq_t, bq_f, Bool.not_not, Bool.false_eq_true, true_and, and_true, Nat.reduceAdd, Nat.reduceSub, Nat.reduceLeDiff, String.reduceEq, decide_true, decide_false, Bool.true_or, Bool.false_or, Bool.true_and, Bool.false_and, Bool.or_true, Bool.or_false, Bool.and_true, Bool.and_false, decide_eq_true_eq, List.mem_cons, List.not_mem_nil, or_true, true_or, or_false, false_or, List.any_cons, List.any_nil, List.all_cons, List.all_nil, Option.map_some, Option.map_none, Option.isSome_some, Option.isSome_none, eqOk_ii, eqOk_ss, eqOk_bb, eqOk_nn, eqOk_ns, eqOk_sn, eqOk_ni, eqOk_in, eqOk_si, eqOk_is, D.int.injEq, D.str.injEq, D.bl.injEq, reduceCtorEq, keyD, atI_0, atI_1, atI_2, atI_3, atI_4, cut1, ne_eq, not_true_eq_false, not_false_eq_true, Bool.not_eq_true', Bool.not_eq_false', decide_eq_false_iff_not])
local macro_rules | `(tactic| walk_at "z") => `(tactic| first
  | (apply z_seq; (focus walk_at "z"); (focus walk_at "z"))
  | (apply z_try; (focus (intro _ _ _; walk_at "z")); (focus (intro _ _ _; walk_at "z")); (focus walk_at "z"))
  | (apply z_tryN; (focus (intro _ _ _; walk_at "z")); (focus walk_at "z"); (focus walk_at "z"))
  | (apply z_cl; (focus (intro _ _ _; walk_at "z")); (focus walk_at "z"))
  | exact inferInstance
  | (apply z_if; (focus walk_at "z"); (focus walk_at "z"); (focus walk_at "z"))
  | (apply z_while; (focus walk_at "z"); (focus walk_at "z"))
  | (apply z_for; (focus walk_at "z"); (focus walk_at "z"); (focus walk_at "z")))
variable {P : Program} {w : World} {K : PySem.W.Frag} {mg : Str → Option Value} {base : Heap}
abbrev s_Stock___init__ : Stmt := inClass (top 19) 0
abbrev N_Stock___init__ : List Str := ["self", "shapes", "under"]
abbrev P_Stock___init__ : List Str := ["self", "shapes", "under"]
theorem sc_Stock___init__ : FnScope N_Stock___init__ P_Stock___init__ (defScope s_Stock___init__) := ⟨rfl, rfl, rfl, by decide +kernel, rfl, by decide +kernel, by decide +kernel⟩
def stkC (ss us : List (Str × Str)) : List (Str × D) := [("shapes", .dct (dkS ss)), ("above", .dct (dkS us))]
def soundB (ss us : List (Str × Str)) : Bool := soundS ss && soundO ss us
def F_mkStock (C B : Addr) : FSpec := fun ds W Q E => ∃ (a : Addr) (W0 : Wd) (x y : D) (ss us : List (Str × Str)), ds = [.ref a, x, y] ∧ W = W0.put a (.ins C []) ∧ W0.ω a = none ∧ vD W0 x = some (.dct (dkS ss)) ∧ ((y = .non ∧ us = []) ∨ vD W0 y = some (.dct (dkS us))) ∧ (ss.map (·.1)).Nodup ∧ (us.map (·.1)).Nodup ∧ ss.length ≤ 1000 ∧ us.length ≤ 1000 ∧ (∀ p ∈ ss, p.1.length ≤ 1000 ∧ p.2.length ≤ 1000) ∧
  (soundB ss us = true → Q .non (W0.put a (.ins C (stkC ss us)))) ∧ (soundB ss us = false → E ⟨B, []⟩ (W0.put a (.ins C (stkC ss us))))
theorem body_mkStock (T : Txt K mg) (G_sound_shapes : Fx P w K mg base (L2.CX P w) "sound_shapes" 2 P_sound_shapes (lift K F_soundS)) (G_sound_order : Fx P w K mg base (L2.CX P w) "sound_order" 2 P_sound_order (lift K F_soundO)) : BodyD P w K mg base N_Stock___init__ "Stock.__init__" s_Stock___init__ 3 (F_mkStock (clsA mg "Stock") (clsA mg "BadKind")) := by
  intro f cdv A outer s H E e ds Qd Ed hr lk h
  obtain ⟨a, W0, x, y, ss, us, rfl, hW, ha, hx, hy, hn, hm, hl, hk, hs, kq, ke⟩ := h
  refine ⟨_, _, (pss_cons (setX T.f_Stock_shapes (pv 0) (pe_callTy (call_dictU K rfl) (by rfl) T.b_dict (by decide +kernel) (pa_cons (pv 1) pa_nil)))
      (pss_cons (setX T.f_Stock_above (pv 0) pe_dnewK)
      (pss_cons (ps_if (pt_cmpR op_notNU (pv 2) pe_non (nomark _)) (pss_one (setX T.f_Stock_above (pv 0) (pe_callTy (call_dictU K rfl) (by rfl) T.b_dict (by decide +kernel) (pa_cons (pv 2) pa_nil)))) pss_nil)
      (pss_one (ps_if (PW.pt (pw_or (pt_not (pt_val (fcallX (takes_of rfl rfl rfl rfl) G_sound_shapes (hr.mono (by first | decide | omega)) (by rfl) (pa_cons (fldX T.f_Stock_shapes (pv 0)) pa_nil)))) (pw_or1 (pt_not (pt_val (fcallX (takes_of rfl rfl rfl rfl) G_sound_order (hr.mono (by first | decide | omega)) (by rfl) (pa_cons (fldX T.f_Stock_shapes (pv 0)) (pa_cons (fldX T.f_Stock_above (pv 0)) pa_nil)))))))) (pss_one (ps_raiseU rfl (takes_of rfl rfl rfl rfl) (pmk_own PySem.F.excBase_ValueError T.e_BadKind.ex T.e_BadKind.g T.e_BadKind.k (raises_own T.e_BadKind.b T.e_BadKind.t) rfl))) pss_nil))))), inferInstance, ?_⟩
  rw [hW]
  walk_at "d"
  refine dd1B_at ((vD_put (vD_nref ha hx)).trans hx) ?_
  walk_at "d"
  have fin : soundB ss us = (soundS ss && soundO ss us) := rfl
  rcases hy with ⟨rfl, rfl⟩ | hy
  · walk_at "d"
    refine ⟨by omega, by omega, ss, rfl, hn, hl, hs, ?_⟩
    cases h1 : soundS ss with
    | false =>
      walk_at "d"
      exact ke (by rw [fin, h1]; rfl)
    | true =>
      walk_at "d"
      refine ⟨ss, [], rfl, hm, hk, hl, ?_⟩
      cases h2 : soundO ss [] with
      | false =>
        walk_at "d"
        exact ke (by rw [fin, h1, h2]; rfl)
      | true =>
        walk_at "d"
        exact kq (by rw [fin, h1, h2]; rfl)
  · refine ⟨by omega, by omega, iteB_T (by cases y <;> first | rfl | (cases hy)) ?_⟩
    walk_at "d"
    refine dd1B_at ((vD_put (vD_nref ha hy)).trans hy) ?_
    walk_at "d"
    refine ⟨by omega, ss, rfl, hn, hl, hs, ?_⟩
    cases h1 : soundS ss with
    | false =>
      walk_at "d"
      exact ke (by rw [fin, h1]; rfl)
    | true =>
      walk_at "d"
      refine ⟨ss, us, rfl, hm, hk, hl, ?_⟩
      cases h2 : soundO ss us with
      | false =>
        walk_at "d"
        exact ke (by rw [fin, h1, h2]; rfl)
      | true =>
        walk_at "d"
        exact kq (by rw [fin, h1, h2]; rfl)
theorem ok_mkStock2 (Z : Kz K (clsA mg "Stock") "Stock.__init__" s_Stock___init__ P_Stock___init__ []) (T : Txt K mg) (G1 : Fx P w K mg base (L2.CX P w) "sound_shapes" 2 P_sound_shapes (lift K F_soundS)) (G2 : Fx P w K mg base (L2.CX P w) "sound_order" 2 P_sound_order (lift K F_soundO)) : Kx P w K mg base (clsA mg "Stock") 4 P_Stock___init__ [] (lift K (F_mkStock (clsA mg "Stock") (clsA mg "BadKind"))) :=
  Z.okD sc_Stock___init__ (fun ds W Q E h => by obtain ⟨a, W0, x, y, ss, us, rfl, _⟩ := h; rfl) (body_mkStock T G1 G2)
theorem ok_mkStock1 (Z : Kz K (clsA mg "Stock") "Stock.__init__" s_Stock___init__ P_Stock___init__ [.non]) (T : Txt K mg) (G1 : Fx P w K mg base (L2.CX P w) "sound_shapes" 2 P_sound_shapes (lift K F_soundS)) (G2 : Fx P w K mg base (L2.CX P w) "sound_order" 2 P_sound_order (lift K F_soundO)) : Kx P w K mg base (clsA mg "Stock") 4 P_Stock___init__ [.non] (lift K (F_mkStock (clsA mg "Stock") (clsA mg "BadKind"))) :=
  Z.okD sc_Stock___init__ (fun ds W Q E h => by obtain ⟨a, W0, x, y, ss, us, rfl, _⟩ := h; rfl) (body_mkStock T G1 G2)

end Kn

set_option synthInstance.maxHeartbeats 0
set_option synthInstance.maxSize 100000
set_option Elab.async false
set_option maxRecDepth 100000
set_option linter.all false
namespace Kn
open PySem L2
local macro_rules | `(tactic| walk_at "wk") => `(tactic| repeat (first
  | refine ⟨_, rfl, ?_⟩
  | refine ⟨_, _, rfl, rfl, ?_⟩
  | refine ⟨⟨by decide, by decide⟩, ?_⟩
  | refine ⟨(by show (0 : Int) < _; decide), ?_⟩
  | refine ⟨Or.inl ⟨by omega, by omega⟩, ?_⟩
  | refine Or.inl ⟨_, rfl, ?_⟩
  | fail))
local macro_rules | `(tactic| walk_at "lits") => `(tactic| repeat (first
  | exact lit_nil
  | exact lit_str
  | exact lit_int
  | exact lit_non
  | refine lit_cons ?_ ?_
  | refine lit_tup ?_
  | fail))
local macro_rules | `(tactic| walk_at "d") => `(tactic| simp only [↓u_tdC, ↓u_tdOp, ↓u_tdNil, ↓u_tdCons, ↓u_tdTup, ↓u_tnLst, ↓u_tdFrz, ↓u_tdFrzK, ↓u_tkNew, ↓u_tdTest, ↓u_tdAnd, ↓u_tdOr, ↓u_tdNot, ↓u_tdYes, ↓u_tdAndV, ↓u_tdOrV, ↓u_tdNotV, ↓u_tdIf, ↓u_tdCB, ↓u_tnCB, ↓u_tnAdd, ↓u_tdNoPart, ↓u_tdPart, ↓u_tdSl, ↓u_tnSl, ↓u_tdRevT, ↓u_tnRevL, ↓u_tdIsiT, ↓u_tdNext, ↓u_tdSeq, ↓u_tdBreak, ↓u_tdCont, ↓u_tdDrop, ↓u_tdRet, ↓u_tdRetN, ↓u_tdRetO, ↓u_tdIfS, ↓u_gdName, ↓u_gdNil, ↓u_gdCons, ↓u_gdTup, ↓u_tdAsg, ↓u_tdAsgN, ↓u_tdAsgK, ↓u_tiAny, ↓u_tiRng1, ↓u_tiRng2, ↓u_tdFor, ↓u_tnLc, ↓u_tdCall, ↓u_tnCall, ↓u_tdRaise, ↓u_tdApp, ↓u_tdDPut, ↓u_tkDict, ↓u_tdAsgR, ↓u_tdForR, ↓u_tdFldC, ↓u_tdSetC, ↓u_tdMeth, ↓u_tdProp, ↓u_tdMakeR, ↓u_tdMakeF, ↓u_tdRaiseS, ↓u_tdTryAs, ↓u_tdTryN, ↓u_tdXf, ↓u_tdJoin, ↓u_tnSplit, ↓u_tdPartn, ↓u_tdFmt, ↓u_tdJoined, ↓u_tkDisp, ↓u_tdShK, ↓u_tdClear, ↓u_tdOGet, ↓u_tdOSet, ↓u_tdOIn, ↓u_tdNeg, ↓u_tdForO, ↓u_tnLcO, ↓u_tnLcR, ↓u_tdGet2, ↓u_tdPopAt, ↓u_tdRg1, ↓u_tdTupRg, ↓u_tnLstRg, ↓u_tdForW, ↓u_tdAugO, ↓u_tdLPut, ↓u_tdFmtW, ↓u_tdMethK, ↓u_tdChain, ↓u_tnLc2, ↓u_tdIndex, ↓u_addF_i, ↓u_addF_s, ↓u_addF_t, ↓u_addF_l, ↓u_iiF, ↓u_mulF_i, ↓u_mulF_s, ↓u_inF_l, ↓u_inF_t, ↓u_inF_s, ↓u_inF_ds, ↓u_inF_di, ↓u_ixF_l, ↓u_ixF_t, ↓u_ixF_s, ↓u_ixF_di, ↓u_ixF_ds, ↓u_slF_l, ↓u_slF_t, ↓u_slF_s, ↓u_lenF_l, ↓u_lenF_t, ↓u_lenF_s, ↓u_lenF_d, ↓u_isiF, ↓u_isiD, ↓u_tupF_l, ↓u_tupF_t, ↓u_lstF_l, ↓u_lstF_t, ↓u_allF, ↓u_anyF, ↓u_sumF, ↓u_sortF, ↓u_intF_i, ↓u_intF_b, ↓u_strF, ↓u_walkF_l, ↓u_walkF_t, ↓u_walkF_s, ↓u_walkF_d, ↓u_arg1, ↓u_arg2, ↓u_frcL_n, ↓u_frcL_c, ↓u_addD, ↓u_iiD, ↓u_mulD, ↓u_eqD_f, ↓u_eqD_t, ↓u_inD_f, ↓u_inD_t, ↓u_ixD, ↓u_dd2, ↓u_isND_f, ↓u_isND_t, ↓u_fldF, ↓u_recF, ↓u_ofC, ↓u_isBD, ↓u_isBF_f, ↓u_isBF_t, ↓u_turnD, ↓u_isoD, ↓u_isoF_o, ↓u_isoF_n, ↓u_asD, ↓u_binOD, ↓u_idxF, ↓u_minF, ↓u_maxF, ↓u_turnD2, ↓u_mm2D, ↓u_lputF, ↓u_fmtWF_s, ↓u_fmtWF_i, ↓u_inTD_f, ↓u_inTD_t, ↓u_inTF, ↓u_refV, ↓u_getF, ↓u_popF, ↓u_dctW, ↓u_tvVar, ↓u_tvFld, ↓u_refD, ↓u_ownW, ↓u_valV1, ↓u_mergeD_n, ↓u_mergeD_c, ↓u_eqKD, ↓u_eqKF_f, ↓u_eqKF_t, ↓u_asS, ↓u_joinF_l, ↓u_joinF_t, ↓u_fmtF_s, ↓u_fmtF_i, ↓u_excF, ↓u_clsV_r, ↓u_clsV_t, ↓u_isYD, ↓b_Call, ↓b_CallN, ↓b_opt, ↓b_dd1, ↓b_asB, ↓b_asI, ↓b_frc, ↓b_for, ↓b_comp, ↓b_ite, ↓b_while, ↓b_var, ↓b_aug, ↓b_mutL, ↓b_mutD, ↓b_retV, ↓b_deref, ↓b_dd1own, ↓b_mutO, ↓b_mutDO, ↓b_frcO, ↓b_comp2, ↓b_compR, ↓b_forL, ↓b_compL, ↓b_dctC, ↓b_ref, ↓b_forR, ↓b_insF, ↓b_insC, ↓b_exB, ↓o_opt, ↓o_asB, ↓o_asI, ↓o_non, ↓o_bl, ↓o_int, ↓o_str, ↓o_ty, ↓o_tup, ↓o_lst, ↓o_dct, ↓o_obj, ↓o_varV, ↓o_varL, ↓o_varD, ↓o_frc, ↓o_augI, ↓o_augS, ↓o_augL, ↓o_retV, ↓o_iteT, ↓o_iteF, ↓o_derefL, ↓o_derefD, ↓o_mutO, ↓o_mutDO, ↓o_frcL, ↓o_frcD, ↓o_frcV, ↓o_dctC, ↓o_ref, ↓o_derefR, ↓o_dd1R, ↓o_mutR, ↓o_derefK, ↓o_dd1K, ↓o_mutK, ↓o_putT, ↓o_insF, ↓o_insC, ↓o_derefI, ↓o_dd1I, ↓o_putS, ↓o_putP, look_c, look_n, putFd_c, putFd_n, ofS_eq, ↓reduceIte, eq_self, List.foldr_cons, List.foldr_nil, DEnds.un, PSt.unset, List.zip_cons_cons, List.zip_nil_left, List.zip_nil_right, List.reverse_cons, List.reverse_nil, exL, exK, exC, tysOf, tyN, isB, tyOk, isNn, PSt.set, S0, PSt.wipe, wipeR,
  List.map_cons, List.map_nil, List.length_cons, List.length_nil, List.replicate_succ, List.replicate_zero, List.cons_append, List.nil_append, List.set_cons_zero, List.set_cons_succ, List.getElem?_cons_zero, List.getElem?_cons_succ, List.getElem?_nil,
  Bool.not_true, Bool.not_false, bq_t, bq_f, Bool.not_not, Bool.false_eq_true, true_and, and_true, Nat.reduceAdd, Nat.reduceSub, Nat.reduceLeDiff, String.reduceEq, decide_true, decide_false, Bool.true_or, Bool.false_or, Bool.true_and, Bool.false_and, Bool.or_true, Bool.or_false, Bool.and_true, Bool.and_false, decide_eq_true_eq, List.mem_cons, List.not_mem_nil, or_true, true_or, or_false, false_or, List.any_cons, List.any_nil, List.all_cons, List.all_nil, Option.map_some, Option.map_none, Option.isSome_some, Option.isSome_none, eqOk_ii, eqOk_ss, eqOk_bb, eqOk_nn, eqOk_ns, eqOk_sn, eqOk_ni, eqOk_in, eqOk_si, eqOk_is, D.int.injEq, D.str.injEq, D.bl.injEq, reduceCtorEq, keyD, atI_0, atI_1, atI_2, atI_3, atI_4, cut1, ne_eq, not_true_eq_false, not_false_eq_true, Bool.not_eq_true', Bool.not_eq_false', decide_eq_false_iff_not])
local macro_rules | `(tactic| walk_at "z") => `(tactic| first
  | (apply z_seq; (focus walk_at "z"); (focus walk_at "z"))
  | (apply z_try; (focus (intro _ _ _; walk_at "z")); (focus (intro _ _ _; walk_at "z")); (focus walk_at "z"))
  | (apply z_tryN; (focus (intro _ _ _; walk_at "z")); (focus walk_at "z"); (focus walk_at "z"))
  | (apply z_cl; (focus (intro _ _ _; walk_at "z")); (focus walk_at "z"))
  | exact inferInstance
  | (apply z_if; (focus walk_at "z"); (focus walk_at "z"); (focus walk_at "z"))
  | (apply z_while; (focus walk_at "z"); (focus walk_at "z"))
  | (apply z_for; (focus walk_at "z"); (focus walk_at "z"); (focus walk_at "z")))
variable {P : Program} {w : World} {K : PySem.W.Frag} {mg : Str → Option Value} {base : Heap}
mutual
def hasLetD : D → Bool
  | .str _ => true
  | .tup ds => match ds with
    | [] => false
    | _ :: ds => hasLetL ds
  | _ => false
def hasLetL : List D → Bool
  | [] => false
  | d :: ds => hasLetD d || hasLetL ds
end
theorem hasLetL_any : ∀ ds : List D, hasLetL ds = ds.any hasLetD
  | [] => by rw [hasLetL]; rfl
  | d :: ds => by rw [hasLetL, hasLetL_any ds]; rfl
abbrev s_has_letters : Stmt := top 13
abbrev N_has_letters : List Str := ["pattern", "part"]
abbrev P_has_letters : List Str := ["pattern"]
theorem sc_has_letters : FnScope N_has_letters P_has_letters (defScope s_has_letters) := ⟨rfl, rfl, rfl, by decide +kernel, rfl, by decide +kernel, by decide +kernel⟩
def F_has_letters (n : Nat) : FSpec := fun ds W Q _ => ∃ d, ds = [d] ∧ isFormD d = true ∧ fitD d = true ∧ dpD d < n ∧ Q (.bl (hasLetD d)) W
theorem ok_has_letters (F : Fz K mg "has_letters" s_has_letters P_has_letters) (T : Txt K mg) (G_is_letter : Fx P w K mg base (L2.CX P w) "is_letter" 1 P_is_letter (lift K F_is_letter)) : ∀ n, Fx P w K mg base (L2.CX P w) "has_letters" (n + 2) P_has_letters (lift K (F_has_letters n))
  | 0 => F.noneD fun ds W Q E ⟨d, _, _, _, z, _⟩ => by omega
  | n + 1 => by
    have G_has_letters := ok_has_letters F T G_is_letter n
    refine F.okD sc_has_letters (fun ds W Q E h => ?_) (fun f cdv A outer s H E e ds Qd Ed hr lk h => ?_)
    · obtain ⟨d, rfl, _⟩ := h
      rfl
    · obtain ⟨d, rfl, hfo, hf, hd, k⟩ := h
      refine ⟨_, _, (pss_cons (ps_if (pt_val (fcallX (takes_of rfl rfl rfl rfl) G_is_letter (hr.mono (by first | decide | omega)) (by rfl) (pa_cons (pv 0) pa_nil))) (pss_one (ps_ret pe_bl)) pss_nil)
      (pss_one (ps_ret (pe_callB (cr_anyK K rfl) (by rfl) T.b_any (by decide +kernel) (pa_cons (pe_lc (own := [("part", 1)]) (g := (gName 1)) (tt := tYes) rfl sc_has_letters.nd (pi_any K (pe_slice (sl_U K) (pv 0) (po_some pe_int) po_none)) (blkOk_by (own := [("part", 1)]) (N := N_has_letters) (sc := defScope s_has_letters) (by decide +kernel)) (fun _ _ _ _ _ => (pg_name (i := 1) sc_has_letters.nd rfl (by first | exact Or.inl rfl | exact Or.inr rfl))) (fun _ _ _ _ _ => pts_nil) (fun _ _ _ _ _ => (fcallX takes0 G_has_letters (hr.mono (by first | decide | omega)) (by rfl) (pa_cons (pv 1) pa_nil)))) pa_nil))))), inferInstance, ?_⟩
      walk_at "d"
      refine ⟨d, rfl, hf, ?_⟩
      cases d with
      | str x =>
        rw [isFormD] at hfo
        rw [isLetterD, hfo]
        rw [hasLetD] at k
        walk_at "d"
        exact k
      | tup ds =>
        have e0 : isLetterD (.tup ds) = false := rfl
        rw [e0]
        cases ds with
        | nil => rw [isFormD] at hfo; cases hfo
        | cons d0 ds =>
          rw [isFormD, Bool.and_eq_true, Bool.and_eq_true] at hfo
          rw [fitD, Bool.and_eq_true, fitL, Bool.and_eq_true] at hf
          rw [dpD] at hd
          obtain ⟨⟨h3, hw⟩, hfs⟩ := hfo
          have h3 := of_decide_eq_true h3
          rw [hasLetD, hasLetL_any] at k
          walk_at "d"
          refine comp_lst (fun d => .bl (hasLetD d)) (by simp; omega) (fun d hd' N M hn => ?_) ?_
          · walk_at "d"
            refine ⟨d, rfl, ?_, fitL_mem hf.2.2 d hd', ?_, hn⟩
            · rw [isFormsD_all] at hfs
              exact List.all_eq_true.mp hfs d hd'
            · have := dpL_mem (List.mem_cons_of_mem d0 hd')
              omega
          · walk_at "d"
            rw [bls_mapF]
            walk_at "d"
            rw [List.any_map]
            exact k
      | _ => simp [isFormD] at hfo
abbrev s_is_kind : Stmt := top 15
abbrev N_is_kind : List Str := ["stock", "value"]
abbrev P_is_kind : List Str := ["stock", "value"]
theorem sc_is_kind : FnScope N_is_kind P_is_kind (defScope s_is_kind) := ⟨rfl, rfl, rfl, by decide +kernel, rfl, by decide +kernel, by decide +kernel⟩
def isKindD (ss : List (Str × Str)) (d : D) : Bool := isFormD d && !hasLetD d && fitsD ss d
def F_is_kind (C : Addr) (n : Nat) : FSpec := fun ds W Q _ => ∃ (ss us : List (Str × Str)) (d : D), ds = [.obj C (stkC ss us), d] ∧ (∀ p ∈ ss, p.2.length ≤ 1000) ∧ fitD d = true ∧ dpD d < n ∧ Q (.bl (isKindD ss d)) W
theorem ok_is_kind (F : Fz K mg "is_kind" s_is_kind P_is_kind) (T : Txt K mg) {n : Nat} (G_is_form : Fx P w K mg base (L2.CX P w) "is_form" (n + 2) P_is_form (lift K (F_is_form n))) (G_has_letters : Fx P w K mg base (L2.CX P w) "has_letters" (n + 2) P_has_letters (lift K (F_has_letters n))) (G_fits_shapes : Fx P w K mg base (L2.CX P w) "fits_shapes" (n + 2) P_fits_shapes (lift K (F_fits n))) : Fx P w K mg base (L2.CX P w) "is_kind" (n + 3) P_is_kind (lift K (F_is_kind (clsA mg "Stock") n)) := by
  refine F.okD sc_is_kind (fun ds W Q E h => ?_) (fun f cdv A outer s H E e ds Qd Ed hr lk h => ?_)
  · obtain ⟨ss, us, d, rfl, _⟩ := h
    rfl
  · obtain ⟨ss, us, d, rfl, hss, hf, hd, k⟩ := h
    refine ⟨_, _, (pss_one (ps_ret (pe_and (fcallX (takes_of rfl rfl rfl rfl) G_is_form (hr.mono (by first | decide | omega)) (by rfl) (pa_cons (pv 1) pa_nil)) (pe_and (pe_not (fcallX (takes_of rfl rfl rfl rfl) G_has_letters (hr.mono (by first | decide | omega)) (by rfl) (pa_cons (pv 1) pa_nil))) (pe_one (fcallX (takes_of rfl rfl rfl rfl) G_fits_shapes (hr.mono (by first | decide | omega)) (by rfl) (pa_cons (fldX T.f_Stock_shapes (pv 0)) (pa_cons (pv 1) pa_nil)))))))), inferInstance, ?_⟩
    unfold isKindD at k
    unfold stkC
    walk_at "d"
    refine ⟨d, rfl, hf, hd, ?_⟩
    cases h1 : isFormD d with
    | false =>
      rw [h1] at k
      walk_at "d"
      exact k
    | true =>
      rw [h1] at k
      walk_at "d"
      refine ⟨d, rfl, h1, hf, hd, ?_⟩
      cases h2 : hasLetD d with
      | true =>
        rw [h2] at k
        walk_at "d"
        exact k
      | false =>
        rw [h2] at k
        walk_at "d"
        exact ⟨ss, d, rfl, hss, h1, hf, hd, k⟩

end Kn

set_option synthInstance.maxHeartbeats 0
set_option synthInstance.maxSize 100000
set_option Elab.async false
set_option maxRecDepth 100000
set_option linter.all false
namespace Kn
open PySem L2
local macro_rules | `(tactic| walk_at "wk") => `(tactic| repeat (first
  | refine ⟨_, rfl, ?_⟩
  | refine ⟨_, _, rfl, rfl, ?_⟩
  | refine ⟨⟨by decide, by decide⟩, ?_⟩
  | refine ⟨(by show (0 : Int) < _; decide), ?_⟩
  | refine ⟨Or.inl ⟨by omega, by omega⟩, ?_⟩
  | refine Or.inl ⟨_, rfl, ?_⟩
  | fail))
local macro_rules | `(tactic| walk_at "lits") => `(tactic| repeat (first
  | exact lit_nil
  | exact lit_str
  | exact lit_int
  | exact lit_non
  | refine lit_cons ?_ ?_
  | refine lit_tup ?_
  | fail))
local macro_rules | `(tactic| walk_at "d") => `(tactic| simp only [↓u_tdC, ↓u_tdOp, ↓u_tdNil, ↓u_tdCons, ↓u_tdTup, ↓u_tnLst, ↓u_tdFrz, ↓u_tdFrzK, ↓u_tkNew, ↓u_tdTest, ↓u_tdAnd, ↓u_tdOr, ↓u_tdNot, ↓u_tdYes, ↓u_tdAndV, ↓u_tdOrV, ↓u_tdNotV, ↓u_tdIf, ↓u_tdCB, ↓u_tnCB, ↓u_tnAdd, ↓u_tdNoPart, ↓u_tdPart, ↓u_tdSl, ↓u_tnSl, ↓u_tdRevT, ↓u_tnRevL, ↓u_tdIsiT, ↓u_tdNext, ↓u_tdSeq, ↓u_tdBreak, ↓u_tdCont, ↓u_tdDrop, ↓u_tdRet, ↓u_tdRetN, ↓u_tdRetO, ↓u_tdIfS, ↓u_gdName, ↓u_gdNil, ↓u_gdCons, ↓u_gdTup, ↓u_tdAsg, ↓u_tdAsgN, ↓u_tdAsgK, ↓u_tiAny, ↓u_tiRng1, ↓u_tiRng2, ↓u_tdFor, ↓u_tnLc, ↓u_tdCall, ↓u_tnCall, ↓u_tdRaise, ↓u_tdApp, ↓u_tdDPut, ↓u_tkDict, ↓u_tdAsgR, ↓u_tdForR, ↓u_tdFldC, ↓u_tdSetC, ↓u_tdMeth, ↓u_tdProp, ↓u_tdMakeR, ↓u_tdMakeF, ↓u_tdRaiseS, ↓u_tdTryAs, ↓u_tdTryN, ↓u_tdXf, ↓u_tdJoin, ↓u_tnSplit, ↓u_tdPartn, ↓u_tdFmt, ↓u_tdJoined, ↓u_tkDisp, ↓u_tdShK, ↓u_tdClear, ↓u_tdOGet, ↓u_tdOSet, ↓u_tdOIn, ↓u_tdNeg, ↓u_tdForO, ↓u_tnLcO, ↓u_tnLcR, ↓u_tdGet2, ↓u_tdPopAt, ↓u_tdRg1, ↓u_tdTupRg, ↓u_tnLstRg, ↓u_tdForW, ↓u_tdAugO, ↓u_tdLPut, ↓u_tdFmtW, ↓u_tdMethK, ↓u_tdChain, ↓u_tnLc2, ↓u_tdIndex, ↓u_addF_i, ↓u_addF_s, ↓u_addF_t, ↓u_addF_l, ↓u_iiF, ↓u_mulF_i, ↓u_mulF_s, ↓u_inF_l, ↓u_inF_t, ↓u_inF_s, ↓u_inF_ds, ↓u_inF_di, ↓u_ixF_l, ↓u_ixF_t, ↓u_ixF_s, ↓u_ixF_di, ↓u_ixF_ds, ↓u_slF_l, ↓u_slF_t, ↓u_slF_s, ↓u_lenF_l, ↓u_lenF_t, ↓u_lenF_s, ↓u_lenF_d, ↓u_isiF, ↓u_isiD, ↓u_tupF_l, ↓u_tupF_t, ↓u_lstF_l, ↓u_lstF_t, ↓u_allF, ↓u_anyF, ↓u_sumF, ↓u_sortF, ↓u_intF_i, ↓u_intF_b, ↓u_strF, ↓u_walkF_l, ↓u_walkF_t, ↓u_walkF_s, ↓u_walkF_d, ↓u_arg1, ↓u_arg2, ↓u_frcL_n, ↓u_frcL_c, ↓u_addD, ↓u_iiD, ↓u_mulD, ↓u_eqD_f, ↓u_eqD_t, ↓u_inD_f, ↓u_inD_t, ↓u_ixD, ↓u_dd2, ↓u_isND_f, ↓u_isND_t, ↓u_fldF, ↓u_recF, ↓u_ofC, ↓u_isBD, ↓u_isBF_f, ↓u_isBF_t, ↓u_turnD, ↓u_isoD, ↓u_isoF_o, ↓u_isoF_n, ↓u_asD, ↓u_binOD, ↓u_idxF, ↓u_minF, ↓u_maxF, ↓u_turnD2, ↓u_mm2D, ↓u_lputF, ↓u_fmtWF_s, ↓u_fmtWF_i, ↓u_inTD_f, ↓u_inTD_t, ↓u_inTF, ↓u_refV, ↓u_getF, ↓u_popF, ↓u_dctW, ↓u_tvVar, ↓u_tvFld, ↓u_refD, ↓u_ownW, ↓u_valV1, ↓u_mergeD_n, ↓u_mergeD_c, ↓u_eqKD, ↓u_eqKF_f, ↓u_eqKF_t, ↓u_asS, ↓u_joinF_l, ↓u_joinF_t, ↓u_fmtF_s, ↓u_fmtF_i, ↓u_excF, ↓u_clsV_r, ↓u_clsV_t, ↓u_isYD, ↓b_Call, ↓b_CallN, ↓b_opt, ↓b_dd1, ↓b_asB, ↓b_asI, ↓b_frc, ↓b_for, ↓b_comp, ↓b_ite, ↓b_while, ↓b_var, ↓b_aug, ↓b_mutL, ↓b_mutD, ↓b_retV, ↓b_deref, ↓b_dd1own, ↓b_mutO, ↓b_mutDO, ↓b_frcO, ↓b_comp2, ↓b_compR, ↓b_forL, ↓b_compL, ↓b_dctC, ↓b_ref, ↓b_forR, ↓b_insF, ↓b_insC, ↓b_exB, ↓o_opt, ↓o_asB, ↓o_asI, ↓o_non, ↓o_bl, ↓o_int, ↓o_str, ↓o_ty, ↓o_tup, ↓o_lst, ↓o_dct, ↓o_obj, ↓o_varV, ↓o_varL, ↓o_varD, ↓o_frc, ↓o_augI, ↓o_augS, ↓o_augL, ↓o_retV, ↓o_iteT, ↓o_iteF, ↓o_derefL, ↓o_derefD, ↓o_mutO, ↓o_mutDO, ↓o_frcL, ↓o_frcD, ↓o_frcV, ↓o_dctC, ↓o_ref, ↓o_derefR, ↓o_dd1R, ↓o_mutR, ↓o_derefK, ↓o_dd1K, ↓o_mutK, ↓o_putT, ↓o_insF, ↓o_insC, ↓o_derefI, ↓o_dd1I, ↓o_putS, ↓o_putP, look_c, look_n, putFd_c, putFd_n, ofS_eq, ↓reduceIte, eq_self, List.foldr_cons, List.foldr_nil, DEnds.un, PSt.unset, List.zip_cons_cons, List.zip_nil_left, List.zip_nil_right, List.reverse_cons, List.reverse_nil, exL, exK, exC, tysOf, tyN, isB, tyOk, isNn, PSt.set, S0, PSt.wipe, wipeR,
  List.map_cons, List.map_nil, List.length_cons, List.length_nil, List.replicate_succ, List.replicate_zero, List.cons_append, List.nil_append, List.set_cons_zero, List.set_cons_succ, List.getElem?_cons_zero, List.getElem?_cons_succ, List.getElem?_nil,
  Bool.not_true, Bool.not_false, bq_t, bq_f, Bool.not_not, Bool.false_eq_true, true_and, and_true, Nat.reduceAdd, Nat.reduceSub, Nat.reduceLeDiff, String.reduceEq, decide_true, decide_false, Bool.true_or, Bool.false_or, Bool.true_and, Bool.false_and, Bool.or_true, Bool.or_false, Bool.and_true, Bool.and_false, decide_eq_true_eq, List.mem_cons, List.not_mem_nil, or_true, true_or, or_false, false_or, List.any_cons, List.any_nil, List.all_cons, List.all_nil, Option.map_some, Option.map_none, Option.isSome_some, Option.isSome_none, eqOk_ii, eqOk_ss, eqOk_bb, eqOk_nn, eqOk_ns, eqOk_sn, eqOk_ni, eqOk_in, eqOk_si, eqOk_is, D.int.injEq, D.str.injEq, D.bl.injEq, reduceCtorEq, keyD, atI_0, atI_1, atI_2, atI_3, atI_4, cut1, ne_eq, not_true_eq_false, not_false_eq_true, Bool.not_eq_true', Bool.not_eq_false', decide_eq_false_iff_not])
local macro_rules | `(tactic| walk_at "z") => `(tactic| first
  | (apply z_seq; (focus walk_at "z"); (focus walk_at "z"))
  | (apply z_try; (focus (intro _ _ _; walk_at "z")); (focus (intro _ _ _; walk_at "z")); (focus walk_at "z"))
  | (apply z_tryN; (focus (intro _ _ _; walk_at "z")); (focus walk_at "z"); (focus walk_at "z"))
  | (apply z_cl; (focus (intro _ _ _; walk_at "z")); (focus walk_at "z"))
  | exact inferInstance
  | (apply z_if; (focus walk_at "z"); (focus walk_at "z"); (focus walk_at "z"))
  | (apply z_while; (focus walk_at "z"); (focus walk_at "z"))
  | (apply z_for; (focus walk_at "z"); (focus walk_at "z"); (focus walk_at "z")))
variable {P : Program} {w : World} {K : PySem.W.Frag} {mg : Str → Option Value} {base : Heap}
/-! ### rules as data -/
def isNon : D → Bool
  | .non => true
  | _ => false
/-- a form, as the walk of fits_shapes wants it -/
def frm (n : Nat) (d : D) : Prop := isFormD d = true ∧ fitD d = true ∧ dpD d < n
def plF (ss : List (Str × Str)) (b d : D) : Bool := (isNon b || fitsD ss b) && fitsD ss d
/-- a rule: places of a bound form or None and a form; the whole -/
structure RuleD (n : Nat) (ps : List (D × D)) (wd : D) : Prop where
  pl : ∀ p ∈ ps, (p.1 = .non ∨ frm n p.1) ∧ frm n p.2
  wh : frm n wd
  len : ps.length ≤ 100
def ruleD (ps : List (D × D)) (wd : D) : D := .tup [.tup (ps.map fun p => .tup [p.1, p.2]), wd]
def rulF (ss : List (Str × Str)) (ps : List (D × D)) (wd : D) : Bool := ps.all (fun p => plF ss p.1 p.2) && fitsD ss wd

theorem nd_inj {α : Type} {xs : List α} (h : xs.Nodup) {i j : Nat} (hi : i < xs.length) (hj : j < xs.length) (e : xs[i] = xs[j]) : i = j := by
  rcases Nat.lt_trichotomy i j with q | q | q
  · exact absurd e (List.pairwise_iff_getElem.mp h i j hi hj q)
  · exact q
  · exact absurd e.symm (List.pairwise_iff_getElem.mp h j i hj hi q)
theorem shp_of {flat : Bool} {menu ws mu : List Str} {b : Nat} {un : List (Nat × Nat)} (h : Stk flat menu ws b mu un) (hm : ∀ x ∈ menu, x.length ≤ 3) : Shp (shapesOf ws b mu) := by
  have hl := h.w.len
  have h2 := h.b2
  have h4 := h.b4
  have h3 := h.m3
  refine ⟨?_, ?_, ?_, ?_⟩
  · rw [shapes_keys hl h.m3, List.nodup_append]
    refine ⟨h.w.nodup.sublist (List.take_sublist _ _), h.w.nodup.sublist ((List.take_sublist _ _).trans (List.drop_sublist _ _)), fun a ha c hc => ?_⟩
    rintro rfl
    obtain ⟨i, hi, e⟩ := List.getElem_of_mem ha
    obtain ⟨j, hj, e'⟩ := List.getElem_of_mem hc
    rw [List.getElem_take] at e e'
    rw [List.getElem_drop] at e'
    rw [List.length_take] at hi hj
    rw [List.length_drop] at hj
    have := nd_inj h.w.nodup (show i < ws.length by omega) (show 4 + j < ws.length by omega) (e.trans e'.symm)
    omega
  · match ws, hl, b, h2 with
    | a :: c :: r, _, b + 2, _ => exact ⟨a, c, _, by simp [shapesOf]; rfl⟩
  · simp [shapesOf]; omega
  · intro p hp
    rcases List.mem_append.mp hp with hp | hp
    · obtain ⟨x, _, rfl⟩ := List.mem_map.mp hp
      exact Nat.zero_le _
    · exact hm _ (h.mm _ (List.of_mem_zip hp).2)

/-! ### sound stocks -/
theorem count_mono {i j : Nat} (h : j ≤ i) : ∀ un : List (Nat × Nat), (un.countP fun p => decide (p.1 ≤ j)) ≤ un.countP fun p => decide (p.1 ≤ i) := fun un => List.countP_mono_left fun p _ hp => by
  have := of_decide_eq_true hp
  exact decide_eq_true (by omega)
theorem count_lt {i j : Nat} (h : j < i) : ∀ {un : List (Nat × Nat)}, (i, j) ∈ un → (un.countP fun p => decide (p.1 ≤ j)) + 1 ≤ un.countP fun p => decide (p.1 ≤ i)
  | p :: l, hm => by
    rw [List.countP_cons, List.countP_cons]
    rcases List.mem_cons.mp hm with rfl | hm
    · have := count_mono (Nat.le_of_lt h) l
      rw [if_neg (by simpa using h), if_pos (by simp)]
      omega
    · have := count_lt h hm
      have : (if decide (p.1 ≤ j) = true then 1 else 0) ≤ (if decide (p.1 ≤ i) = true then 1 else 0) := by
        by_cases c : p.1 ≤ j
        · rw [if_pos (by simpa using c), if_pos (by simp; omega)]; omega
        · rw [if_neg (by simpa using c)]; omega
      omega
theorem steps_le {flat : Bool} {menu ws mu : List Str} {b : Nat} {un : List (Nat × Nat)} (h : Stk flat menu ws b mu un) : ∀ (m i : Nat), i < 7 → stepsF (underOf ws un) m (ws.getD i "") ≤ un.countP fun p => decide (p.1 ≤ i)
  | 0, i, _ => Nat.zero_le _
  | m + 1, i, hi => by
    rw [stepsF]
    split
    · exact Nat.zero_le _
    · rename_i y hy
      obtain ⟨p, hp, e⟩ := List.mem_map.mp (lkS_in hy)
      have hu := h.u p hp
      have := h.b4
      have hl := h.w.len
      have e1 : ws.getD p.1 "" = ws.getD i "" := congrArg Prod.fst e
      have e2 : ws.getD p.2 "" = y := congrArg Prod.snd e
      have ei := ws_inj h.w.nodup (show p.1 < ws.length by omega) (show i < ws.length by omega) e1
      have := steps_le h m p.2 (by omega)
      rw [← e2]
      have hp2 : (i, p.2) ∈ un := by rw [← ei]; exact hp
      have := count_lt (show p.2 < i by omega) hp2
      omega
theorem leads_no {flat : Bool} {menu ws mu : List Str} {b : Nat} {un : List (Nat × Nat)} (h : Stk flat menu ws b mu un) : leadsB (underOf ws un) = false := by
  unfold leadsB
  rw [List.any_eq_false]
  intro p hp
  obtain ⟨q, hq, rfl⟩ := List.mem_map.mp hp
  have hu := h.u q hq
  have := h.b4
  have h1 := steps_le h ((underOf ws un).length + 1) q.1 (by omega)
  have h2 : (un.countP fun p => decide (p.1 ≤ q.1)) ≤ un.length := List.countP_le_length
  have h3 : (underOf ws un).length = un.length := by simp [underOf]
  simp only [decide_eq_true_eq]
  omega
theorem shape_base {flat : Bool} {menu ws mu : List Str} {b : Nat} {un : List (Nat × Nat)} (h : Stk flat menu ws b mu un) (hs : Shp (shapesOf ws b mu)) {i : Nat} (hi : i < b) : lkS (shapesOf ws b mu) (ws.getD i "") = some NOMK := by
  refine lkS_mem hs.nd ?_
  unfold shapesOf
  refine List.mem_append_left _ (List.mem_map.mpr ⟨ws.getD i "", ?_, rfl⟩)
  have hl := h.w.len
  have := h.b4
  refine List.mem_of_getElem? (i := i) ?_
  rw [List.getElem?_take_of_lt hi]
  exact ws_ix rfl (by omega)
theorem shape_word {flat : Bool} {menu ws mu : List Str} {b : Nat} {un : List (Nat × Nat)} (h : Stk flat menu ws b mu un) {p : Str × Str} (hp : p ∈ shapesOf ws b mu) : p.1 ∈ ws ∧ (p.2 = NOMK ∨ p.2 ∈ menu) := by
  rcases List.mem_append.mp hp with hp | hp
  · obtain ⟨x, hx, rfl⟩ := List.mem_map.mp hp
    exact ⟨List.mem_of_mem_take hx, .inl rfl⟩
  · have := List.of_mem_zip hp
    exact ⟨List.mem_of_mem_drop (List.mem_of_mem_take this.1), .inr (h.mm _ this.2)⟩
def okMark (x : Str) : Bool := decide (x.length ≤ 3) && x.cps.toList.all fun c => decide (c ∈ MARKSc)
theorem soundS_of {ss : List (Str × Str)} (h2 : 2 ≤ ss.length) (h12 : ss.length ≤ 12) (hw : ∀ p ∈ ss, isWord p.1 = true ∧ okMark p.2 = true) (two : ∃ (a b : Str) (r : List (Str × Str)), ss = (a, ("" : Str)) :: (b, ("" : Str)) :: r) : soundS ss = true := by
  unfold soundS
  rw [decide_eq_true h2, decide_eq_true h12, Bool.true_and, Bool.true_and, Bool.and_eq_true, List.all_eq_true]
  refine ⟨fun p hp => ?_, ?_⟩
  · have := hw p hp
    unfold okMark at this
    rw [this.1, Bool.true_and]
    exact this.2
  · obtain ⟨a, b, r, rfl⟩ := two
    rw [List.filter_cons_of_pos (by exact decide_eq_true rfl), List.filter_cons_of_pos (by exact decide_eq_true rfl)]
    simp
theorem soundO_of {flat : Bool} {menu ws mu : List Str} {b : Nat} {un : List (Nat × Nat)} (h : Stk flat menu ws b mu un) {ss : List (Str × Str)} (hs : ∀ i, i < b → lkS ss (ws.getD i "") = some NOMK) : soundO ss (underOf ws un) = true := by
  unfold soundO
  rw [leads_no h, Bool.and_eq_true, List.all_eq_true]
  refine ⟨fun p hp => ?_, rfl⟩
  obtain ⟨q, hq, rfl⟩ := List.mem_map.mp hp
  have hu := h.u q hq
  have := h.b4
  rw [show lkS ss (ws.getD q.1 "") = some NOMK from hs _ (by omega), show lkS ss (ws.getD q.2 "") = some NOMK from hs _ (by omega)]
  simp
theorem under_nd {flat : Bool} {menu ws mu : List Str} {b : Nat} {un : List (Nat × Nat)} (h : Stk flat menu ws b mu un) : ((underOf ws un).map (·.1)).Nodup := by
  unfold underOf
  rw [List.map_map]
  have ha := h.asc
  rw [List.pairwise_map] at ha
  refine List.Pairwise.map _ (fun p q hpq => ?_) (List.Pairwise.and_mem.mp ha)
  obtain ⟨hp, hq, hlt⟩ := hpq
  have := h.u p hp
  have := h.u q hq
  have := h.b4
  have hl := h.w.len
  exact fun e => by
    have := ws_inj h.w.nodup (show p.1 < ws.length by omega) (show q.1 < ws.length by omega) e
    omega
/-! ### forms of a stock fit it -/
theorem dp_str (x : Str) : dpD (.str x) = 0 := by simp [dpD]
theorem form_fits {ss : List (Str × Str)} (hs : Shp ss) (hw : ∀ p ∈ ss, isWord p.1 = true) {L : Str} (hL : ∀ c ∈ L.cps.toList, c ∈ LARGEc) : ∀ (n : Nat) (d : D), FormOf ss L n d → isFormD d = true ∧ fitsD ss d = true ∧ fitD d = true ∧ dpD d ≤ n + 1 := fun n d h => by
  induction h with
  | letter h =>
    rename_i n c
    refine ⟨?_, by rw [fitsD], by rw [fitD]; rfl, by rw [dp_str]; omega⟩
    rw [isFormD, isLetter]
    have : (⟨#[c]⟩ : Str).cps.toList = [c] := rfl
    rw [this, List.all_cons, List.all_nil, decide_eq_true (hL c h)]
    rfl
  | node h hl h0 hd ih =>
    rename_i n w m ds
    have hm := lkS_in h
    have h3 := hs.small _ hm
    have hwl := hw _ hm
    have hwl2 : w.length ≤ 12 := by
      unfold isWord at hwl
      rw [Bool.and_eq_true, Bool.and_eq_true] at hwl
      exact of_decide_eq_true hwl.1.2
    have h3 : m.length ≤ 3 := h3
    refine ⟨?_, ?_, ?_, ?_⟩
    · rw [isFormD, isFormsD_all, decide_eq_true (show ds.length ≤ 3 by omega), isWordD, show isWord w = true from hwl, Bool.true_and, Bool.true_and, List.all_eq_true]
      exact fun d hd => (ih d hd).1
    · rw [fitsD, fits0, h, fitsL_all]
      show (decide (m.length = ds.length) && _) = true
      rw [decide_eq_true hl.symm, Bool.true_and, List.all_eq_true]
      exact fun d hd => (ih d hd).2.1
    · rw [fitD, decide_eq_true (show (D.str w :: ds).length ≤ 1000 by simp; omega), Bool.true_and, fitL, fitD, decide_eq_true (show w.length ≤ 1000 by omega), Bool.true_and]
      exact fitL_of fun d hd => (ih d hd).2.2.1
    · rw [dpD, dpL, dp_str]
      have : dpL ds ≤ n := by
        cases ds with
        | nil => rw [dpL]; omega
        | cons d l =>
          have : 0 < n := h0 (by rw [← hl]; simp)
          exact dpL_le fun e he => by have := (ih e he).2.2.2; omega
      omega

theorem asc_len : ∀ (l : List Nat) (lo hi : Nat), l.Pairwise (· < ·) → (∀ x ∈ l, lo ≤ x ∧ x < hi) → l.length ≤ hi - lo
  | [], _, _, _, _ => Nat.zero_le _
  | x :: l, lo, hi, h, k => by
    rw [List.pairwise_cons] at h
    have h1 := k x List.mem_cons_self
    have := asc_len l (x + 1) hi h.2 fun y hy => ⟨h.1 y hy, (k y (List.mem_cons_of_mem _ hy)).2⟩
    rw [List.length_cons]
    omega
/-- what the law knows of its stock -/
structure Law3 (ss us : List (Str × Str)) (f s : Str) : Prop where
  shp : Shp ss
  two : ∃ r, ss = (f, ("" : Str)) :: (s, ("" : Str)) :: r
  ne : f ≠ s
  len : ss.length ≤ 7
  word : ∀ p ∈ ss, isWord p.1 = true ∧ p.1.length ≤ 10 ∧ okMark p.2 = true
  ulen : us.length ≤ 4
  und : (us.map (·.1)).Nodup
  ord : ∀ ss' : List (Str × Str), (∀ x, lkS ss x = some NOMK → lkS ss' x = some NOMK) → soundO ss' us = true
theorem law3_of {flat : Bool} {menu ws mu : List Str} {b : Nat} {un : List (Nat × Nat)} (h : Stk flat menu ws b mu un) (hm : ∀ x ∈ menu, okMark x = true) : ∃ f s, Law3 (shapesOf ws b mu) (underOf ws un) f s := by
  have hsh := shp_of h fun x hx => by have := hm x hx; rw [okMark, Bool.and_eq_true] at this; exact of_decide_eq_true this.1
  obtain ⟨f, s, r, e⟩ := hsh.two
  have hl := h.w.len
  have h4 := h.b4
  have h3 := h.m3
  refine ⟨f, s, hsh, ⟨r, e⟩, ?_, ?_, fun p hp => ?_, ?_, under_nd h, fun ss' hs' => soundO_of h fun i hi => hs' _ (shape_base h hsh hi)⟩
  · have := hsh.nd
    rw [e] at this
    intro z
    subst z
    simp at this
  · simp [shapesOf]; omega
  · have := shape_word h hp
    refine ⟨h.w.word _ this.1, h.w.short _ this.1, ?_⟩
    rcases this.2 with z | z
    · rw [z]; decide +kernel
    · exact hm _ z
  · have := asc_len (un.map (·.1)) 1 4 h.asc fun x hx => by
      obtain ⟨p, hp, rfl⟩ := List.mem_map.mp hx
      have := h.u p hp
      omega
    simp [underOf] at this ⊢
    omega
theorem Law3.sound {ss us : List (Str × Str)} {f s : Str} (h : Law3 ss us f s) : soundB ss us = true := by
  rw [soundB, Bool.and_eq_true]
  have hl := h.len
  obtain ⟨r, e⟩ := h.two
  have h2 : 2 ≤ ss.length := by rw [e]; simp
  exact ⟨soundS_of h2 (by omega) (fun p hp => ⟨(h.word p hp).1, (h.word p hp).2.2⟩) h.shp.two, h.ord ss fun _ z => z⟩
theorem Law3.no12 {ss us : List (Str × Str)} {f s x : Str} (h : Law3 ss us f s) (hx : 10 < x.length) : lkS ss x = none := by
  cases q : lkS ss x with
  | none => rfl
  | some y =>
    have := (h.word _ (lkS_in q)).2.1
    have : x.length ≤ 10 := this
    omega

theorem okL_all (b : Bool) : ∀ ds : List D, okL b ds = ds.all (okD b)
  | [] => by rw [okL]; rfl
  | d :: ds => by rw [okL, okL_all b ds]; rfl
theorem strOk_of {x : Str} {l : List Nat} (h : x.cps.toList.all (fun c => decide (c ∈ l)) = true) (hl : ∀ c ∈ l, c < 0x110000) : PyData.strOk x = true := by
  unfold PyData.strOk
  rw [Array.all_eq_true_iff_forall_mem]
  intro c hc
  rw [List.all_eq_true] at h
  exact decide_eq_true (hl c (of_decide_eq_true (h c (Array.mem_toList_iff.mpr hc))))
theorem word_ok {x : Str} (h : isWord x = true) : PyData.strOk x = true := by
  unfold isWord at h
  rw [Bool.and_eq_true] at h
  exact strOk_of h.2 (by decide)
theorem letter_ok {x : Str} (h : isLetter x = true) : PyData.strOk x = true := by
  unfold isLetter at h
  rw [Bool.and_eq_true] at h
  exact strOk_of h.2 (by decide)
theorem form_ok : ∀ (n : Nat) (d : D), dpD d < n → isFormD d = true → okD false d = true
  | 0, d, h, _ => by omega
  | n + 1, d, h, hf => by
    cases d with
    | str x => rw [isFormD] at hf; rw [okD]; exact letter_ok hf
    | tup ds =>
      cases ds with
      | nil => rw [isFormD] at hf; cases hf
      | cons d0 ds =>
        rw [isFormD, Bool.and_eq_true, Bool.and_eq_true, isFormsD_all] at hf
        rw [dpD] at h
        rw [okD, okL, okL_all, Bool.and_eq_true, List.all_eq_true]
        refine ⟨?_, fun d hd => form_ok n d ?_ (List.all_eq_true.mp hf.2 d hd)⟩
        · cases d0 with
          | str w0 => rw [okD]; exact word_ok hf.1.2
          | _ => cases hf.1.2
        · have := dpL_mem (List.mem_cons_of_mem d0 hd)
          omega
    | _ => simp [isFormD] at hf

end Kn

set_option synthInstance.maxHeartbeats 0
set_option synthInstance.maxSize 100000
set_option Elab.async false
set_option maxRecDepth 100000
set_option linter.all false
namespace Kn
open PySem L2
local macro_rules | `(tactic| walk_at "wk") => `(tactic| repeat (first
  | refine ⟨_, rfl, ?_⟩
  | refine ⟨_, _, rfl, rfl, ?_⟩
  | refine ⟨⟨by decide, by decide⟩, ?_⟩
  | refine ⟨(by show (0 : Int) < _; decide), ?_⟩
  | refine ⟨Or.inl ⟨by omega, by omega⟩, ?_⟩
  | refine Or.inl ⟨_, rfl, ?_⟩
  | fail))
local macro_rules | `(tactic| walk_at "lits") => `(tactic| repeat (first
  | exact lit_nil
  | exact lit_str
  | exact lit_int
  | exact lit_non
  | refine lit_cons ?_ ?_
  | refine lit_tup ?_
  | fail))
local macro_rules | `(tactic| walk_at "d") => `(tactic| simp only [↓u_tdC, ↓u_tdOp, ↓u_tdNil, ↓u_tdCons, ↓u_tdTup, ↓u_tnLst, ↓u_tdFrz, ↓u_tdFrzK, ↓u_tkNew, ↓u_tdTest, ↓u_tdAnd, ↓u_tdOr, ↓u_tdNot, ↓u_tdYes, ↓u_tdAndV, ↓u_tdOrV, ↓u_tdNotV, ↓u_tdIf, ↓u_tdCB, ↓u_tnCB, ↓u_tnAdd, ↓u_tdNoPart, ↓u_tdPart, ↓u_tdSl, ↓u_tnSl, ↓u_tdRevT, ↓u_tnRevL, ↓u_tdIsiT, ↓u_tdNext, ↓u_tdSeq, ↓u_tdBreak, ↓u_tdCont, ↓u_tdDrop, ↓u_tdRet, ↓u_tdRetN, ↓u_tdRetO, ↓u_tdIfS, ↓u_gdName, ↓u_gdNil, ↓u_gdCons, ↓u_gdTup, ↓u_tdAsg, ↓u_tdAsgN, ↓u_tdAsgK, ↓u_tiAny, ↓u_tiRng1, ↓u_tiRng2, ↓u_tdFor, ↓u_tnLc, ↓u_tdCall, ↓u_tnCall, ↓u_tdRaise, ↓u_tdApp, ↓u_tdDPut, ↓u_tkDict, ↓u_tdAsgR, ↓u_tdForR, ↓u_tdFldC, ↓u_tdSetC, ↓u_tdMeth, ↓u_tdProp, ↓u_tdMakeR, ↓u_tdMakeF, ↓u_tdRaiseS, ↓u_tdTryAs, ↓u_tdTryN, ↓u_tdXf, ↓u_tdJoin, ↓u_tnSplit, ↓u_tdPartn, ↓u_tdFmt, ↓u_tdJoined, ↓u_tkDisp, ↓u_tdShK, ↓u_tdClear, ↓u_tdOGet, ↓u_tdOSet, ↓u_tdOIn, ↓u_tdNeg, ↓u_tdForO, ↓u_tnLcO, ↓u_tnLcR, ↓u_tdGet2, ↓u_tdPopAt, ↓u_tdRg1, ↓u_tdTupRg, ↓u_tnLstRg, ↓u_tdForW, ↓u_tdAugO, ↓u_tdLPut, ↓u_tdFmtW, ↓u_tdMethK, ↓u_tdChain, ↓u_tnLc2, ↓u_tdIndex, ↓u_addF_i, ↓u_addF_s, ↓u_addF_t, ↓u_addF_l, ↓u_iiF, ↓u_mulF_i, ↓u_mulF_s, ↓u_inF_l, ↓u_inF_t, ↓u_inF_s, ↓u_inF_ds, ↓u_inF_di, ↓u_ixF_l, ↓u_ixF_t, ↓u_ixF_s, ↓u_ixF_di, ↓u_ixF_ds, ↓u_slF_l, ↓u_slF_t, ↓u_slF_s, ↓u_lenF_l, ↓u_lenF_t, ↓u_lenF_s, ↓u_lenF_d, ↓u_isiF, ↓u_isiD, ↓u_tupF_l, ↓u_tupF_t, ↓u_lstF_l, ↓u_lstF_t, ↓u_allF, ↓u_anyF, ↓u_sumF, ↓u_sortF, ↓u_intF_i, ↓u_intF_b, ↓u_strF, ↓u_walkF_l, ↓u_walkF_t, ↓u_walkF_s, ↓u_walkF_d, ↓u_arg1, ↓u_arg2, ↓u_frcL_n, ↓u_frcL_c, ↓u_addD, ↓u_iiD, ↓u_mulD, ↓u_eqD_f, ↓u_eqD_t, ↓u_inD_f, ↓u_inD_t, ↓u_ixD, ↓u_dd2, ↓u_isND_f, ↓u_isND_t, ↓u_fldF, ↓u_recF, ↓u_ofC, ↓u_isBD, ↓u_isBF_f, ↓u_isBF_t, ↓u_turnD, ↓u_isoD, ↓u_isoF_o, ↓u_isoF_n, ↓u_asD, ↓u_binOD, ↓u_idxF, ↓u_minF, ↓u_maxF, ↓u_turnD2, ↓u_mm2D, ↓u_lputF, ↓u_fmtWF_s, ↓u_fmtWF_i, ↓u_inTD_f, ↓u_inTD_t, ↓u_inTF, ↓u_refV, ↓u_getF, ↓u_popF, ↓u_dctW, ↓u_tvVar, ↓u_tvFld, ↓u_refD, ↓u_ownW, ↓u_valV1, ↓u_mergeD_n, ↓u_mergeD_c, ↓u_eqKD, ↓u_eqKF_f, ↓u_eqKF_t, ↓u_asS, ↓u_joinF_l, ↓u_joinF_t, ↓u_fmtF_s, ↓u_fmtF_i, ↓u_excF, ↓u_clsV_r, ↓u_clsV_t, ↓u_isYD, ↓b_Call, ↓b_CallN, ↓b_opt, ↓b_dd1, ↓b_asB, ↓b_asI, ↓b_frc, ↓b_for, ↓b_comp, ↓b_ite, ↓b_while, ↓b_var, ↓b_aug, ↓b_mutL, ↓b_mutD, ↓b_retV, ↓b_deref, ↓b_dd1own, ↓b_mutO, ↓b_mutDO, ↓b_frcO, ↓b_comp2, ↓b_compR, ↓b_forL, ↓b_compL, ↓b_dctC, ↓b_ref, ↓b_forR, ↓b_insF, ↓b_insC, ↓b_exB, ↓o_opt, ↓o_asB, ↓o_asI, ↓o_non, ↓o_bl, ↓o_int, ↓o_str, ↓o_ty, ↓o_tup, ↓o_lst, ↓o_dct, ↓o_obj, ↓o_varV, ↓o_varL, ↓o_varD, ↓o_frc, ↓o_augI, ↓o_augS, ↓o_augL, ↓o_retV, ↓o_iteT, ↓o_iteF, ↓o_derefL, ↓o_derefD, ↓o_mutO, ↓o_mutDO, ↓o_frcL, ↓o_frcD, ↓o_frcV, ↓o_dctC, ↓o_ref, ↓o_derefR, ↓o_dd1R, ↓o_mutR, ↓o_derefK, ↓o_dd1K, ↓o_mutK, ↓o_putT, ↓o_insF, ↓o_insC, ↓o_derefI, ↓o_dd1I, ↓o_putS, ↓o_putP, look_c, look_n, putFd_c, putFd_n, ofS_eq, ↓reduceIte, eq_self, List.foldr_cons, List.foldr_nil, DEnds.un, PSt.unset, List.zip_cons_cons, List.zip_nil_left, List.zip_nil_right, List.reverse_cons, List.reverse_nil, exL, exK, exC, tysOf, tyN, isB, tyOk, isNn, PSt.set, S0, PSt.wipe, wipeR,
  List.map_cons, List.map_nil, List.length_cons, List.length_nil, List.replicate_succ, List.replicate_zero, List.cons_append, List.nil_append, List.set_cons_zero, List.set_cons_succ, List.getElem?_cons_zero, List.getElem?_cons_succ, List.getElem?_nil,
  Bool.not_true, Bool.not_false, bq_t, bq_f, Bool.not_not, Bool.false_eq_true, true_and, and_true, Nat.reduceAdd, Nat.reduceSub, Nat.reduceLeDiff, String.reduceEq, decide_true, decide_false, Bool.true_or, Bool.false_or, Bool.true_and, Bool.false_and, Bool.or_true, Bool.or_false, Bool.and_true, Bool.and_false, decide_eq_true_eq, List.mem_cons, List.not_mem_nil, or_true, true_or, or_false, false_or, List.any_cons, List.any_nil, List.all_cons, List.all_nil, Option.map_some, Option.map_none, Option.isSome_some, Option.isSome_none, eqOk_ii, eqOk_ss, eqOk_bb, eqOk_nn, eqOk_ns, eqOk_sn, eqOk_ni, eqOk_in, eqOk_si, eqOk_is, D.int.injEq, D.str.injEq, D.bl.injEq, reduceCtorEq, keyD, atI_0, atI_1, atI_2, atI_3, atI_4, cut1, ne_eq, not_true_eq_false, not_false_eq_true, Bool.not_eq_true', Bool.not_eq_false', decide_eq_false_iff_not])
local macro_rules | `(tactic| walk_at "z") => `(tactic| first
  | (apply z_seq; (focus walk_at "z"); (focus walk_at "z"))
  | (apply z_try; (focus (intro _ _ _; walk_at "z")); (focus (intro _ _ _; walk_at "z")); (focus walk_at "z"))
  | (apply z_tryN; (focus (intro _ _ _; walk_at "z")); (focus walk_at "z"); (focus walk_at "z"))
  | (apply z_cl; (focus (intro _ _ _; walk_at "z")); (focus walk_at "z"))
  | exact inferInstance
  | (apply z_if; (focus walk_at "z"); (focus walk_at "z"); (focus walk_at "z"))
  | (apply z_while; (focus walk_at "z"); (focus walk_at "z"))
  | (apply z_for; (focus walk_at "z"); (focus walk_at "z"); (focus walk_at "z")))
variable {P : Program} {w : World} {K : PySem.W.Frag} {mg : Str → Option Value} {base : Heap}
theorem drop_get {α : Type} {l : List α} {i : Nat} {x : α} (h : l[i]? = some x) : l.drop i = x :: l.drop (i + 1) := by
  obtain ⟨hi, e⟩ := List.getElem?_eq_some_iff.mp h
  rw [List.drop_eq_getElem_cons hi, e]
/-! ### where letters stand in a form, and in which direction -/
abbrev Oc := Str × Bool
def ocD (p : Oc) : D := .tup [.str p.1, .bl p.2]
def turnB (c : Nat) (ab : Bool) : Bool := if c = 43 then ab else !ab
def mk0 (ss : List (Str × Str)) : D → List Nat
  | .str w => (match lkS ss w with
    | some m => m.cps.toList
    | none => [])
  | _ => []
mutual
def occD (ss : List (Str × Str)) : D → Bool → List Oc
  | .str x, ab => [(x, ab)]
  | .tup ds, ab => match ds with
    | [] => []
    | d :: ds => occL ss ds (mk0 ss d) ab
  | _, _ => []
def occL (ss : List (Str × Str)) : List D → List Nat → Bool → List Oc
  | [], _, _ => []
  | d :: ds, cs, ab => match cs with
    | [] => []
    | c :: cs => occD ss d (turnB c ab) ++ occL ss ds cs ab
end
theorem occL_nil {ss : List (Str × Str)} {cs : List Nat} {ab : Bool} : occL ss [] cs ab = [] := by rw [occL]
theorem occL_cons {ss : List (Str × Str)} {d : D} {ds : List D} {c : Nat} {cs : List Nat} {ab : Bool} : occL ss (d :: ds) (c :: cs) ab = occD ss d (turnB c ab) ++ occL ss ds cs ab := by rw [occL]
theorem occL_snoc {ss : List (Str × Str)} {d : D} {c : Nat} {ab : Bool} : ∀ {ds : List D} {cs : List Nat}, ds.length = cs.length → occL ss (ds ++ [d]) (cs ++ [c]) ab = occL ss ds cs ab ++ occD ss d (turnB c ab)
  | [], [], _ => by rw [List.nil_append, List.nil_append, occL_cons, occL_nil, List.append_nil]; rfl
  | e :: ds, a :: cs, h => by rw [List.cons_append, List.cons_append, occL_cons, occL_cons, occL_snoc (by simpa using h), List.append_assoc]
theorem occ_len {ss : List (Str × Str)} : ∀ (n : Nat) (d : D) (ab : Bool), dpD d ≤ n → isFormD d = true → (occD ss d ab).length ≤ 3 ^ n
  | n, .str x, ab, _, _ => by rw [occD]; exact Nat.one_le_pow _ _ (by decide)
  | 0, .tup ds, ab, h, _ => by rw [dpD] at h; omega
  | n + 1, .tup ds, ab, h, hf => by
    cases ds with
    | nil => rw [isFormD] at hf; cases hf
    | cons d0 ds =>
      rw [isFormD, Bool.and_eq_true, Bool.and_eq_true, isFormsD_all, List.all_eq_true] at hf
      obtain ⟨⟨h3, _⟩, hfs⟩ := hf
      have h3 := of_decide_eq_true h3
      rw [dpD] at h
      have key : ∀ (es : List D) (cs : List Nat), (∀ e ∈ es, e ∈ ds) → (occL ss es cs ab).length ≤ es.length * 3 ^ n := by
        intro es
        induction es with
        | nil => intro cs _; rw [occL_nil]; exact Nat.zero_le _
        | cons e es ih =>
          intro cs he
          cases cs with
          | nil => rw [occL]; exact Nat.zero_le _
          | cons c cs =>
            rw [occL_cons, List.length_append, List.length_cons, Nat.add_mul, Nat.one_mul]
            have := ih cs fun x hx => he x (List.mem_cons_of_mem _ hx)
            have hm := he e List.mem_cons_self
            have := occ_len (ss := ss) n e (turnB c ab) (by have := dpL_mem (List.mem_cons_of_mem d0 hm); omega) (hfs e hm)
            omega
      rw [occD]
      have := key ds (mk0 ss d0) fun _ h => h
      rw [Nat.pow_succ]
      have h2 : ds.length * 3 ^ n ≤ 3 * 3 ^ n := Nat.mul_le_mul_right _ h3
      omega
theorem occ_take {ss : List (Str × Str)} {es : List D} {cs : List Nat} {ab : Bool} {i : Nat} {d : D} {c : Nat} (h1 : es[i]? = some d) (h2 : cs[i]? = some c) : occL ss (es.take (i + 1)) (cs.take (i + 1)) ab = occL ss (es.take i) (cs.take i) ab ++ occD ss d (turnB c ab) := by
  rw [take_succ_get h1, take_succ_get h2]
  refine occL_snoc ?_
  rw [List.length_take, List.length_take, Nat.min_eq_left (Nat.le_of_lt (List.getElem?_eq_some_iff.mp h1).1), Nat.min_eq_left (Nat.le_of_lt (List.getElem?_eq_some_iff.mp h2).1)]
theorem occ_pre {ss : List (Str × Str)} {ab : Bool} : ∀ {i : Nat} {es : List D} {cs : List Nat}, cs.length = es.length → (occL ss (es.take i) (cs.take i) ab).length ≤ (occL ss es cs ab).length
  | 0, _, _, _ => by rw [List.take_zero, occL_nil]; exact Nat.zero_le _
  | i + 1, [], _, _ => by rw [List.take_nil, occL_nil]; exact Nat.zero_le _
  | i + 1, e :: es, c :: cs, h => by
    rw [List.take_succ_cons, List.take_succ_cons, occL_cons, occL_cons, List.length_append, List.length_append]
    have := occ_pre (ss := ss) (ab := ab) (i := i) (es := es) (cs := cs) (by simpa using h)
    omega
/-- a form that fits, with its marks -/
structure FtF (ss : List (Str × Str)) (n : Nat) (d : D) : Prop where
  f : isFormD d = true
  p : fitD d = true
  dp : dpD d ≤ n
  t : fitsD ss d = true
theorem FtF.node {ss : List (Str × Str)} {n : Nat} {d0 : D} {ds : List D} (h : FtF ss n (.tup (d0 :: ds))) : ∃ w m, d0 = .str w ∧ lkS ss w = some m ∧ m.length = ds.length ∧ ds.length ≤ 3 ∧ 0 < n ∧ ∀ d ∈ ds, FtF ss (n - 1) d := by
  obtain ⟨h1, h2, h3, h4⟩ := h
  rw [isFormD, Bool.and_eq_true, Bool.and_eq_true, isFormsD_all, List.all_eq_true] at h1
  rw [fitD, Bool.and_eq_true, fitL, Bool.and_eq_true] at h2
  rw [dpD] at h3
  rw [fitsD, Bool.and_eq_true, fitsL_all, List.all_eq_true] at h4
  obtain ⟨⟨a1, a2⟩, a3⟩ := h1
  cases d0 with
  | str w =>
    have a4 := h4.1
    rw [fits0] at a4
    cases hm : lkS ss w with
    | none => rw [hm] at a4; cases a4
    | some m =>
      rw [hm] at a4
      exact ⟨w, m, rfl, hm, of_decide_eq_true a4, of_decide_eq_true a1, by omega, fun d hd => ⟨a3 d hd, fitL_mem h2.2.2 d hd, by have := dpL_mem (List.mem_cons_of_mem (D.str w) hd); omega, h4.2 d hd⟩⟩
  | _ => cases a2
theorem FtF.cases {ss : List (Str × Str)} {n : Nat} {d : D} (h : FtF ss n d) : (∃ x, d = .str x ∧ isLetter x = true) ∨ ∃ d0 ds, d = .tup (d0 :: ds) := by
  cases d with
  | str x => exact .inl ⟨x, rfl, by have := h.f; rw [isFormD] at this; exact this⟩
  | tup ds =>
    cases ds with
    | nil => have := h.f; rw [isFormD] at this; cases this
    | cons a b => exact .inr ⟨a, b, rfl⟩
  | _ => have := h.f; simp [isFormD] at this
theorem mark_in {ss : List (Str × Str)} (hk : ∀ p ∈ ss, okMark p.2 = true) {w m : Str} (h : lkS ss w = some m) {c : Nat} (hc : c ∈ m.cps.toList) : c = 43 ∨ c = 45 := by
  have := hk _ (lkS_in h)
  rw [okMark, Bool.and_eq_true, List.all_eq_true] at this
  have := of_decide_eq_true (this.2 c hc)
  simpa [MARKSc] using this

/-! ### going up (plain) -/
def ups (us : List (Str × Str)) : Nat → Str → List Str
  | 0, b => [b]
  | n + 1, b => b :: match lkS us b with
    | none => []
    | some y => ups us n y
def upsE (us : List (Str × Str)) (b : Str) : List Str := ups us us.length b
theorem steps_end {us : List (Str × Str)} (h : leadsB us = false) (b : Str) : stepsF us (us.length + 1) b ≤ us.length := by
  cases hy : lkS us b with
  | none => rw [stepsF, hy]; exact Nat.zero_le _
  | some y =>
    unfold leadsB at h
    rw [List.any_eq_false] at h
    have := h _ (lkS_in hy)
    simp only [decide_eq_true_eq] at this
    omega
theorem ups_none {us : List (Str × Str)} {b : Str} (h : lkS us b = none) : ∀ n, ups us n b = [b]
  | 0 => rfl
  | n + 1 => by rw [ups, h]
theorem ups_len {us : List (Str × Str)} : ∀ n b, (ups us n b).length ≤ n + 1
  | 0, b => by simp [ups]
  | n + 1, b => by
    rw [ups, List.length_cons]
    cases lkS us b with
    | none => simp
    | some y => have := ups_len (us := us) n y; dsimp only; omega
theorem ups_self {us : List (Str × Str)} (n : Nat) (b : Str) : b ∈ ups us n b := by
  cases n <;> simp [ups]
/-- more fuel says the same when it ends -/
theorem ups_more {us : List (Str × Str)} : ∀ n m b, stepsF us (n + 1) b ≤ n → n ≤ m → ups us m b = ups us n b
  | 0, m, b, h, _ => by
    cases hy : lkS us b with
    | none => rw [ups_none hy, ups_none hy]
    | some y => rw [stepsF, hy] at h; simp at h
  | n + 1, 0, b, _, hm => by omega
  | n + 1, m + 1, b, h, hm => by
    rw [ups, ups]
    cases hy : lkS us b with
    | none => rfl
    | some y =>
      rw [stepsF, hy] at h
      dsimp only at h ⊢
      rw [ups_more n m y (by omega) (by omega)]
theorem steps_mono {us : List (Str × Str)} : ∀ n m b, stepsF us (n + 1) b ≤ n → n ≤ m → stepsF us (m + 1) b = stepsF us (n + 1) b
  | 0, m, b, h, _ => by
    cases hy : lkS us b with
    | none => rw [stepsF, stepsF, hy]
    | some y => rw [stepsF, hy] at h; simp at h
  | n + 1, 0, b, _, hm => by omega
  | n + 1, m + 1, b, h, hm => by
    rw [stepsF, stepsF]
    cases hy : lkS us b with
    | none => rfl
    | some y =>
      rw [stepsF, hy] at h
      dsimp only at h ⊢
      rw [steps_mono n m y (by omega) (by omega)]
theorem upsE_cons {us : List (Str × Str)} (h : leadsB us = false) {b y : Str} (hy : lkS us b = some y) : upsE us b = b :: upsE us y := by
  have h1 := steps_end h b
  have h2 := steps_end h y
  rw [upsE, upsE, ← ups_more us.length (us.length + 1) b h1 (by omega), ups, hy]
/-- all above a base is a base -/
theorem ups_base {ss us : List (Str × Str)} (h : ∀ p ∈ us, lkS ss p.2 = some NOMK) : ∀ n b, lkS ss b = some NOMK → ∀ x ∈ ups us n b, lkS ss x = some NOMK
  | 0, b, hb, x, hx => by rw [ups, List.mem_singleton] at hx; rw [hx]; exact hb
  | n + 1, b, hb, x, hx => by
    rw [ups] at hx
    rcases List.mem_cons.mp hx with rfl | hx
    · exact hb
    · cases hy : lkS us b with
      | none => rw [hy] at hx; cases hx
      | some y => rw [hy] at hx; exact ups_base h n y (h _ (lkS_in hy)) x hx
theorem soundO_base {ss us : List (Str × Str)} (h : soundO ss us = true) : ∀ p ∈ us, lkS ss p.2 = some NOMK := fun p hp => by
  unfold soundO at h
  rw [Bool.and_eq_true, List.all_eq_true] at h
  have := h.1 p hp
  rw [Bool.and_eq_true] at this
  exact of_decide_eq_true this.2
theorem soundO_leads {ss us : List (Str × Str)} (h : soundO ss us = true) : leadsB us = false := by
  unfold soundO at h
  rw [Bool.and_eq_true] at h
  simpa using h.2
/-! ### kinds under kinds (plain) -/
def zipM (f : D → D → Bool) : List Nat → List D → List D → Bool
  | c :: cs, a :: as, b :: bs => (if c = 43 then f a b else f b a) && zipM f cs as bs
  | _, _, _ => true
def lieB (ss us : List (Str × Str)) : Nat → D → D → Bool
  | n + 1, .tup (.str x :: as), .tup (.str y :: bs) => if (as.isEmpty && bs.isEmpty) = true then decide (y ∈ upsE us x) else decide (x = y) && zipM (lieB ss us n) (mk0 ss (.str x)) as bs
  | _, _, _ => false
structure KdF (ss : List (Str × Str)) (n : Nat) (d : D) : Prop where
  t : FtF ss n d
  l : hasLetD d = false
theorem KdF.node {ss : List (Str × Str)} {n : Nat} {d : D} (h : KdF ss n d) : ∃ w m ds, d = .tup (.str w :: ds) ∧ lkS ss w = some m ∧ m.length = ds.length ∧ ds.length ≤ 3 ∧ 0 < n ∧ isWord w = true ∧ ∀ d ∈ ds, KdF ss (n - 1) d := by
  rcases h.t.cases with ⟨x, rfl, _⟩ | ⟨d0, es, rfl⟩
  · have := h.l; rw [hasLetD] at this; cases this
  · obtain ⟨w, m, rfl, h1, h2, h3, h4, h5⟩ := h.t.node
    have hl := h.l
    rw [hasLetD, hasLetL_any, List.any_eq_false] at hl
    have hw := h.t.f
    rw [isFormD, Bool.and_eq_true, Bool.and_eq_true] at hw
    exact ⟨w, m, es, rfl, h1, h2, h3, h4, hw.1.2, fun d hd => ⟨h5 d hd, by simpa using hl d hd⟩⟩
theorem KdF.of {ss : List (Str × Str)} {n : Nat} {w m : Str} {ds : List D} (h1 : lkS ss w = some m) (h2 : m.length = ds.length) (h3 : ds.length ≤ 3) (h4 : isWord w = true) (h5 : ∀ d ∈ ds, KdF ss n d) : KdF ss (n + 1) (.tup (.str w :: ds)) := by
  have hwl : w.length ≤ 12 := by
    unfold isWord at h4
    rw [Bool.and_eq_true, Bool.and_eq_true] at h4
    exact of_decide_eq_true h4.1.2
  refine ⟨⟨?_, ?_, ?_, ?_⟩, ?_⟩
  · rw [isFormD, decide_eq_true h3, show isWordD (.str w) = true from h4, isFormsD_all, List.all_eq_true.mpr fun d hd => (h5 d hd).t.f]; rfl
  · rw [fitD, fitL, fitD, fitL_of fun d hd => (h5 d hd).t.p, decide_eq_true (show w.length ≤ 1000 by omega), decide_eq_true (by rw [List.length_cons]; omega)]; rfl
  · have : dpL ds ≤ n := dpL_le fun d hd => (h5 d hd).t.dp
    rw [dpD, dpL]
    have : dpD (D.str w) = 0 := by simp [dpD]
    omega
  · rw [fitsD, fits0, h1, fitsL_all, List.all_eq_true.mpr fun d hd => (h5 d hd).t.t]
    simp [h2]
  · rw [hasLetD, hasLetL_any, List.any_eq_false]
    exact fun d hd => by rw [(h5 d hd).l]; simp
theorem KdF.le {ss : List (Str × Str)} {n m : Nat} {d : D} (h : KdF ss n d) (hm : n ≤ m) : KdF ss m d := ⟨⟨h.t.f, h.t.p, Nat.le_trans h.t.dp hm, h.t.t⟩, h.l⟩
theorem KdF.kind {ss : List (Str × Str)} {n : Nat} {d : D} (h : KdF ss n d) : isKindD ss d = true := by
  unfold isKindD
  rw [h.t.f, h.l, h.t.t]; rfl
theorem nomk_len {m : Str} : m = Str.ofString "" ↔ m.length = 0 := by
  constructor
  · rintro rfl; decide +kernel
  · intro h
    have : m.cps.toList = [] := List.length_eq_zero_iff.mp h
    obtain ⟨a⟩ := m
    have e : a = #[] := by
      have : a.toList = [] := this
      exact Array.toList_eq_nil_iff.mp this
    rw [e]; decide +kernel
theorem last_at {α : Type} {l : List α} {x : α} : atI (l ++ [x]) (-1) = some x := by
  have e : ixN (l ++ [x]).length (-1) = some l.length := by
    unfold ixN
    rw [List.length_append, List.length_singleton, if_neg (by decide), if_pos (by omega)]
    congr 1
    omega
  unfold atI
  rw [e]
  simp

end Kn

set_option synthInstance.maxHeartbeats 0
set_option synthInstance.maxSize 100000
set_option Elab.async false
set_option maxRecDepth 100000
set_option linter.all false
namespace Kn
open PySem L2
local macro_rules | `(tactic| walk_at "wk") => `(tactic| repeat (first
  | refine ⟨_, rfl, ?_⟩
  | refine ⟨_, _, rfl, rfl, ?_⟩
  | refine ⟨⟨by decide, by decide⟩, ?_⟩
  | refine ⟨(by show (0 : Int) < _; decide), ?_⟩
  | refine ⟨Or.inl ⟨by omega, by omega⟩, ?_⟩
  | refine Or.inl ⟨_, rfl, ?_⟩
  | fail))
local macro_rules | `(tactic| walk_at "lits") => `(tactic| repeat (first
  | exact lit_nil
  | exact lit_str
  | exact lit_int
  | exact lit_non
  | refine lit_cons ?_ ?_
  | refine lit_tup ?_
  | fail))
local macro_rules | `(tactic| walk_at "d") => `(tactic| simp only [↓u_tdC, ↓u_tdOp, ↓u_tdNil, ↓u_tdCons, ↓u_tdTup, ↓u_tnLst, ↓u_tdFrz, ↓u_tdFrzK, ↓u_tkNew, ↓u_tdTest, ↓u_tdAnd, ↓u_tdOr, ↓u_tdNot, ↓u_tdYes, ↓u_tdAndV, ↓u_tdOrV, ↓u_tdNotV, ↓u_tdIf, ↓u_tdCB, ↓u_tnCB, ↓u_tnAdd, ↓u_tdNoPart, ↓u_tdPart, ↓u_tdSl, ↓u_tnSl, ↓u_tdRevT, ↓u_tnRevL, ↓u_tdIsiT, ↓u_tdNext, ↓u_tdSeq, ↓u_tdBreak, ↓u_tdCont, ↓u_tdDrop, ↓u_tdRet, ↓u_tdRetN, ↓u_tdRetO, ↓u_tdIfS, ↓u_gdName, ↓u_gdNil, ↓u_gdCons, ↓u_gdTup, ↓u_tdAsg, ↓u_tdAsgN, ↓u_tdAsgK, ↓u_tiAny, ↓u_tiRng1, ↓u_tiRng2, ↓u_tdFor, ↓u_tnLc, ↓u_tdCall, ↓u_tnCall, ↓u_tdRaise, ↓u_tdApp, ↓u_tdDPut, ↓u_tkDict, ↓u_tdAsgR, ↓u_tdForR, ↓u_tdFldC, ↓u_tdSetC, ↓u_tdMeth, ↓u_tdProp, ↓u_tdMakeR, ↓u_tdMakeF, ↓u_tdRaiseS, ↓u_tdTryAs, ↓u_tdTryN, ↓u_tdXf, ↓u_tdJoin, ↓u_tnSplit, ↓u_tdPartn, ↓u_tdFmt, ↓u_tdJoined, ↓u_tkDisp, ↓u_tdShK, ↓u_tdClear, ↓u_tdOGet, ↓u_tdOSet, ↓u_tdOIn, ↓u_tdNeg, ↓u_tdForO, ↓u_tnLcO, ↓u_tnLcR, ↓u_tdGet2, ↓u_tdPopAt, ↓u_tdRg1, ↓u_tdTupRg, ↓u_tnLstRg, ↓u_tdForW, ↓u_tdAugO, ↓u_tdLPut, ↓u_tdFmtW, ↓u_tdMethK, ↓u_tdChain, ↓u_tnLc2, ↓u_tdIndex, ↓u_addF_i, ↓u_addF_s, ↓u_addF_t, ↓u_addF_l, ↓u_iiF, ↓u_mulF_i, ↓u_mulF_s, ↓u_inF_l, ↓u_inF_t, ↓u_inF_s, ↓u_inF_ds, ↓u_inF_di, ↓u_ixF_l, ↓u_ixF_t, ↓u_ixF_s, ↓u_ixF_di, ↓u_ixF_ds, ↓u_slF_l, ↓u_slF_t, ↓u_slF_s, ↓u_lenF_l, ↓u_lenF_t, ↓u_lenF_s, ↓u_lenF_d, ↓u_isiF, ↓u_isiD, ↓u_tupF_l, ↓u_tupF_t, ↓u_lstF_l, ↓u_lstF_t, ↓u_allF, ↓u_anyF, ↓u_sumF, ↓u_sortF, ↓u_intF_i, ↓u_intF_b, ↓u_strF, ↓u_walkF_l, ↓u_walkF_t, ↓u_walkF_s, ↓u_walkF_d, ↓u_arg1, ↓u_arg2, ↓u_frcL_n, ↓u_frcL_c, ↓u_addD, ↓u_iiD, ↓u_mulD, ↓u_eqD_f, ↓u_eqD_t, ↓u_inD_f, ↓u_inD_t, ↓u_ixD, ↓u_dd2, ↓u_isND_f, ↓u_isND_t, ↓u_fldF, ↓u_recF, ↓u_ofC, ↓u_isBD, ↓u_isBF_f, ↓u_isBF_t, ↓u_turnD, ↓u_isoD, ↓u_isoF_o, ↓u_isoF_n, ↓u_asD, ↓u_binOD, ↓u_idxF, ↓u_minF, ↓u_maxF, ↓u_turnD2, ↓u_mm2D, ↓u_lputF, ↓u_fmtWF_s, ↓u_fmtWF_i, ↓u_inTD_f, ↓u_inTD_t, ↓u_inTF, ↓u_refV, ↓u_getF, ↓u_popF, ↓u_dctW, ↓u_tvVar, ↓u_tvFld, ↓u_refD, ↓u_ownW, ↓u_valV1, ↓u_mergeD_n, ↓u_mergeD_c, ↓u_eqKD, ↓u_eqKF_f, ↓u_eqKF_t, ↓u_asS, ↓u_joinF_l, ↓u_joinF_t, ↓u_fmtF_s, ↓u_fmtF_i, ↓u_excF, ↓u_clsV_r, ↓u_clsV_t, ↓u_isYD, ↓b_Call, ↓b_CallN, ↓b_opt, ↓b_dd1, ↓b_asB, ↓b_asI, ↓b_frc, ↓b_for, ↓b_comp, ↓b_ite, ↓b_while, ↓b_var, ↓b_aug, ↓b_mutL, ↓b_mutD, ↓b_retV, ↓b_deref, ↓b_dd1own, ↓b_mutO, ↓b_mutDO, ↓b_frcO, ↓b_comp2, ↓b_compR, ↓b_forL, ↓b_compL, ↓b_dctC, ↓b_ref, ↓b_forR, ↓b_insF, ↓b_insC, ↓b_exB, ↓o_opt, ↓o_asB, ↓o_asI, ↓o_non, ↓o_bl, ↓o_int, ↓o_str, ↓o_ty, ↓o_tup, ↓o_lst, ↓o_dct, ↓o_obj, ↓o_varV, ↓o_varL, ↓o_varD, ↓o_frc, ↓o_augI, ↓o_augS, ↓o_augL, ↓o_retV, ↓o_iteT, ↓o_iteF, ↓o_derefL, ↓o_derefD, ↓o_mutO, ↓o_mutDO, ↓o_frcL, ↓o_frcD, ↓o_frcV, ↓o_dctC, ↓o_ref, ↓o_derefR, ↓o_dd1R, ↓o_mutR, ↓o_derefK, ↓o_dd1K, ↓o_mutK, ↓o_putT, ↓o_insF, ↓o_insC, ↓o_derefI, ↓o_dd1I, ↓o_putS, ↓o_putP, look_c, look_n, putFd_c, putFd_n, ofS_eq, ↓reduceIte, eq_self, List.foldr_cons, List.foldr_nil, DEnds.un, PSt.unset, List.zip_cons_cons, List.zip_nil_left, List.zip_nil_right, List.reverse_cons, List.reverse_nil, exL, exK, exC, tysOf, tyN, isB, tyOk, isNn, PSt.set, S0, PSt.wipe, wipeR,
  List.map_cons, List.map_nil, List.length_cons, List.length_nil, List.replicate_succ, List.replicate_zero, List.cons_append, List.nil_append, List.set_cons_zero, List.set_cons_succ, List.getElem?_cons_zero, List.getElem?_cons_succ, List.getElem?_nil,
  Bool.not_true, Bool.not_false, bq_t, bq_f, Bool.not_not, Bool.false_eq_true, true_and, and_true, Nat.reduceAdd, Nat.reduceSub, Nat.reduceLeDiff, String.reduceEq, decide_true, decide_false, Bool.true_or, Bool.false_or, Bool.true_and, Bool.false_and, Bool.or_true, Bool.or_false, Bool.and_true, Bool.and_false, decide_eq_true_eq, List.mem_cons, List.not_mem_nil, or_true, true_or, or_false, false_or, List.any_cons, List.any_nil, List.all_cons, List.all_nil, Option.map_some, Option.map_none, Option.isSome_some, Option.isSome_none, eqOk_ii, eqOk_ss, eqOk_bb, eqOk_nn, eqOk_ns, eqOk_sn, eqOk_ni, eqOk_in, eqOk_si, eqOk_is, D.int.injEq, D.str.injEq, D.bl.injEq, reduceCtorEq, keyD, atI_0, atI_1, atI_2, atI_3, atI_4, cut1, ne_eq, not_true_eq_false, not_false_eq_true, Bool.not_eq_true', Bool.not_eq_false', decide_eq_false_iff_not])
local macro_rules | `(tactic| walk_at "z") => `(tactic| first
  | (apply z_seq; (focus walk_at "z"); (focus walk_at "z"))
  | (apply z_try; (focus (intro _ _ _; walk_at "z")); (focus (intro _ _ _; walk_at "z")); (focus walk_at "z"))
  | (apply z_tryN; (focus (intro _ _ _; walk_at "z")); (focus walk_at "z"); (focus walk_at "z"))
  | (apply z_cl; (focus (intro _ _ _; walk_at "z")); (focus walk_at "z"))
  | exact inferInstance
  | (apply z_if; (focus walk_at "z"); (focus walk_at "z"); (focus walk_at "z"))
  | (apply z_while; (focus walk_at "z"); (focus walk_at "z"))
  | (apply z_for; (focus walk_at "z"); (focus walk_at "z"); (focus walk_at "z")))
variable {P : Program} {w : World} {K : PySem.W.Frag} {mg : Str → Option Value} {base : Heap}
abbrev s_uppers : Stmt := top 20
abbrev N_uppers : List Str := ["stock", "base", "found"]
abbrev P_uppers : List Str := ["stock", "base"]
theorem sc_uppers : FnScope N_uppers P_uppers (defScope s_uppers) := ⟨rfl, rfl, rfl, by decide +kernel, rfl, by decide +kernel, by decide +kernel⟩
abbrev s_lies_under : Stmt := top 21
abbrev N_lies_under : List Str := ["stock", "low", "high", "marks", "k"]
abbrev P_lies_under : List Str := ["stock", "low", "high"]
theorem sc_lies_under : FnScope N_lies_under P_lies_under (defScope s_lies_under) := ⟨rfl, rfl, rfl, by decide +kernel, rfl, by decide +kernel, by decide +kernel⟩
def F_uppers (CS : Addr) : FSpec := fun ds W Q _ => ∃ (ss us : List (Str × Str)) (x : Str), ds = [.obj CS (stkC ss us), .str x] ∧ leadsB us = false ∧ us.length ≤ 1000 ∧ Q (.lst ((upsE us x).map D.str)) W
theorem ok_uppers (F : Fz K mg "uppers" s_uppers P_uppers) (T : Txt K mg) : Fx P w K mg base (L2.CX P w) "uppers" 1 P_uppers (lift K (F_uppers (clsA mg "Stock"))) := by
  refine F.okD sc_uppers (fun ds W Q E h => by obtain ⟨ss, us, x, rfl, _⟩ := h; rfl) (fun f cdv A outer s H E e ds Qd Ed hr lk h => ?_)
  obtain ⟨ss, us, b, rfl, hl, hul, k⟩ := h
  refine ⟨_, _, (pss_cons (setO_of (ps_set (i := 2) sc_uppers.nd rfl (Or.inl rfl) (pe_lst (pa_cons (pv 1) pa_nil))))
      (pss_cons (ps_while (passes_of rfl) (pt_cmpR (op_inU K (hu65_of hr)) (pe_ix (ix_U K (hu_of hr)) (pv 2) (pe_un un_neg pe_int) (fun _ _ => rfl)) (fldX T.f_Stock_above (pv 0)) (by rfl)) (pss_one (ps_expr (pe_bmK K PySem.F.plainAttrs_list PySem.F.slot_list_append PySem.F.type_list_append mt_append (pv 2) (pa_cons (pe_ix (ix_U K (hu_of hr)) (fldX T.f_Stock_above (pv 0)) (pe_ix (ix_U K (hu_of hr)) (pv 2) (pe_un un_neg pe_int) (fun _ _ => rfl)) (fun _ _ => rfl)) pa_nil)))))
      (pss_one (ps_ret (pv 2))))), inferInstance, ?_⟩
  unfold stkC
  walk_at "d"
  have h1 := steps_end hl b
  refine while_by (fun m S => ∃ (L : List Str) (x : Str), S = ⟨[some (.val (.obj (clsA mg "Stock") [("shapes", .dct (dkS ss)), ("above", .dct (dkS us))])), some (.val (.str b)), some (.ownL ((L ++ [x]).map D.str))], e.W⟩ ∧ m + L.length = us.length ∧ upsE us b = L ++ ups us m x ∧ stepsF us (us.length + 1) b = L.length + stepsF us (m + 1) x) us.length ⟨[], b, rfl, by simp, rfl, by simp⟩ ?_
  rintro m S ⟨L, x, rfl, hm, hu, hs⟩
  have hat : atI ((L ++ [x]).map D.str) (-1) = some (.str x) := by rw [List.map_append]; exact last_at
  walk_at "d"
  rw [hat]
  walk_at "d"
  rw [look_dkS]
  cases hy : lkS us x with
  | none =>
    walk_at "d"
    rw [hu, ups_none hy] at k
    exact k
  | some y =>
    walk_at "d"
    refine ⟨_, fun S' h => h, ?_⟩
    rw [hat]
    walk_at "d"
    rw [look_dkS, hy]
    walk_at "d"
    have hs2 : stepsF us (m + 1) x = stepsF us m y + 1 := by rw [stepsF, hy]
    rw [hs2] at hs
    obtain ⟨m, rfl⟩ : ∃ m', m = m' + 1 := ⟨m - 1, by omega⟩
    rw [ups, hy] at hu
    refine ⟨by simp; omega, m, by omega, L ++ [x], y, by simp, by rw [List.length_append, List.length_singleton]; omega, by rw [hu]; simp, by rw [List.length_append, List.length_singleton]; omega⟩
def F_lies (CS : Addr) (n : Nat) : FSpec := fun ds W Q _ => ∃ (ss us : List (Str × Str)) (a b : D), ds = [.obj CS (stkC ss us), a, b] ∧ (∀ p ∈ ss, okMark p.2 = true) ∧ leadsB us = false ∧ us.length ≤ 1000 ∧ KdF ss n a ∧ KdF ss n b ∧ Q (.bl (lieB ss us n a b)) W
theorem str_mem {x : Str} {l : List Str} : D.str x ∈ l.map D.str ↔ x ∈ l := by
  constructor
  · intro h
    obtain ⟨q, hq, e⟩ := List.mem_map.mp h
    injection e with e
    rw [← e]; exact hq
  · exact fun h => List.mem_map.mpr ⟨_, h, rfl⟩
theorem zipM_nil {f : D → D → Bool} {as bs : List D} : zipM f [] as bs = true := by cases as <;> cases bs <;> rfl
theorem zipM_drop {f : D → D → Bool} {cs : List Nat} {as bs : List D} {i c : Nat} {a b : D} (h1 : cs[i]? = some c) (h2 : as[i]? = some a) (h3 : bs[i]? = some b) : zipM f (cs.drop i) (as.drop i) (bs.drop i) = ((if c = 43 then f a b else f b a) && zipM f (cs.drop (i + 1)) (as.drop (i + 1)) (bs.drop (i + 1))) := by
  rw [drop_get h1, drop_get h2, drop_get h3, zipM]
theorem lies_step (F : Fz K mg "lies_under" s_lies_under P_lies_under) (T : Txt K mg) (n : Nat) (G_uppers : Fx P w K mg base (L2.CX P w) "uppers" 1 P_uppers (lift K (F_uppers (clsA mg "Stock")))) {Fs : FSpec} (G_lies_under : Fx P w K mg base (L2.CX P w) "lies_under" (n + 1) P_lies_under (lift K Fs)) (hG : ∀ m, n = m + 1 → ∀ ds W Q E, F_lies (clsA mg "Stock") m ds W Q E → Fs ds W Q E) : Fx P w K mg base (L2.CX P w) "lies_under" (n + 2) P_lies_under (lift K (F_lies (clsA mg "Stock") n)) := by
  refine F.okD sc_lies_under (fun ds W Q E h => by obtain ⟨ss, us, a, b, rfl, _⟩ := h; rfl) (fun f cdv A outer s H E e ds Qd Ed hr lk h => ?_)
  obtain ⟨ss, us, a, b, rfl, hk, hl, hul, ha, hb, k⟩ := h
  obtain ⟨x, m, as, rfl, hx, hml, h3, hn0, _, has⟩ := ha.node
  obtain ⟨y, m', bs, rfl, hy, hml', h3', _, _, hbs⟩ := hb.node
  obtain ⟨n', rfl⟩ : ∃ n', n = n' + 1 := ⟨n - 1, by omega⟩
  refine ⟨_, _, (pss_cons (ps_if (PW.pt (pw_and (pt_cmpR (op_eqU K hr.units) (pe_callB (call_lenU K) (by rfl) T.b_len PySem.boot_len (pa_cons (pv 1) pa_nil)) pe_int (nomark _)) (pw_and1 (pt_cmpR (op_eqU K hr.units) (pe_callB (call_lenU K) (by rfl) T.b_len PySem.boot_len (pa_cons (pv 2) pa_nil)) pe_int (nomark _))))) (pss_one (ps_ret (pe_cmpR (op_inU K (hu65_of hr)) (pe_ix (ix_U K (hu_of hr)) (pv 2) pe_int (fun _ _ => rfl)) (fcallX (takes_of rfl rfl rfl rfl) G_uppers (hr.mono (by first | decide | omega)) (by rfl) (pa_cons (pv 0) (pa_cons (pe_ix (ix_U K (hu_of hr)) (pv 1) pe_int (fun _ _ => rfl)) pa_nil))) (by rfl)))) pss_nil)
      (pss_cons (ps_if (pt_cmpR (op_neU K hr.units) (pe_ix (ix_U K (hu_of hr)) (pv 1) pe_int (fun _ _ => rfl)) (pe_ix (ix_U K (hu_of hr)) (pv 2) pe_int (fun _ _ => rfl)) (nomark _)) (pss_one (ps_ret pe_bl)) pss_nil)
      (pss_cons (ps_set (i := 3) sc_lies_under.nd rfl (Or.inl rfl) (pe_ix (ix_U K (hu_of hr)) (fldX T.f_Stock_shapes (pv 0)) (pe_ix (ix_U K (hu_of hr)) (pv 1) pe_int (fun _ _ => rfl)) (fun _ _ => rfl)))
      (pss_cons (ps_for (passes_of rfl) rfl (pi_range1 (by rfl) T.b_range (pa_cons (pe_callB (call_lenU K) (by rfl) T.b_len PySem.boot_len (pa_cons (pv 3) pa_nil)) pa_nil)) (pg_name (i := 4) sc_lies_under.nd rfl (Or.inl rfl)) (pss_cons (ps_if (PW.pt (pw_and (pt_cmpR (op_eqU K hr.units) (pe_ix (ix_U K (hu_of hr)) (pv 3) (pv 4) (fun _ _ => rfl)) pe_str (nomark _)) (pw_and1 (pt_not (pt_val (fcallX (takes_of rfl rfl rfl rfl) G_lies_under (hr.mono (by first | decide | omega)) (by rfl) (pa_cons (pv 0) (pa_cons (pe_ix (ix_U K (hu_of hr)) (pv 1) (pe_op (op_addU K) (pv 4) pe_int) (fun _ _ => rfl)) (pa_cons (pe_ix (ix_U K (hu_of hr)) (pv 2) (pe_op (op_addU K) (pv 4) pe_int) (fun _ _ => rfl)) pa_nil))))))))) (pss_one (ps_ret pe_bl)) pss_nil)
      (pss_one (ps_if (PW.pt (pw_and (pt_cmpR (op_eqU K hr.units) (pe_ix (ix_U K (hu_of hr)) (pv 3) (pv 4) (fun _ _ => rfl)) pe_str (nomark _)) (pw_and1 (pt_not (pt_val (fcallX (takes_of rfl rfl rfl rfl) G_lies_under (hr.mono (by first | decide | omega)) (by rfl) (pa_cons (pv 0) (pa_cons (pe_ix (ix_U K (hu_of hr)) (pv 2) (pe_op (op_addU K) (pv 4) pe_int) (fun _ _ => rfl)) (pa_cons (pe_ix (ix_U K (hu_of hr)) (pv 1) (pe_op (op_addU K) (pv 4) pe_int) (fun _ _ => rfl)) pa_nil))))))))) (pss_one (ps_ret pe_bl)) pss_nil))))
      (pss_one (ps_ret pe_bl)))))), inferInstance, ?_⟩
  rw [lieB] at k
  unfold stkC
  walk_at "d"
  cases as with
  | nil =>
    refine iteB_T rfl ?_
    walk_at "d"
    cases bs with
    | nil =>
      refine iteB_T rfl ?_
      walk_at "d"
      refine ⟨ss, us, x, rfl, hl, hul, ?_⟩
      walk_at "d"
      refine ⟨⟨false, .inl ⟨rfl, by rw [List.all_map]; exact List.all_eq_true.mpr fun _ _ => rfl⟩⟩, ?_⟩
      rw [decide_eq_decide.mpr str_mem]
      exact k
    | cons b0 bs =>
      refine iteB_F (by rw [List.length_cons]; omega) ?_
      walk_at "d"
      have hne : x ≠ y := fun e => by
        subst e
        rw [hx] at hy
        cases hy
        rw [List.length_cons] at hml'
        rw [List.length_nil] at hml
        omega
      refine iteB_T hne ?_
      walk_at "d"
      rw [decide_eq_false hne] at k
      exact k
  | cons a0 as =>
    refine iteB_F (by rw [List.length_cons]; omega) ?_
    walk_at "d"
    generalize hAS : a0 :: as = AS at *
    rw [show (AS.isEmpty && bs.isEmpty) = false by rw [← hAS]; rfl, if_neg (by simp)] at k
    refine iteB_by (fun c => ?_) (fun c => ?_)
    · walk_at "d"
      rw [decide_eq_false c] at k
      exact k
    · have c : x = y := Decidable.not_not.mp c
      subst c
      rw [hx] at hy
      cases hy
      rw [decide_eq_true rfl, Bool.true_and, mk0, hx] at k
      dsimp only at k
      have el : m.cps.toList.length = AS.length := hml
      have el' : m.cps.toList.length = bs.length := hml'
      have eml : m.length = m.cps.toList.length := rfl
      walk_at "d"
      rw [look_dkS, hx]
      walk_at "d"
      refine ⟨by omega, by omega, by omega, ?_⟩
      rw [show (m.length : Int).toNat = AS.length by omega]
      refine for_rng (fun i S => ∃ v4, S = ⟨[some (.val (.obj (clsA mg "Stock") [("shapes", .dct (dkS ss)), ("above", .dct (dkS us))])), some (.val (.tup (.str x :: AS))), some (.val (.tup (.str x :: bs))), some (.val (.str m)), v4], e.W⟩ ∧ zipM (lieB ss us n') m.cps.toList AS bs = zipM (lieB ss us n') (m.cps.toList.drop i) (AS.drop i) (bs.drop i)) ⟨_, rfl, by simp⟩ ?_ ?_
      · rintro i S hi ⟨v4, rfl, hf⟩
        obtain ⟨c1, hc1⟩ : ∃ c, m.cps.toList[i]? = some c := ⟨_, List.getElem?_eq_getElem (by omega)⟩
        obtain ⟨a1, ha1⟩ : ∃ c, AS[i]? = some c := ⟨_, List.getElem?_eq_getElem (by omega)⟩
        obtain ⟨b1, hb1⟩ : ∃ c, bs[i]? = some c := ⟨_, List.getElem?_eq_getElem (by omega)⟩
        have ka := has a1 (List.mem_of_getElem? ha1)
        have kb := hbs b1 (List.mem_of_getElem? hb1)
        rw [zipM_drop hc1 ha1 hb1] at hf
        walk_at "d"
        refine ⟨by omega, ?_⟩
        rw [at_get (j := i) (by omega) hc1]
        rcases mark_in hk hx (List.mem_of_getElem? hc1) with rfl | rfl
        · walk_at "d"
          refine iteB_T rfl ?_
          walk_at "d"
          rw [at_get (j := i + 1) (by omega) (show (D.str x :: AS)[i + 1]? = some a1 from ha1)]
          walk_at "d"
          rw [at_get (j := i + 1) (by omega) (show (D.str x :: bs)[i + 1]? = some b1 from hb1)]
          walk_at "d"
          refine hG n' rfl _ _ _ _ ⟨ss, us, a1, b1, rfl, hk, hl, hul, ka, kb, ?_⟩
          rw [if_pos rfl] at hf
          cases hz : lieB ss us n' a1 b1 with
          | false =>
            rw [hz, Bool.false_and] at hf
            rw [hf] at k
            walk_at "d"
            exact k
          | true =>
            rw [hz, Bool.true_and] at hf
            walk_at "d"
            rw [at_get (j := i) (by omega) hc1]
            walk_at "d"
            refine ⟨by omega, iteB_F (by decide) ?_⟩
            walk_at "d"
            exact ⟨_, rfl, hf⟩
        · walk_at "d"
          refine iteB_F (by decide) ?_
          walk_at "d"
          rw [at_get (j := i) (by omega) hc1]
          walk_at "d"
          refine ⟨by omega, iteB_T rfl ?_⟩
          walk_at "d"
          rw [at_get (j := i + 1) (by omega) (show (D.str x :: bs)[i + 1]? = some b1 from hb1)]
          walk_at "d"
          rw [at_get (j := i + 1) (by omega) (show (D.str x :: AS)[i + 1]? = some a1 from ha1)]
          walk_at "d"
          refine hG n' rfl _ _ _ _ ⟨ss, us, b1, a1, rfl, hk, hl, hul, kb, ka, ?_⟩
          rw [if_neg (by decide)] at hf
          cases hz : lieB ss us n' b1 a1 with
          | false =>
            rw [hz, Bool.false_and] at hf
            rw [hf] at k
            walk_at "d"
            exact k
          | true =>
            rw [hz, Bool.true_and] at hf
            walk_at "d"
            exact ⟨_, rfl, hf⟩
      · rintro S ⟨v4, rfl, hf⟩
        rw [List.drop_of_length_le (l := m.cps.toList) (by omega), zipM_nil] at hf
        rw [hf] at k
        walk_at "d"
        exact k
theorem ok_lies_under (F : Fz K mg "lies_under" s_lies_under P_lies_under) (T : Txt K mg) (G_uppers : Fx P w K mg base (L2.CX P w) "uppers" 1 P_uppers (lift K (F_uppers (clsA mg "Stock")))) : ∀ n : Nat, Fx P w K mg base (L2.CX P w) "lies_under" (n + 2) P_lies_under (lift K (F_lies (clsA mg "Stock") n))
  | 0 => lies_step F T 0 G_uppers (Fs := fun _ _ _ _ => False) (F.noneD fun _ _ _ _ z => z) (fun m z => by omega)
  | n + 1 => lies_step F T (n + 1) G_uppers (ok_lies_under F T G_uppers n) (fun m z => by
      have : m = n := by omega
      subst this
      exact fun _ _ _ _ h => h)

end Kn

set_option synthInstance.maxHeartbeats 0
set_option synthInstance.maxSize 100000
set_option Elab.async false
set_option maxRecDepth 100000
set_option linter.all false
namespace Kn
open PySem L2
local macro_rules | `(tactic| walk_at "wk") => `(tactic| repeat (first
  | refine ⟨_, rfl, ?_⟩
  | refine ⟨_, _, rfl, rfl, ?_⟩
  | refine ⟨⟨by decide, by decide⟩, ?_⟩
  | refine ⟨(by show (0 : Int) < _; decide), ?_⟩
  | refine ⟨Or.inl ⟨by omega, by omega⟩, ?_⟩
  | refine Or.inl ⟨_, rfl, ?_⟩
  | fail))
local macro_rules | `(tactic| walk_at "lits") => `(tactic| repeat (first
  | exact lit_nil
  | exact lit_str
  | exact lit_int
  | exact lit_non
  | refine lit_cons ?_ ?_
  | refine lit_tup ?_
  | fail))
local macro_rules | `(tactic| walk_at "d") => `(tactic| simp only [↓u_tdC, ↓u_tdOp, ↓u_tdNil, ↓u_tdCons, ↓u_tdTup, ↓u_tnLst, ↓u_tdFrz, ↓u_tdFrzK, ↓u_tkNew, ↓u_tdTest, ↓u_tdAnd, ↓u_tdOr, ↓u_tdNot, ↓u_tdYes, ↓u_tdAndV, ↓u_tdOrV, ↓u_tdNotV, ↓u_tdIf, ↓u_tdCB, ↓u_tnCB, ↓u_tnAdd, ↓u_tdNoPart, ↓u_tdPart, ↓u_tdSl, ↓u_tnSl, ↓u_tdRevT, ↓u_tnRevL, ↓u_tdIsiT, ↓u_tdNext, ↓u_tdSeq, ↓u_tdBreak, ↓u_tdCont, ↓u_tdDrop, ↓u_tdRet, ↓u_tdRetN, ↓u_tdRetO, ↓u_tdIfS, ↓u_gdName, ↓u_gdNil, ↓u_gdCons, ↓u_gdTup, ↓u_tdAsg, ↓u_tdAsgN, ↓u_tdAsgK, ↓u_tiAny, ↓u_tiRng1, ↓u_tiRng2, ↓u_tdFor, ↓u_tnLc, ↓u_tdCall, ↓u_tnCall, ↓u_tdRaise, ↓u_tdApp, ↓u_tdDPut, ↓u_tkDict, ↓u_tdAsgR, ↓u_tdForR, ↓u_tdFldC, ↓u_tdSetC, ↓u_tdMeth, ↓u_tdProp, ↓u_tdMakeR, ↓u_tdMakeF, ↓u_tdRaiseS, ↓u_tdTryAs, ↓u_tdTryN, ↓u_tdXf, ↓u_tdJoin, ↓u_tnSplit, ↓u_tdPartn, ↓u_tdFmt, ↓u_tdJoined, ↓u_tkDisp, ↓u_tdShK, ↓u_tdClear, ↓u_tdOGet, ↓u_tdOSet, ↓u_tdOIn, ↓u_tdNeg, ↓u_tdForO, ↓u_tnLcO, ↓u_tnLcR, ↓u_tdGet2, ↓u_tdPopAt, ↓u_tdRg1, ↓u_tdTupRg, ↓u_tnLstRg, ↓u_tdForW, ↓u_tdAugO, ↓u_tdLPut, ↓u_tdFmtW, ↓u_tdMethK, ↓u_tdChain, ↓u_tnLc2, ↓u_tdIndex, ↓u_addF_i, ↓u_addF_s, ↓u_addF_t, ↓u_addF_l, ↓u_iiF, ↓u_mulF_i, ↓u_mulF_s, ↓u_inF_l, ↓u_inF_t, ↓u_inF_s, ↓u_inF_ds, ↓u_inF_di, ↓u_ixF_l, ↓u_ixF_t, ↓u_ixF_s, ↓u_ixF_di, ↓u_ixF_ds, ↓u_slF_l, ↓u_slF_t, ↓u_slF_s, ↓u_lenF_l, ↓u_lenF_t, ↓u_lenF_s, ↓u_lenF_d, ↓u_isiF, ↓u_isiD, ↓u_tupF_l, ↓u_tupF_t, ↓u_lstF_l, ↓u_lstF_t, ↓u_allF, ↓u_anyF, ↓u_sumF, ↓u_sortF, ↓u_intF_i, ↓u_intF_b, ↓u_strF, ↓u_walkF_l, ↓u_walkF_t, ↓u_walkF_s, ↓u_walkF_d, ↓u_arg1, ↓u_arg2, ↓u_frcL_n, ↓u_frcL_c, ↓u_addD, ↓u_iiD, ↓u_mulD, ↓u_eqD_f, ↓u_eqD_t, ↓u_inD_f, ↓u_inD_t, ↓u_ixD, ↓u_dd2, ↓u_isND_f, ↓u_isND_t, ↓u_fldF, ↓u_recF, ↓u_ofC, ↓u_isBD, ↓u_isBF_f, ↓u_isBF_t, ↓u_turnD, ↓u_isoD, ↓u_isoF_o, ↓u_isoF_n, ↓u_asD, ↓u_binOD, ↓u_idxF, ↓u_minF, ↓u_maxF, ↓u_turnD2, ↓u_mm2D, ↓u_lputF, ↓u_fmtWF_s, ↓u_fmtWF_i, ↓u_inTD_f, ↓u_inTD_t, ↓u_inTF, ↓u_refV, ↓u_getF, ↓u_popF, ↓u_dctW, ↓u_tvVar, ↓u_tvFld, ↓u_refD, ↓u_ownW, ↓u_valV1, ↓u_mergeD_n, ↓u_mergeD_c, ↓u_eqKD, ↓u_eqKF_f, ↓u_eqKF_t, ↓u_asS, ↓u_joinF_l, ↓u_joinF_t, ↓u_fmtF_s, ↓u_fmtF_i, ↓u_excF, ↓u_clsV_r, ↓u_clsV_t, ↓u_isYD, ↓b_Call, ↓b_CallN, ↓b_opt, ↓b_dd1, ↓b_asB, ↓b_asI, ↓b_frc, ↓b_for, ↓b_comp, ↓b_ite, ↓b_while, ↓b_var, ↓b_aug, ↓b_mutL, ↓b_mutD, ↓b_retV, ↓b_deref, ↓b_dd1own, ↓b_mutO, ↓b_mutDO, ↓b_frcO, ↓b_comp2, ↓b_compR, ↓b_forL, ↓b_compL, ↓b_dctC, ↓b_ref, ↓b_forR, ↓b_insF, ↓b_insC, ↓b_exB, ↓o_opt, ↓o_asB, ↓o_asI, ↓o_non, ↓o_bl, ↓o_int, ↓o_str, ↓o_ty, ↓o_tup, ↓o_lst, ↓o_dct, ↓o_obj, ↓o_varV, ↓o_varL, ↓o_varD, ↓o_frc, ↓o_augI, ↓o_augS, ↓o_augL, ↓o_retV, ↓o_iteT, ↓o_iteF, ↓o_derefL, ↓o_derefD, ↓o_mutO, ↓o_mutDO, ↓o_frcL, ↓o_frcD, ↓o_frcV, ↓o_dctC, ↓o_ref, ↓o_derefR, ↓o_dd1R, ↓o_mutR, ↓o_derefK, ↓o_dd1K, ↓o_mutK, ↓o_putT, ↓o_insF, ↓o_insC, ↓o_derefI, ↓o_dd1I, ↓o_putS, ↓o_putP, look_c, look_n, putFd_c, putFd_n, ofS_eq, ↓reduceIte, eq_self, List.foldr_cons, List.foldr_nil, DEnds.un, PSt.unset, List.zip_cons_cons, List.zip_nil_left, List.zip_nil_right, List.reverse_cons, List.reverse_nil, exL, exK, exC, tysOf, tyN, isB, tyOk, isNn, PSt.set, S0, PSt.wipe, wipeR,
  List.map_cons, List.map_nil, List.length_cons, List.length_nil, List.replicate_succ, List.replicate_zero, List.cons_append, List.nil_append, List.set_cons_zero, List.set_cons_succ, List.getElem?_cons_zero, List.getElem?_cons_succ, List.getElem?_nil,
  Bool.not_true, Bool.not_false, bq_t, bq_f, Bool.not_not, Bool.false_eq_true, true_and, and_true, Nat.reduceAdd, Nat.reduceSub, Nat.reduceLeDiff, String.reduceEq, decide_true, decide_false, Bool.true_or, Bool.false_or, Bool.true_and, Bool.false_and, Bool.or_true, Bool.or_false, Bool.and_true, Bool.and_false, decide_eq_true_eq, List.mem_cons, List.not_mem_nil, or_true, true_or, or_false, false_or, List.any_cons, List.any_nil, List.all_cons, List.all_nil, Option.map_some, Option.map_none, Option.isSome_some, Option.isSome_none, eqOk_ii, eqOk_ss, eqOk_bb, eqOk_nn, eqOk_ns, eqOk_sn, eqOk_ni, eqOk_in, eqOk_si, eqOk_is, D.int.injEq, D.str.injEq, D.bl.injEq, reduceCtorEq, keyD, atI_0, atI_1, atI_2, atI_3, atI_4, cut1, ne_eq, not_true_eq_false, not_false_eq_true, Bool.not_eq_true', Bool.not_eq_false', decide_eq_false_iff_not])
local macro_rules | `(tactic| walk_at "z") => `(tactic| first
  | (apply z_seq; (focus walk_at "z"); (focus walk_at "z"))
  | (apply z_try; (focus (intro _ _ _; walk_at "z")); (focus (intro _ _ _; walk_at "z")); (focus walk_at "z"))
  | (apply z_tryN; (focus (intro _ _ _; walk_at "z")); (focus walk_at "z"); (focus walk_at "z"))
  | (apply z_cl; (focus (intro _ _ _; walk_at "z")); (focus walk_at "z"))
  | exact inferInstance
  | (apply z_if; (focus walk_at "z"); (focus walk_at "z"); (focus walk_at "z"))
  | (apply z_while; (focus walk_at "z"); (focus walk_at "z"))
  | (apply z_for; (focus walk_at "z"); (focus walk_at "z"); (focus walk_at "z")))
variable {P : Program} {w : World} {K : PySem.W.Frag} {mg : Str → Option Value} {base : Heap}
abbrev s__law_climb : Stmt := top 32
abbrev N__law_climb : List Str := ["_law_under_here", "_law_base", "_law_row", "_law_k"]
abbrev P__law_climb : List Str := ["_law_under_here", "_law_base"]
theorem sc__law_climb : FnScope N__law_climb P__law_climb (defScope s__law_climb) := ⟨rfl, rfl, rfl, by decide +kernel, rfl, by decide +kernel, by decide +kernel⟩
abbrev s__law_under : Stmt := top 33
abbrev N__law_under : List Str := ["_law_shapes", "_law_under_here", "_law_low", "_law_high", "_law_k", "_law_pair"]
abbrev P__law_under : List Str := ["_law_shapes", "_law_under_here", "_law_low", "_law_high"]
theorem sc__law_under : FnScope N__law_under P__law_under (defScope s__law_under) := ⟨rfl, rfl, rfl, by decide +kernel, rfl, by decide +kernel, by decide +kernel⟩
def F_climb : FSpec := fun ds W Q _ => ∃ (us : List (Str × Str)) (x : Str), ds = [.dct (dkS us), .str x] ∧ leadsB us = false ∧ us.length ≤ 11 ∧ Q (.lst ((upsE us x).map D.str)) W
theorem ok__law_climb (F : Fz K mg "_law_climb" s__law_climb P__law_climb) (T : Txt K mg) : Fx P w K mg base (L2.CX P w) "_law_climb" 1 P__law_climb (lift K F_climb) := by
  refine F.okD sc__law_climb (fun ds W Q E h => by obtain ⟨us, x, rfl, _⟩ := h; rfl) (fun f cdv A outer s H E e ds Qd Ed hr lk h => ?_)
  obtain ⟨us, b, rfl, hl, hul, k⟩ := h
  refine ⟨_, _, (pss_cons (setO_of (ps_set (i := 2) sc__law_climb.nd rfl (Or.inl rfl) (pe_lst (pa_cons (pv 1) pa_nil))))
      (pss_cons (ps_for (passes_of rfl) rfl (pi_range1 (by rfl) T.b_range (pa_cons pe_int pa_nil)) (pg_name (i := 3) sc__law_climb.nd rfl (Or.inl rfl)) (pss_one (ps_if (pt_cmpR (op_inU K (hu65_of hr)) (pe_ix (ix_U K (hu_of hr)) (pv 2) (pe_un un_neg pe_int) (fun _ _ => rfl)) (pv 0) (by rfl)) (pss_one (ps_expr (pe_bmK K PySem.F.plainAttrs_list PySem.F.slot_list_append PySem.F.type_list_append mt_append (pv 2) (pa_cons (pe_ix (ix_U K (hu_of hr)) (pv 0) (pe_ix (ix_U K (hu_of hr)) (pv 2) (pe_un un_neg pe_int) (fun _ _ => rfl)) (fun _ _ => rfl)) pa_nil)))) pss_nil)))
      (pss_one (ps_ret (pv 2))))), inferInstance, ?_⟩
  walk_at "d"
  have h1 := steps_end hl b
  refine ⟨by omega, by omega, ?_⟩
  refine for_rng (fun k0 S => ∃ (L : List Str) (x : Str) (m : Nat) (v2 : Option PC), S = ⟨[some (.val (.dct (dkS us))), some (.val (.str b)), some (.ownL ((L ++ [x]).map D.str)), v2], e.W⟩ ∧ upsE us b = L ++ ups us m x ∧ (lkS us x = none ∨ (L.length = k0 ∧ m + L.length = us.length ∧ stepsF us (us.length + 1) b = L.length + stepsF us (m + 1) x)) ∧ L.length ≤ k0) ⟨[], b, us.length, _, rfl, rfl, .inr ⟨rfl, by simp, by simp⟩, by simp⟩ ?_ ?_
  · rintro k0 S hk0 ⟨L, x, m, v2, rfl, hu, hs, hLk⟩
    have hat : atI ((L ++ [x]).map D.str) (-1) = some (.str x) := by rw [List.map_append]; exact last_at
    walk_at "d"
    rw [hat]
    walk_at "d"
    rw [look_dkS]
    cases hy : lkS us x with
    | none =>
      walk_at "d"
      exact ⟨L, x, m, _, rfl, hu, .inl hy, by omega⟩
    | some y =>
      walk_at "d"
      rw [hat]
      walk_at "d"
      rw [look_dkS, hy]
      walk_at "d"
      rcases hs with hs | ⟨hLl, hm, hs⟩
      · rw [hs] at hy; cases hy
      · have hs2 : stepsF us (m + 1) x = stepsF us m y + 1 := by rw [stepsF, hy]
        rw [hs2] at hs
        obtain ⟨m, rfl⟩ : ∃ m', m = m' + 1 := ⟨m - 1, by omega⟩
        rw [ups, hy] at hu
        refine ⟨by simp; omega, L ++ [x], y, m, some (.val (.int (0 + (k0 : Int)))), by simp, by rw [hu]; simp, .inr ⟨by rw [List.length_append, List.length_singleton]; omega, by rw [List.length_append, List.length_singleton]; omega, by rw [List.length_append, List.length_singleton]; omega⟩, by rw [List.length_append, List.length_singleton]; omega⟩
  · rintro S ⟨L, x, m, v2, rfl, hu, hs, hLk⟩
    walk_at "d"
    have hx : lkS us x = none := by
      rcases hs with hs | ⟨hLl, hm, hs⟩
      · exact hs
      · omega
    rw [hu, ups_none hx] at k
    exact k
def F_lund (n : Nat) : FSpec := fun ds W Q _ => ∃ (ss us : List (Str × Str)) (a b : D), ds = [.dct (dkS ss), .dct (dkS us), a, b] ∧ (∀ p ∈ ss, okMark p.2 = true) ∧ leadsB us = false ∧ us.length ≤ 11 ∧ KdF ss n a ∧ KdF ss n b ∧ Q (.bl (lieB ss us n a b)) W
theorem lund_step (F : Fz K mg "_law_under" s__law_under P__law_under) (T : Txt K mg) (n : Nat) (G__law_climb : Fx P w K mg base (L2.CX P w) "_law_climb" 1 P__law_climb (lift K F_climb)) {Fs : FSpec} (G__law_under : Fx P w K mg base (L2.CX P w) "_law_under" (n + 1) P__law_under (lift K Fs)) (hG : ∀ m, n = m + 1 → ∀ ds W Q E, F_lund m ds W Q E → Fs ds W Q E) : Fx P w K mg base (L2.CX P w) "_law_under" (n + 2) P__law_under (lift K (F_lund n)) := by
  refine F.okD sc__law_under (fun ds W Q E h => by obtain ⟨ss, us, a, b, rfl, _⟩ := h; rfl) (fun f cdv A outer s H E e ds Qd Ed hr lk h => ?_)
  obtain ⟨ss, us, a, b, rfl, hk, hl, hul, ha, hb, k⟩ := h
  obtain ⟨x, m, as, rfl, hx, hml, h3, hn0, _, has⟩ := ha.node
  obtain ⟨y, m', bs, rfl, hy, hml', h3', _, _, hbs⟩ := hb.node
  obtain ⟨n', rfl⟩ : ∃ n', n = n' + 1 := ⟨n - 1, by omega⟩
  refine ⟨_, _, (pss_cons (ps_if (PW.pt (pw_and (pt_cmpR (op_eqU K hr.units) (pe_ix (ix_U K (hu_of hr)) (pv 0) (pe_ix (ix_U K (hu_of hr)) (pv 2) pe_int (fun _ _ => rfl)) (fun _ _ => rfl)) pe_str (nomark _)) (pw_and1 (pt_cmpR (op_eqU K hr.units) (pe_ix (ix_U K (hu_of hr)) (pv 0) (pe_ix (ix_U K (hu_of hr)) (pv 3) pe_int (fun _ _ => rfl)) (fun _ _ => rfl)) pe_str (nomark _))))) (pss_one (ps_ret (pe_cmpR (op_inU K (hu65_of hr)) (pe_ix (ix_U K (hu_of hr)) (pv 3) pe_int (fun _ _ => rfl)) (fcallX (takes_of rfl rfl rfl rfl) G__law_climb (hr.mono (by first | decide | omega)) (by rfl) (pa_cons (pv 1) (pa_cons (pe_ix (ix_U K (hu_of hr)) (pv 2) pe_int (fun _ _ => rfl)) pa_nil))) (by rfl)))) pss_nil)
      (pss_cons (ps_if (pt_cmpR (op_neU K hr.units) (pe_ix (ix_U K (hu_of hr)) (pv 2) pe_int (fun _ _ => rfl)) (pe_ix (ix_U K (hu_of hr)) (pv 3) pe_int (fun _ _ => rfl)) (nomark _)) (pss_one (ps_ret pe_bl)) pss_nil)
      (pss_cons (ps_for (passes_of rfl) rfl (pi_range1 (by rfl) T.b_range (pa_cons (pe_callB (call_lenU K) (by rfl) T.b_len PySem.boot_len (pa_cons (pe_ix (ix_U K (hu_of hr)) (pv 0) (pe_ix (ix_U K (hu_of hr)) (pv 2) pe_int (fun _ _ => rfl)) (fun _ _ => rfl)) pa_nil)) pa_nil)) (pg_name (i := 4) sc__law_under.nd rfl (Or.inl rfl)) (pss_cons (ps_set (i := 5) sc__law_under.nd rfl (Or.inl rfl) (pe_lst (pa_cons (pe_ix (ix_U K (hu_of hr)) (pv 2) (pe_op (op_addU K) (pv 4) pe_int) (fun _ _ => rfl)) (pa_cons (pe_ix (ix_U K (hu_of hr)) (pv 3) (pe_op (op_addU K) (pv 4) pe_int) (fun _ _ => rfl)) pa_nil))))
      (pss_cons (ps_if (pt_cmpR (op_eqU K hr.units) (pe_ix (ix_U K (hu_of hr)) (pe_ix (ix_U K (hu_of hr)) (pv 0) (pe_ix (ix_U K (hu_of hr)) (pv 2) pe_int (fun _ _ => rfl)) (fun _ _ => rfl)) (pv 4) (fun _ _ => rfl)) pe_str (nomark _)) (pss_one (ps_set (i := 5) sc__law_under.nd rfl (Or.inl rfl) (pe_lst (pa_cons (pe_ix (ix_U K (hu_of hr)) (pv 3) (pe_op (op_addU K) (pv 4) pe_int) (fun _ _ => rfl)) (pa_cons (pe_ix (ix_U K (hu_of hr)) (pv 2) (pe_op (op_addU K) (pv 4) pe_int) (fun _ _ => rfl)) pa_nil))))) pss_nil)
      (pss_one (ps_if (pt_not (pt_val (fcallX (takes_of rfl rfl rfl rfl) G__law_under (hr.mono (by first | decide | omega)) (by rfl) (pa_cons (pv 0) (pa_cons (pv 1) (pa_cons (pe_ix (ix_U K (hu_of hr)) (pv 5) pe_int (fun _ _ => rfl)) (pa_cons (pe_ix (ix_U K (hu_of hr)) (pv 5) pe_int (fun _ _ => rfl)) pa_nil))))))) (pss_one (ps_ret pe_bl)) pss_nil)))))
      (pss_one (ps_ret pe_bl))))), inferInstance, ?_⟩
  rw [lieB] at k
  walk_at "d"
  rw [look_dkS, hx]
  walk_at "d"
  have el : m.cps.toList.length = as.length := hml
  have el' : m'.cps.toList.length = bs.length := hml'
  have eml : m.length = m.cps.toList.length := rfl
  cases as with
  | nil =>
    have hm0 : m = Str.ofString "" := nomk_len.mpr (by rw [hml]; rfl)
    refine iteB_T hm0 ?_
    walk_at "d"
    rw [look_dkS, hy]
    walk_at "d"
    cases bs with
    | nil =>
      refine iteB_T (nomk_len.mpr (by rw [hml']; rfl)) ?_
      walk_at "d"
      refine ⟨us, x, rfl, hl, hul, ?_⟩
      walk_at "d"
      refine ⟨⟨false, .inl ⟨rfl, by rw [List.all_map]; exact List.all_eq_true.mpr fun _ _ => rfl⟩⟩, ?_⟩
      rw [decide_eq_decide.mpr str_mem]
      exact k
    | cons b0 bs =>
      refine iteB_F (fun z => by have := nomk_len.mp z; rw [hml', List.length_cons] at this; omega) ?_
      walk_at "d"
      have hne : x ≠ y := fun e => by
        subst e
        rw [hx] at hy
        cases hy
        rw [List.length_cons] at hml'
        rw [List.length_nil] at hml
        omega
      refine iteB_T hne ?_
      walk_at "d"
      rw [decide_eq_false hne] at k
      exact k
  | cons a0 as =>
    refine iteB_F (fun z => by have := nomk_len.mp z; rw [hml, List.length_cons] at this; omega) ?_
    walk_at "d"
    generalize hAS : a0 :: as = AS at *
    rw [show (AS.isEmpty && bs.isEmpty) = false by rw [← hAS]; rfl, if_neg (by simp)] at k
    refine iteB_by (fun c => ?_) (fun c => ?_)
    · walk_at "d"
      rw [decide_eq_false c] at k
      exact k
    · have c : x = y := Decidable.not_not.mp c
      subst c
      rw [hx] at hy
      cases hy
      rw [decide_eq_true rfl, Bool.true_and, mk0, hx] at k
      dsimp only at k
      walk_at "d"
      rw [look_dkS, hx]
      walk_at "d"
      refine ⟨by omega, by omega, by omega, ?_⟩
      rw [show (m.length : Int).toNat = AS.length by omega]
      refine for_rng (fun i S => ∃ v4 v5, S = ⟨[some (.val (.dct (dkS ss))), some (.val (.dct (dkS us))), some (.val (.tup (.str x :: AS))), some (.val (.tup (.str x :: bs))), v4, v5], e.W⟩ ∧ zipM (lieB ss us n') m.cps.toList AS bs = zipM (lieB ss us n') (m.cps.toList.drop i) (AS.drop i) (bs.drop i)) ⟨_, _, rfl, by simp⟩ ?_ ?_
      · rintro i S hi ⟨v4, v5, rfl, hf⟩
        obtain ⟨c1, hc1⟩ : ∃ c, m.cps.toList[i]? = some c := ⟨_, List.getElem?_eq_getElem (by omega)⟩
        obtain ⟨a1, ha1⟩ : ∃ c, AS[i]? = some c := ⟨_, List.getElem?_eq_getElem (by omega)⟩
        obtain ⟨b1, hb1⟩ : ∃ c, bs[i]? = some c := ⟨_, List.getElem?_eq_getElem (by omega)⟩
        have ka := has a1 (List.mem_of_getElem? ha1)
        have kb := hbs b1 (List.mem_of_getElem? hb1)
        rw [zipM_drop hc1 ha1 hb1] at hf
        walk_at "d"
        rw [at_get (j := i + 1) (by omega) (show (D.str x :: AS)[i + 1]? = some a1 from ha1)]
        walk_at "d"
        rw [at_get (j := i + 1) (by omega) (show (D.str x :: bs)[i + 1]? = some b1 from hb1)]
        walk_at "d"
        rw [look_dkS, hx]
        walk_at "d"
        refine ⟨by omega, ?_⟩
        rw [at_get (j := i) (by omega) hc1]
        rcases mark_in hk hx (List.mem_of_getElem? hc1) with rfl | rfl
        · walk_at "d"
          refine iteB_F (by decide) ?_
          walk_at "d"
          refine hG n' rfl _ _ _ _ ⟨ss, us, a1, b1, rfl, hk, hl, hul, ka, kb, ?_⟩
          rw [if_pos rfl] at hf
          cases hz : lieB ss us n' a1 b1 with
          | false =>
            rw [hz, Bool.false_and] at hf
            rw [hf] at k
            walk_at "d"
            exact k
          | true =>
            rw [hz, Bool.true_and] at hf
            walk_at "d"
            exact ⟨_, _, rfl, hf⟩
        · walk_at "d"
          refine iteB_T rfl ?_
          walk_at "d"
          rw [at_get (j := i + 1) (by omega) (show (D.str x :: bs)[i + 1]? = some b1 from hb1)]
          walk_at "d"
          rw [at_get (j := i + 1) (by omega) (show (D.str x :: AS)[i + 1]? = some a1 from ha1)]
          walk_at "d"
          refine hG n' rfl _ _ _ _ ⟨ss, us, b1, a1, rfl, hk, hl, hul, kb, ka, ?_⟩
          rw [if_neg (by decide)] at hf
          cases hz : lieB ss us n' b1 a1 with
          | false =>
            rw [hz, Bool.false_and] at hf
            rw [hf] at k
            walk_at "d"
            exact k
          | true =>
            rw [hz, Bool.true_and] at hf
            walk_at "d"
            exact ⟨_, _, rfl, hf⟩
      · rintro S ⟨v4, v5, rfl, hf⟩
        rw [List.drop_of_length_le (l := m.cps.toList) (by omega), zipM_nil] at hf
        rw [hf] at k
        walk_at "d"
        exact k
theorem ok__law_under (F : Fz K mg "_law_under" s__law_under P__law_under) (T : Txt K mg) (G__law_climb : Fx P w K mg base (L2.CX P w) "_law_climb" 1 P__law_climb (lift K F_climb)) : ∀ n : Nat, Fx P w K mg base (L2.CX P w) "_law_under" (n + 2) P__law_under (lift K (F_lund n))
  | 0 => lund_step F T 0 G__law_climb (Fs := fun _ _ _ _ => False) (F.noneD fun _ _ _ _ z => z) (fun m z => by omega)
  | n + 1 => lund_step F T (n + 1) G__law_climb (ok__law_under F T G__law_climb n) (fun m z => by
      have : m = n := by omega
      subst this
      exact fun _ _ _ _ h => h)

end Kn

set_option synthInstance.maxHeartbeats 0
set_option synthInstance.maxSize 100000
set_option Elab.async false
set_option maxRecDepth 100000
set_option linter.all false
namespace Kn
open PySem L2
local macro_rules | `(tactic| walk_at "wk") => `(tactic| repeat (first
  | refine ⟨_, rfl, ?_⟩
  | refine ⟨_, _, rfl, rfl, ?_⟩
  | refine ⟨⟨by decide, by decide⟩, ?_⟩
  | refine ⟨(by show (0 : Int) < _; decide), ?_⟩
  | refine ⟨Or.inl ⟨by omega, by omega⟩, ?_⟩
  | refine Or.inl ⟨_, rfl, ?_⟩
  | fail))
local macro_rules | `(tactic| walk_at "lits") => `(tactic| repeat (first
  | exact lit_nil
  | exact lit_str
  | exact lit_int
  | exact lit_non
  | refine lit_cons ?_ ?_
  | refine lit_tup ?_
  | fail))
local macro_rules | `(tactic| walk_at "d") => `(tactic| simp only [↓u_tdC, ↓u_tdOp, ↓u_tdNil, ↓u_tdCons, ↓u_tdTup, ↓u_tnLst, ↓u_tdFrz, ↓u_tdFrzK, ↓u_tkNew, ↓u_tdTest, ↓u_tdAnd, ↓u_tdOr, ↓u_tdNot, ↓u_tdYes, ↓u_tdAndV, ↓u_tdOrV, ↓u_tdNotV, ↓u_tdIf, ↓u_tdCB, ↓u_tnCB, ↓u_tnAdd, ↓u_tdNoPart, ↓u_tdPart, ↓u_tdSl, ↓u_tnSl, ↓u_tdRevT, ↓u_tnRevL, ↓u_tdIsiT, ↓u_tdNext, ↓u_tdSeq, ↓u_tdBreak, ↓u_tdCont, ↓u_tdDrop, ↓u_tdRet, ↓u_tdRetN, ↓u_tdRetO, ↓u_tdIfS, ↓u_gdName, ↓u_gdNil, ↓u_gdCons, ↓u_gdTup, ↓u_tdAsg, ↓u_tdAsgN, ↓u_tdAsgK, ↓u_tiAny, ↓u_tiRng1, ↓u_tiRng2, ↓u_tdFor, ↓u_tnLc, ↓u_tdCall, ↓u_tnCall, ↓u_tdRaise, ↓u_tdApp, ↓u_tdDPut, ↓u_tkDict, ↓u_tdAsgR, ↓u_tdForR, ↓u_tdFldC, ↓u_tdSetC, ↓u_tdMeth, ↓u_tdProp, ↓u_tdMakeR, ↓u_tdMakeF, ↓u_tdRaiseS, ↓u_tdTryAs, ↓u_tdTryN, ↓u_tdXf, ↓u_tdJoin, ↓u_tnSplit, ↓u_tdPartn, ↓u_tdFmt, ↓u_tdJoined, ↓u_tkDisp, ↓u_tdShK, ↓u_tdClear, ↓u_tdOGet, ↓u_tdOSet, ↓u_tdOIn, ↓u_tdNeg, ↓u_tdForO, ↓u_tnLcO, ↓u_tnLcR, ↓u_tdGet2, ↓u_tdPopAt, ↓u_tdRg1, ↓u_tdTupRg, ↓u_tnLstRg, ↓u_tdForW, ↓u_tdAugO, ↓u_tdLPut, ↓u_tdFmtW, ↓u_tdMethK, ↓u_tdChain, ↓u_tnLc2, ↓u_tdIndex, ↓u_addF_i, ↓u_addF_s, ↓u_addF_t, ↓u_addF_l, ↓u_iiF, ↓u_mulF_i, ↓u_mulF_s, ↓u_inF_l, ↓u_inF_t, ↓u_inF_s, ↓u_inF_ds, ↓u_inF_di, ↓u_ixF_l, ↓u_ixF_t, ↓u_ixF_s, ↓u_ixF_di, ↓u_ixF_ds, ↓u_slF_l, ↓u_slF_t, ↓u_slF_s, ↓u_lenF_l, ↓u_lenF_t, ↓u_lenF_s, ↓u_lenF_d, ↓u_isiF, ↓u_isiD, ↓u_tupF_l, ↓u_tupF_t, ↓u_lstF_l, ↓u_lstF_t, ↓u_allF, ↓u_anyF, ↓u_sumF, ↓u_sortF, ↓u_intF_i, ↓u_intF_b, ↓u_strF, ↓u_walkF_l, ↓u_walkF_t, ↓u_walkF_s, ↓u_walkF_d, ↓u_arg1, ↓u_arg2, ↓u_frcL_n, ↓u_frcL_c, ↓u_addD, ↓u_iiD, ↓u_mulD, ↓u_eqD_f, ↓u_eqD_t, ↓u_inD_f, ↓u_inD_t, ↓u_ixD, ↓u_dd2, ↓u_isND_f, ↓u_isND_t, ↓u_fldF, ↓u_recF, ↓u_ofC, ↓u_isBD, ↓u_isBF_f, ↓u_isBF_t, ↓u_turnD, ↓u_isoD, ↓u_isoF_o, ↓u_isoF_n, ↓u_asD, ↓u_binOD, ↓u_idxF, ↓u_minF, ↓u_maxF, ↓u_turnD2, ↓u_mm2D, ↓u_lputF, ↓u_fmtWF_s, ↓u_fmtWF_i, ↓u_inTD_f, ↓u_inTD_t, ↓u_inTF, ↓u_refV, ↓u_getF, ↓u_popF, ↓u_dctW, ↓u_tvVar, ↓u_tvFld, ↓u_refD, ↓u_ownW, ↓u_valV1, ↓u_mergeD_n, ↓u_mergeD_c, ↓u_eqKD, ↓u_eqKF_f, ↓u_eqKF_t, ↓u_asS, ↓u_joinF_l, ↓u_joinF_t, ↓u_fmtF_s, ↓u_fmtF_i, ↓u_excF, ↓u_clsV_r, ↓u_clsV_t, ↓u_isYD, ↓b_Call, ↓b_CallN, ↓b_opt, ↓b_dd1, ↓b_asB, ↓b_asI, ↓b_frc, ↓b_for, ↓b_comp, ↓b_ite, ↓b_while, ↓b_var, ↓b_aug, ↓b_mutL, ↓b_mutD, ↓b_retV, ↓b_deref, ↓b_dd1own, ↓b_mutO, ↓b_mutDO, ↓b_frcO, ↓b_comp2, ↓b_compR, ↓b_forL, ↓b_compL, ↓b_dctC, ↓b_ref, ↓b_forR, ↓b_insF, ↓b_insC, ↓b_exB, ↓o_opt, ↓o_asB, ↓o_asI, ↓o_non, ↓o_bl, ↓o_int, ↓o_str, ↓o_ty, ↓o_tup, ↓o_lst, ↓o_dct, ↓o_obj, ↓o_varV, ↓o_varL, ↓o_varD, ↓o_frc, ↓o_augI, ↓o_augS, ↓o_augL, ↓o_retV, ↓o_iteT, ↓o_iteF, ↓o_derefL, ↓o_derefD, ↓o_mutO, ↓o_mutDO, ↓o_frcL, ↓o_frcD, ↓o_frcV, ↓o_dctC, ↓o_ref, ↓o_derefR, ↓o_dd1R, ↓o_mutR, ↓o_derefK, ↓o_dd1K, ↓o_mutK, ↓o_putT, ↓o_insF, ↓o_insC, ↓o_derefI, ↓o_dd1I, ↓o_putS, ↓o_putP, look_c, look_n, putFd_c, putFd_n, ofS_eq, ↓reduceIte, eq_self, List.foldr_cons, List.foldr_nil, DEnds.un, PSt.unset, List.zip_cons_cons, List.zip_nil_left, List.zip_nil_right, List.reverse_cons, List.reverse_nil, exL, exK, exC, tysOf, tyN, isB, tyOk, isNn, PSt.set, S0, PSt.wipe, wipeR,
  List.map_cons, List.map_nil, List.length_cons, List.length_nil, List.replicate_succ, List.replicate_zero, List.cons_append, List.nil_append, List.set_cons_zero, List.set_cons_succ, List.getElem?_cons_zero, List.getElem?_cons_succ, List.getElem?_nil,
  Bool.not_true, Bool.not_false, bq_t, bq_f, Bool.not_not, Bool.false_eq_true, true_and, and_true, Nat.reduceAdd, Nat.reduceSub, Nat.reduceLeDiff, String.reduceEq, decide_true, decide_false, Bool.true_or, Bool.false_or, Bool.true_and, Bool.false_and, Bool.or_true, Bool.or_false, Bool.and_true, Bool.and_false, decide_eq_true_eq, List.mem_cons, List.not_mem_nil, or_true, true_or, or_false, false_or, List.any_cons, List.any_nil, List.all_cons, List.all_nil, Option.map_some, Option.map_none, Option.isSome_some, Option.isSome_none, eqOk_ii, eqOk_ss, eqOk_bb, eqOk_nn, eqOk_ns, eqOk_sn, eqOk_ni, eqOk_in, eqOk_si, eqOk_is, D.int.injEq, D.str.injEq, D.bl.injEq, reduceCtorEq, keyD, atI_0, atI_1, atI_2, atI_3, atI_4, cut1, ne_eq, not_true_eq_false, not_false_eq_true, Bool.not_eq_true', Bool.not_eq_false', decide_eq_false_iff_not])
local macro_rules | `(tactic| walk_at "z") => `(tactic| first
  | (apply z_seq; (focus walk_at "z"); (focus walk_at "z"))
  | (apply z_try; (focus (intro _ _ _; walk_at "z")); (focus (intro _ _ _; walk_at "z")); (focus walk_at "z"))
  | (apply z_tryN; (focus (intro _ _ _; walk_at "z")); (focus walk_at "z"); (focus walk_at "z"))
  | (apply z_cl; (focus (intro _ _ _; walk_at "z")); (focus walk_at "z"))
  | exact inferInstance
  | (apply z_if; (focus walk_at "z"); (focus walk_at "z"); (focus walk_at "z"))
  | (apply z_while; (focus walk_at "z"); (focus walk_at "z"))
  | (apply z_for; (focus walk_at "z"); (focus walk_at "z"); (focus walk_at "z")))
variable {P : Program} {w : World} {K : PySem.W.Frag} {mg : Str → Option Value} {base : Heap}
/-! ### the least kind over two kinds, the greatest under them (plain) -/
theorem ups_cut {us : List (Str × Str)} (hl : leadsB us = false) : ∀ {pre : List Str} {x r : Str} {post : List Str}, upsE us x = pre ++ r :: post → upsE us r = r :: post
  | [], x, r, post, h => by
    have : x = r := by
      cases hy : lkS us x with
      | none => rw [upsE, ups_none hy] at h; injection h
      | some y => rw [upsE_cons hl hy] at h; injection h
    subst this
    exact h
  | p :: pre, x, r, post, h => by
    cases hy : lkS us x with
    | none =>
      rw [upsE, ups_none hy] at h
      have := congrArg List.length h
      simp at this
    | some y =>
      rw [upsE_cons hl hy] at h
      injection h with h1 h2
      exact ups_cut hl h2
theorem ups_tr {us : List (Str × Str)} (hl : leadsB us = false) {x y z : Str} (h1 : y ∈ upsE us x) (h2 : z ∈ upsE us y) : z ∈ upsE us x := by
  obtain ⟨pre, post, e⟩ := List.append_of_mem h1
  have := ups_cut hl e
  rw [this] at h2
  rw [e]
  exact List.mem_append_right _ h2
theorem ups_chain {us : List (Str × Str)} (hl : leadsB us = false) {c x y : Str} (h1 : x ∈ upsE us c) (h2 : y ∈ upsE us c) : y ∈ upsE us x ∨ x ∈ upsE us y := by
  obtain ⟨pre, post, e⟩ := List.append_of_mem h1
  have e1 := ups_cut hl e
  rw [e] at h2
  rcases List.mem_append.mp h2 with h | h
  · obtain ⟨p1, p2, e2⟩ := List.append_of_mem h
    rw [e2, List.append_assoc, List.cons_append] at e
    have e3 := ups_cut hl e
    right
    rw [e3]
    simp
  · left
    rw [e1]
    exact h
def baseB (us : List (Str × Str)) (x y : Str) (up : Bool) : Option Str := if up then (upsE us x).find? fun b => decide (b ∈ upsE us y) else if y ∈ upsE us x then some x else if x ∈ upsE us y then some y else none
/-- over (up), under -/
def gb (us : List (Str × Str)) (up : Bool) (x r : Str) : Prop := if up then r ∈ upsE us x else x ∈ upsE us r
theorem base_some {us : List (Str × Str)} (hl : leadsB us = false) {x y r : Str} {up : Bool} (h : baseB us x y up = some r) : gb us up x r ∧ gb us up y r ∧ ∀ c, gb us up x c → gb us up y c → gb us up r c := by
  unfold baseB at h
  unfold gb
  cases up with
  | true =>
    simp only [if_true] at h ⊢
    have h1 := List.find?_some h
    have h2 := List.mem_of_find?_eq_some h
    have h1 := of_decide_eq_true h1
    refine ⟨h2, h1, fun c hc1 hc2 => ?_⟩
    obtain ⟨h3, pre, post, e, h4⟩ := List.find?_eq_some_iff_append.mp h
    rw [ups_cut hl e]
    rw [e] at hc1
    rcases List.mem_append.mp hc1 with z | z
    · have := h4 c z
      rw [decide_eq_true hc2] at this
      simp at this
    · exact z
  | false =>
    simp only [Bool.false_eq_true, if_false] at h ⊢
    split at h
    · rename_i c
      cases h
      exact ⟨ups_self _ _, c, fun _ h _ => h⟩
    · split at h
      · rename_i c
        cases h
        exact ⟨c, ups_self _ _, fun _ _ h => h⟩
      · cases h
theorem base_none {us : List (Str × Str)} (hl : leadsB us = false) {x y : Str} {up : Bool} (h : baseB us x y up = none) : ∀ c, gb us up x c → gb us up y c → False := by
  unfold baseB at h
  unfold gb
  intro c
  cases up with
  | true =>
    simp only [if_true] at h ⊢
    intro h1 h2
    rw [List.find?_eq_none] at h
    exact h c h1 (decide_eq_true h2)
  | false =>
    simp only [Bool.false_eq_true, if_false] at h ⊢
    intro h1 h2
    rcases ups_chain hl h1 h2 with z | z
    · rw [if_pos z] at h; cases h
    · split at h
      · cases h
      · cases h
def betL (f : D → D → Bool → Option D) (up : Bool) : List Nat → List D → List D → Option (List D)
  | c :: cs, a :: as, b :: bs => match f a b (turnB c up) with
    | none => none
    | some p => (betL f up cs as bs).map (p :: ·)
  | _, _, _ => some []
def betB (ss us : List (Str × Str)) : Nat → D → D → Bool → Option D
  | n + 1, .tup (.str x :: as), .tup (.str y :: bs), up => if (as.isEmpty && bs.isEmpty) = true then (baseB us x y up).map fun b => .tup [.str b] else if x = y then (betL (betB ss us n) up (mk0 ss (.str x)) as bs).map fun ps => .tup (.str x :: ps) else none
  | _, _, _, _ => none
def geB (ss us : List (Str × Str)) (n : Nat) (up : Bool) (a r : D) : Bool := if up then lieB ss us n a r else lieB ss us n r a
def zipG (f : Bool → D → D → Bool) (up : Bool) : List Nat → List D → List D → Bool
  | c :: cs, a :: as, r :: rs => f (turnB c up) a r && zipG f up cs as rs
  | _, _, _ => true
theorem zipG_eq {ss us : List (Str × Str)} {n : Nat} {up : Bool} : ∀ {cs : List Nat} {as rs : List D}, zipG (geB ss us n) up cs as rs = if up then zipM (lieB ss us n) cs as rs else zipM (lieB ss us n) cs rs as
  | [], as, rs => by
    cases up <;> cases as <;> cases rs <;> rfl
  | c :: cs, [], rs => by
    cases up <;> cases rs <;> rfl
  | c :: cs, a :: as, [] => by
    cases up <;> rfl
  | c :: cs, a :: as, r :: rs => by
    rw [zipG, zipG_eq (cs := cs)]
    unfold geB turnB
    cases up <;> by_cases h : c = 43 <;> simp [zipM, h]
theorem ge_node {ss us : List (Str × Str)} {n : Nat} {up : Bool} {x m : Str} {as rs : List D} (hx : lkS ss x = some m) (h : as ≠ []) (h2 : rs ≠ []) : geB ss us (n + 1) up (.tup (.str x :: as)) (.tup (.str x :: rs)) = zipG (geB ss us n) up m.cps.toList as rs := by
  have e1 : as.isEmpty = false := by cases as <;> first | rfl | exact absurd rfl h
  have e2 : rs.isEmpty = false := by cases rs <;> first | rfl | exact absurd rfl h2
  rw [zipG_eq]
  unfold geB
  cases up <;> simp [lieB, e1, e2, mk0, hx]
theorem ge_base {ss us : List (Str × Str)} {n : Nat} {up : Bool} {x r : Str} : geB ss us (n + 1) up (.tup [.str x]) (.tup [.str r]) = true ↔ gb us up x r := by
  unfold geB gb
  cases up <;> simp [lieB]
/-- what lies over or under a kind has its word -/
theorem ge_word {ss us : List (Str × Str)} {n : Nat} {up : Bool} {x y : Str} {as bs : List D} (h : geB ss us (n + 1) up (.tup (.str x :: as)) (.tup (.str y :: bs)) = true) : (as = [] ∧ bs = []) ∨ x = y := by
  cases as with
  | nil =>
    cases bs with
    | nil => exact .inl ⟨rfl, rfl⟩
    | cons b bs =>
      right
      unfold geB at h
      cases up <;> simp [lieB] at h
      · exact h.1.symm
      · exact h.1
  | cons a as =>
    right
    unfold geB at h
    cases up <;> simp [lieB] at h
    · exact h.1.symm
    · exact h.1
/-- the same words everywhere -/
theorem bet_ok {ss us : List (Str × Str)} (hl : leadsB us = false) (hu : ∀ p ∈ us, lkS ss p.2 = some NOMK) (hkk : ∀ p ∈ ss, isWord p.1 = true) : ∀ (n : Nat) (a b : D) (up : Bool), KdF ss n a → KdF ss n b →
    (∀ r, betB ss us n a b up = some r → KdF ss n r ∧ geB ss us n up a r = true ∧ geB ss us n up b r = true ∧ ∀ c, KdF ss n c → geB ss us n up a c = true → geB ss us n up b c = true → geB ss us n up r c = true) ∧
    (betB ss us n a b up = none → ∀ c, KdF ss n c → geB ss us n up a c = true → geB ss us n up b c = true → False) := by
  intro n
  induction n with
  | zero =>
    intro a b up ha _
    obtain ⟨_, _, _, _, _, _, _, h0, _⟩ := ha.node
    omega
  | succ n ih =>
    intro a b up ha hb
    obtain ⟨x, m, as, rfl, hx, hml, h3, _, hxw, has⟩ := ha.node
    obtain ⟨y, m', bs, rfl, hy, hml', h3', _, hyw, hbs⟩ := hb.node
    have el : m.cps.toList.length = as.length := hml
    have el' : m'.cps.toList.length = bs.length := hml'
    rw [betB]
    cases as with
    | nil =>
      have hx0 : lkS ss x = some NOMK := by rw [hx, show m = NOMK from nomk_len.mpr (by rw [hml]; rfl)]
      cases bs with
      | nil =>
        have hy0 : lkS ss y = some NOMK := by rw [hy, show m' = NOMK from nomk_len.mpr (by rw [hml']; rfl)]
        rw [if_pos (by rfl)]
        constructor
        · intro r hr
          obtain ⟨b, hb, rfl⟩ := Option.map_eq_some_iff.mp hr
          obtain ⟨b1, b2, b3⟩ := base_some hl hb
          have hb0 : lkS ss b = some NOMK := by
            unfold baseB at hb
            cases up with
            | true => exact ups_base hu us.length x hx0 b (List.mem_of_find?_eq_some hb)
            | false =>
              simp only [Bool.false_eq_true, if_false] at hb
              split at hb
              · cases hb; exact hx0
              · split at hb
                · cases hb; exact hy0
                · cases hb
          refine ⟨KdF.of hb0 (by decide +kernel) (by simp) (hkk _ (lkS_in hb0)) (by simp), ge_base.mpr b1, ge_base.mpr b2, fun c hc h1 h2 => ?_⟩
          obtain ⟨z, mz, zs, rfl, hz, hmz, _, _, _, _⟩ := hc.node
          have : zs = [] := by
            rcases ge_word h1 with ⟨_, h⟩ | h
            · exact h
            · subst h
              rw [hx0] at hz
              cases hz
              exact List.length_eq_zero_iff.mp (by rw [← hmz]; decide +kernel)
          subst this
          exact ge_base.mpr (b3 z (ge_base.mp h1) (ge_base.mp h2))
        · intro h c hc h1 h2
          obtain ⟨z, mz, zs, rfl, hz, hmz, _, _, _, _⟩ := hc.node
          have : zs = [] := by
            rcases ge_word h1 with ⟨_, h⟩ | h
            · exact h
            · subst h
              rw [hx0] at hz
              cases hz
              exact List.length_eq_zero_iff.mp (by rw [← hmz]; decide +kernel)
          subst this
          exact base_none hl (Option.map_eq_none_iff.mp h) z (ge_base.mp h1) (ge_base.mp h2)
      | cons b0 bs =>
        rw [if_neg (by simp)]
        have hne : x ≠ y := fun e => by
          subst e
          rw [hx] at hy
          cases hy
          rw [List.length_cons] at hml'
          rw [List.length_nil] at hml
          omega
        rw [if_neg hne]
        refine ⟨(fun r h => by cases h), fun _ c hc h1 h2 => ?_⟩
        obtain ⟨z, mz, zs, rfl, hz, hmz, _, _, _, _⟩ := hc.node
        have hzy : y = z := by
          rcases ge_word h2 with ⟨h, _⟩ | h
          · cases h
          · exact h
        subst hzy
        rcases ge_word h1 with ⟨_, h⟩ | h
        · subst h
          rw [hy] at hz
          cases hz
          rw [hml'] at hmz
          simp at hmz
        · exact hne h
    | cons a0 as0 =>
      generalize hAS : a0 :: as0 = AS at *
      have hne0 : AS ≠ [] := by rw [← hAS]; simp
      rw [show (AS.isEmpty && bs.isEmpty) = false by rw [← hAS]; rfl, if_neg (by simp)]
      by_cases hxy : x = y
      · subst hxy
        rw [hx] at hy
        cases hy
        rw [if_pos rfl, mk0, hx]
        dsimp only
        have bne : bs ≠ [] := fun z => by
          rw [z] at hml'
          rw [hml'] at hml
          exact hne0 (List.length_eq_zero_iff.mp hml.symm)
        -- the parts
        have key : ∀ (cs : List Nat) (as bs : List D), cs.length = as.length → cs.length = bs.length → (∀ d ∈ as, KdF ss n d) → (∀ d ∈ bs, KdF ss n d) →
            (∀ rs, betL (betB ss us n) up cs as bs = some rs → rs.length = as.length ∧ (∀ d ∈ rs, KdF ss n d) ∧ zipG (geB ss us n) up cs as rs = true ∧ zipG (geB ss us n) up cs bs rs = true ∧ ∀ zs, zs.length = as.length → (∀ d ∈ zs, KdF ss n d) → zipG (geB ss us n) up cs as zs = true → zipG (geB ss us n) up cs bs zs = true → zipG (geB ss us n) up cs rs zs = true) ∧
            (betL (betB ss us n) up cs as bs = none → ∀ zs, zs.length = as.length → (∀ d ∈ zs, KdF ss n d) → zipG (geB ss us n) up cs as zs = true → zipG (geB ss us n) up cs bs zs = true → False) := by
          intro cs
          induction cs with
          | nil =>
            intro as bs h1 h2 _ _
            have e1 : as = [] := List.length_eq_zero_iff.mp h1.symm
            have e2 : bs = [] := List.length_eq_zero_iff.mp h2.symm
            subst e1 e2
            refine ⟨fun rs h => ?_, fun h => by cases h⟩
            cases h
            exact ⟨rfl, by simp, rfl, rfl, fun zs _ _ _ _ => by cases zs <;> rfl⟩
          | cons c cs ihc =>
            intro as bs h1 h2 ka kb
            cases as with
            | nil => cases h1
            | cons a as =>
              cases bs with
              | nil => cases h2
              | cons b bs =>
                obtain ⟨i1, i2⟩ := ihc as bs (by simpa using h1) (by simpa using h2) (fun d hd => ka d (List.mem_cons_of_mem _ hd)) fun d hd => kb d (List.mem_cons_of_mem _ hd)
                obtain ⟨j1, j2⟩ := ih a b (turnB c up) (ka a List.mem_cons_self) (kb b List.mem_cons_self)
                rw [betL]
                cases hp : betB ss us n a b (turnB c up) with
                | none =>
                  refine ⟨(fun rs h => by cases h), fun _ zs hz kz g1 g2 => ?_⟩
                  cases zs with
                  | nil => cases hz
                  | cons z zs =>
                    rw [zipG, Bool.and_eq_true] at g1 g2
                    exact j2 hp z (kz z List.mem_cons_self) g1.1 g2.1
                | some p =>
                  dsimp only
                  obtain ⟨p1, p2, p3, p4⟩ := j1 p hp
                  constructor
                  · intro rs h
                    obtain ⟨qs, hq, rfl⟩ := Option.map_eq_some_iff.mp h
                    obtain ⟨q1, q2, q3, q4, q5⟩ := i1 qs hq
                    refine ⟨by rw [List.length_cons, List.length_cons, q1], fun d hd => ?_, by rw [zipG, p2, q3]; rfl, by rw [zipG, p3, q4]; rfl, fun zs hz kz g1 g2 => ?_⟩
                    · rcases List.mem_cons.mp hd with rfl | hd
                      · exact p1
                      · exact q2 d hd
                    · cases zs with
                      | nil => cases hz
                      | cons z zs =>
                        rw [zipG, Bool.and_eq_true] at g1 g2 ⊢
                        exact ⟨p4 z (kz z List.mem_cons_self) g1.1 g2.1, q5 zs (by simpa using hz) (fun d hd => kz d (List.mem_cons_of_mem _ hd)) g1.2 g2.2⟩
                  · intro h zs hz kz g1 g2
                    cases zs with
                    | nil => cases hz
                    | cons z zs =>
                      rw [zipG, Bool.and_eq_true] at g1 g2
                      exact i2 (Option.map_eq_none_iff.mp h) zs (by simpa using hz) (fun d hd => kz d (List.mem_cons_of_mem _ hd)) g1.2 g2.2
        obtain ⟨k1, k2⟩ := key m.cps.toList AS bs el el' has hbs
        have cnode : ∀ c, KdF ss (n + 1) c → geB ss us (n + 1) up (.tup (.str x :: AS)) c = true → ∃ zs, c = .tup (.str x :: zs) ∧ zs.length = AS.length ∧ zs ≠ [] ∧ ∀ d ∈ zs, KdF ss n d := fun c hc h1 => by
          obtain ⟨z, mz, zs, rfl, hz, hmz, _, _, _, hzs⟩ := hc.node
          have : x = z := by
            rcases ge_word h1 with ⟨h, _⟩ | h
            · exact absurd h hne0
            · exact h
          subst this
          rw [hx] at hz
          cases hz
          have hzl : zs.length = AS.length := by rw [← hmz]; exact hml
          exact ⟨zs, rfl, hzl, fun z => by rw [z] at hzl; exact hne0 (List.length_eq_zero_iff.mp hzl.symm), hzs⟩
        constructor
        · intro r hr
          obtain ⟨rs, hrs, rfl⟩ := Option.map_eq_some_iff.mp hr
          obtain ⟨q1, q2, q3, q4, q5⟩ := k1 rs hrs
          have rne : rs ≠ [] := fun z => by rw [z] at q1; exact hne0 (List.length_eq_zero_iff.mp q1.symm)
          refine ⟨KdF.of hx (by rw [q1]; exact hml) (by rw [q1]; exact h3) hxw q2, by rw [ge_node hx hne0 rne]; exact q3, by rw [ge_node hx bne rne]; exact q4, fun c hc h1 h2 => ?_⟩
          obtain ⟨zs, rfl, hzl, zne, hzs⟩ := cnode c hc h1
          rw [ge_node hx hne0 zne] at h1
          rw [ge_node hx bne zne] at h2
          rw [ge_node hx rne zne]
          exact q5 zs hzl hzs h1 h2
        · intro h c hc h1 h2
          obtain ⟨zs, rfl, hzl, zne, hzs⟩ := cnode c hc h1
          rw [ge_node hx hne0 zne] at h1
          rw [ge_node hx bne zne] at h2
          exact k2 (Option.map_eq_none_iff.mp h) zs hzl hzs h1 h2
      · rw [if_neg hxy]
        refine ⟨(fun r h => by cases h), fun _ c hc h1 h2 => ?_⟩
        obtain ⟨z, mz, zs, rfl, hz, hmz, _, _, _, _⟩ := hc.node
        have hzx : x = z := by
          rcases ge_word h1 with ⟨h, _⟩ | h
          · exact absurd h hne0
          · exact h
        subst hzx
        rcases ge_word h2 with ⟨h, h4⟩ | h
        · rw [h4] at hmz
          rw [hx] at hz
          cases hz
          rw [hml] at hmz
          exact hne0 (List.length_eq_zero_iff.mp hmz)
        · exact hxy h.symm
/-! ### all kinds with the same words -/
def basesL (ss : List (Str × Str)) : List Str := (ss.filter fun p => decide (p.2 = NOMK)).map (·.1)
def growR (rows : List (List D)) (l : List D) : List (List D) := rows.flatMap fun row => l.map fun v => row ++ [v]
def sameL (ss : List (Str × Str)) : Nat → D → List D
  | n + 1, .tup (.str x :: as) => if as.isEmpty = true then (basesL ss).map fun w => .tup [.str w] else ((as.map (sameL ss n)).foldl growR [[.str x]]).map D.tup
  | _, _ => []
theorem grow_mem : ∀ {ls : List (List D)} {rows : List (List D)} {r : List D}, r ∈ ls.foldl growR rows ↔ ∃ q ∈ rows, ∃ t, r = q ++ t ∧ All2 (fun l v => v ∈ l) ls t
  | [], rows, r => by
    constructor
    · exact fun h => ⟨r, h, [], by simp, .nil⟩
    · rintro ⟨q, hq, t, rfl, h⟩
      cases h
      rw [List.append_nil]
      exact hq
  | l :: ls, rows, r => by
    rw [List.foldl_cons, grow_mem]
    constructor
    · rintro ⟨q, hq, t, rfl, h⟩
      obtain ⟨p, hp, hq⟩ := List.mem_flatMap.mp hq
      obtain ⟨v, hv, rfl⟩ := List.mem_map.mp hq
      exact ⟨p, hp, v :: t, by simp, .cons hv h⟩
    · rintro ⟨q, hq, t, rfl, h⟩
      cases h with
      | @cons a v as bs hv h =>
        exact ⟨q ++ [v], List.mem_flatMap.mpr ⟨q, hq, List.mem_map.mpr ⟨v, hv, rfl⟩⟩, bs, by simp, h⟩
theorem same_kd {ss : List (Str × Str)} (hn : (ss.map (·.1)).Nodup) (hkk : ∀ p ∈ ss, isWord p.1 = true) : ∀ (n : Nat) (d : D), KdF ss n d → ∀ r ∈ sameL ss n d, KdF ss n r := by
  intro n
  induction n with
  | zero => intro d _ r hr; rw [sameL] at hr; cases hr; intro _ _ z; omega
  | succ n ih =>
    intro d hd r hr
    obtain ⟨x, m, as, rfl, hx, hml, h3, _, hxw, has⟩ := hd.node
    rw [sameL] at hr
    split at hr
    · obtain ⟨w, hw, rfl⟩ := List.mem_map.mp hr
      obtain ⟨p, hp, rfl⟩ := List.mem_map.mp hw
      obtain ⟨hp1, hp2⟩ := List.mem_filter.mp hp
      have : lkS ss p.1 = some NOMK := by rw [lkS_mem hn hp1, of_decide_eq_true hp2]
      exact KdF.of this (by decide +kernel) (by simp) (hkk _ hp1) (by simp)
    · obtain ⟨q, hq, rfl⟩ := List.mem_map.mp hr
      obtain ⟨q0, hq0, t, rfl, h⟩ := grow_mem.mp hq
      rw [List.mem_singleton.mp hq0]
      have hlen : ∀ {ls : List (List D)} {t : List D}, All2 (fun l v => v ∈ l) ls t → t.length = ls.length := fun {ls t} h => by
        induction h with
        | nil => rfl
        | cons _ _ ih => rw [List.length_cons, List.length_cons, ih]
      have hall : ∀ {es : List D} {t : List D}, (∀ e ∈ es, KdF ss n e) → All2 (fun l v => v ∈ l) (es.map (sameL ss n)) t → ∀ d ∈ t, KdF ss n d := by
        intro es
        induction es with
        | nil => intro t _ h; cases h; simp
        | cons e es ih2 =>
          intro t he h
          cases h with
          | @cons _ v _ bs hv h =>
            intro d hd
            rcases List.mem_cons.mp hd with rfl | hd
            · exact ih e (he e List.mem_cons_self) _ hv
            · exact ih2 (fun z hz => he z (List.mem_cons_of_mem _ hz)) h d hd
      have hl := hlen h
      rw [List.length_map] at hl
      show KdF ss (n + 1) (.tup (.str x :: t))
      exact KdF.of hx (by rw [hl]; exact hml) (by rw [hl]; exact h3) hxw (hall has h)
/-- what lies over or under a kind is one of those with its words -/
theorem same_ge {ss us : List (Str × Str)} : ∀ (n : Nat) (d r : D) (up : Bool), KdF ss n d → KdF ss n r → geB ss us n up d r = true → r ∈ sameL ss n d := by
  intro n
  induction n with
  | zero =>
    intro d r up hd _ _
    obtain ⟨_, _, _, _, _, _, _, h0, _⟩ := hd.node
    omega
  | succ n ih =>
    intro d r up hd hr hg
    obtain ⟨x, m, as, rfl, hx, hml, h3, _, hxw, has⟩ := hd.node
    obtain ⟨z, mz, zs, rfl, hz, hmz, _, _, _, hzs⟩ := hr.node
    rw [sameL]
    cases as with
    | nil =>
      have hx0 : lkS ss x = some NOMK := by rw [hx, show m = NOMK from nomk_len.mpr (by rw [hml]; rfl)]
      have : zs = [] := by
        rcases ge_word hg with ⟨_, h⟩ | h
        · exact h
        · subst h
          rw [hx0] at hz
          cases hz
          exact List.length_eq_zero_iff.mp (by rw [← hmz]; decide +kernel)
      subst this
      rw [if_pos (by rfl)]
      refine List.mem_map.mpr ⟨z, List.mem_map.mpr ⟨(z, mz), List.mem_filter.mpr ⟨lkS_in hz, decide_eq_true (nomk_len.mpr hmz)⟩, rfl⟩, rfl⟩
    | cons a0 as0 =>
      generalize hAS : a0 :: as0 = AS at *
      have hne0 : AS ≠ [] := by rw [← hAS]; simp
      rw [if_neg (by rw [← hAS]; simp)]
      have : x = z := by
        rcases ge_word hg with ⟨h, _⟩ | h
        · exact absurd h hne0
        · exact h
      subst this
      rw [hx] at hz
      cases hz
      have hzl : zs.length = AS.length := by rw [← hmz]; exact hml
      have zne : zs ≠ [] := fun z => by rw [z] at hzl; exact hne0 (List.length_eq_zero_iff.mp hzl.symm)
      rw [ge_node hx hne0 zne] at hg
      refine List.mem_map.mpr ⟨_, grow_mem.mpr ⟨[.str x], by simp, zs, rfl, ?_⟩, rfl⟩
      have key : ∀ (cs : List Nat) (as zs : List D), cs.length = as.length → zs.length = as.length → (∀ d ∈ as, KdF ss n d) → (∀ d ∈ zs, KdF ss n d) → zipG (geB ss us n) up cs as zs = true → All2 (fun l v => v ∈ l) (as.map (sameL ss n)) zs := by
        intro cs
        induction cs with
        | nil =>
          intro as zs h1 h2 _ _ _
          have e1 : as = [] := List.length_eq_zero_iff.mp h1.symm
          subst e1
          have e2 : zs = [] := List.length_eq_zero_iff.mp h2
          subst e2
          exact .nil
        | cons c cs ihc =>
          intro as zs h1 h2 ka kz g
          cases as with
          | nil => cases h1
          | cons a as =>
            cases zs with
            | nil => cases h2
            | cons z zs =>
              rw [zipG, Bool.and_eq_true] at g
              exact .cons (ih a z _ (ka a List.mem_cons_self) (kz z List.mem_cons_self) g.1) (ihc as zs (by simpa using h1) (by simpa using h2) (fun d hd => ka d (List.mem_cons_of_mem _ hd)) (fun d hd => kz d (List.mem_cons_of_mem _ hd)) g.2)
      exact key m.cps.toList AS zs hml hzl has hzs hg
theorem lie_refl {ss us : List (Str × Str)} (hl : leadsB us = false) : ∀ (n : Nat) (d : D), KdF ss n d → geB ss us n true d d = true := by
  intro n
  induction n with
  | zero =>
    intro d hd
    obtain ⟨_, _, _, _, _, _, _, h0, _⟩ := hd.node
    omega
  | succ n ih =>
    intro d hd
    obtain ⟨x, m, as, rfl, hx, hml, h3, _, hxw, has⟩ := hd.node
    cases as with
    | nil => exact ge_base.mpr (show x ∈ upsE us x from ups_self us.length x)
    | cons a as =>
      rw [ge_node hx (by simp) (by simp), zipG_eq, if_pos rfl]
      have key : ∀ (cs : List Nat) (as : List D), (∀ d ∈ as, KdF ss n d) → zipM (lieB ss us n) cs as as = true := by
        intro cs
        induction cs with
        | nil => intro as _; cases as <;> rfl
        | cons c cs ihc =>
          intro as ha
          cases as with
          | nil => rfl
          | cons a as =>
            have h1 : lieB ss us n a a = true := ih a (ha a List.mem_cons_self)
            rw [zipM, h1, ihc as fun d hd => ha d (List.mem_cons_of_mem _ hd)]
            simp
      exact key _ _ has

end Kn

set_option synthInstance.maxHeartbeats 0
set_option synthInstance.maxSize 100000
set_option Elab.async false
set_option maxRecDepth 100000
set_option linter.all false
namespace Kn
open PySem L2
local macro_rules | `(tactic| walk_at "wk") => `(tactic| repeat (first
  | refine ⟨_, rfl, ?_⟩
  | refine ⟨_, _, rfl, rfl, ?_⟩
  | refine ⟨⟨by decide, by decide⟩, ?_⟩
  | refine ⟨(by show (0 : Int) < _; decide), ?_⟩
  | refine ⟨Or.inl ⟨by omega, by omega⟩, ?_⟩
  | refine Or.inl ⟨_, rfl, ?_⟩
  | fail))
local macro_rules | `(tactic| walk_at "lits") => `(tactic| repeat (first
  | exact lit_nil
  | exact lit_str
  | exact lit_int
  | exact lit_non
  | refine lit_cons ?_ ?_
  | refine lit_tup ?_
  | fail))
local macro_rules | `(tactic| walk_at "d") => `(tactic| simp only [↓u_tdC, ↓u_tdOp, ↓u_tdNil, ↓u_tdCons, ↓u_tdTup, ↓u_tnLst, ↓u_tdFrz, ↓u_tdFrzK, ↓u_tkNew, ↓u_tdTest, ↓u_tdAnd, ↓u_tdOr, ↓u_tdNot, ↓u_tdYes, ↓u_tdAndV, ↓u_tdOrV, ↓u_tdNotV, ↓u_tdIf, ↓u_tdCB, ↓u_tnCB, ↓u_tnAdd, ↓u_tdNoPart, ↓u_tdPart, ↓u_tdSl, ↓u_tnSl, ↓u_tdRevT, ↓u_tnRevL, ↓u_tdIsiT, ↓u_tdNext, ↓u_tdSeq, ↓u_tdBreak, ↓u_tdCont, ↓u_tdDrop, ↓u_tdRet, ↓u_tdRetN, ↓u_tdRetO, ↓u_tdIfS, ↓u_gdName, ↓u_gdNil, ↓u_gdCons, ↓u_gdTup, ↓u_tdAsg, ↓u_tdAsgN, ↓u_tdAsgK, ↓u_tiAny, ↓u_tiRng1, ↓u_tiRng2, ↓u_tdFor, ↓u_tnLc, ↓u_tdCall, ↓u_tnCall, ↓u_tdRaise, ↓u_tdApp, ↓u_tdDPut, ↓u_tkDict, ↓u_tdAsgR, ↓u_tdForR, ↓u_tdFldC, ↓u_tdSetC, ↓u_tdMeth, ↓u_tdProp, ↓u_tdMakeR, ↓u_tdMakeF, ↓u_tdRaiseS, ↓u_tdTryAs, ↓u_tdTryN, ↓u_tdXf, ↓u_tdJoin, ↓u_tnSplit, ↓u_tdPartn, ↓u_tdFmt, ↓u_tdJoined, ↓u_tkDisp, ↓u_tdShK, ↓u_tdClear, ↓u_tdOGet, ↓u_tdOSet, ↓u_tdOIn, ↓u_tdNeg, ↓u_tdForO, ↓u_tnLcO, ↓u_tnLcR, ↓u_tdGet2, ↓u_tdPopAt, ↓u_tdRg1, ↓u_tdTupRg, ↓u_tnLstRg, ↓u_tdForW, ↓u_tdAugO, ↓u_tdLPut, ↓u_tdFmtW, ↓u_tdMethK, ↓u_tdChain, ↓u_tnLc2, ↓u_tdIndex, ↓u_addF_i, ↓u_addF_s, ↓u_addF_t, ↓u_addF_l, ↓u_iiF, ↓u_mulF_i, ↓u_mulF_s, ↓u_inF_l, ↓u_inF_t, ↓u_inF_s, ↓u_inF_ds, ↓u_inF_di, ↓u_ixF_l, ↓u_ixF_t, ↓u_ixF_s, ↓u_ixF_di, ↓u_ixF_ds, ↓u_slF_l, ↓u_slF_t, ↓u_slF_s, ↓u_lenF_l, ↓u_lenF_t, ↓u_lenF_s, ↓u_lenF_d, ↓u_isiF, ↓u_isiD, ↓u_tupF_l, ↓u_tupF_t, ↓u_lstF_l, ↓u_lstF_t, ↓u_allF, ↓u_anyF, ↓u_sumF, ↓u_sortF, ↓u_intF_i, ↓u_intF_b, ↓u_strF, ↓u_walkF_l, ↓u_walkF_t, ↓u_walkF_s, ↓u_walkF_d, ↓u_arg1, ↓u_arg2, ↓u_frcL_n, ↓u_frcL_c, ↓u_addD, ↓u_iiD, ↓u_mulD, ↓u_eqD_f, ↓u_eqD_t, ↓u_inD_f, ↓u_inD_t, ↓u_ixD, ↓u_dd2, ↓u_isND_f, ↓u_isND_t, ↓u_fldF, ↓u_recF, ↓u_ofC, ↓u_isBD, ↓u_isBF_f, ↓u_isBF_t, ↓u_turnD, ↓u_isoD, ↓u_isoF_o, ↓u_isoF_n, ↓u_asD, ↓u_binOD, ↓u_idxF, ↓u_minF, ↓u_maxF, ↓u_turnD2, ↓u_mm2D, ↓u_lputF, ↓u_fmtWF_s, ↓u_fmtWF_i, ↓u_inTD_f, ↓u_inTD_t, ↓u_inTF, ↓u_refV, ↓u_getF, ↓u_popF, ↓u_dctW, ↓u_tvVar, ↓u_tvFld, ↓u_refD, ↓u_ownW, ↓u_valV1, ↓u_mergeD_n, ↓u_mergeD_c, ↓u_eqKD, ↓u_eqKF_f, ↓u_eqKF_t, ↓u_asS, ↓u_joinF_l, ↓u_joinF_t, ↓u_fmtF_s, ↓u_fmtF_i, ↓u_excF, ↓u_clsV_r, ↓u_clsV_t, ↓u_isYD, ↓b_Call, ↓b_CallN, ↓b_opt, ↓b_dd1, ↓b_asB, ↓b_asI, ↓b_frc, ↓b_for, ↓b_comp, ↓b_ite, ↓b_while, ↓b_var, ↓b_aug, ↓b_mutL, ↓b_mutD, ↓b_retV, ↓b_deref, ↓b_dd1own, ↓b_mutO, ↓b_mutDO, ↓b_frcO, ↓b_comp2, ↓b_compR, ↓b_forL, ↓b_compL, ↓b_dctC, ↓b_ref, ↓b_forR, ↓b_insF, ↓b_insC, ↓b_exB, ↓o_opt, ↓o_asB, ↓o_asI, ↓o_non, ↓o_bl, ↓o_int, ↓o_str, ↓o_ty, ↓o_tup, ↓o_lst, ↓o_dct, ↓o_obj, ↓o_varV, ↓o_varL, ↓o_varD, ↓o_frc, ↓o_augI, ↓o_augS, ↓o_augL, ↓o_retV, ↓o_iteT, ↓o_iteF, ↓o_derefL, ↓o_derefD, ↓o_mutO, ↓o_mutDO, ↓o_frcL, ↓o_frcD, ↓o_frcV, ↓o_dctC, ↓o_ref, ↓o_derefR, ↓o_dd1R, ↓o_mutR, ↓o_derefK, ↓o_dd1K, ↓o_mutK, ↓o_putT, ↓o_insF, ↓o_insC, ↓o_derefI, ↓o_dd1I, ↓o_putS, ↓o_putP, look_c, look_n, putFd_c, putFd_n, ofS_eq, ↓reduceIte, eq_self, List.foldr_cons, List.foldr_nil, DEnds.un, PSt.unset, List.zip_cons_cons, List.zip_nil_left, List.zip_nil_right, List.reverse_cons, List.reverse_nil, exL, exK, exC, tysOf, tyN, isB, tyOk, isNn, PSt.set, S0, PSt.wipe, wipeR,
  List.map_cons, List.map_nil, List.length_cons, List.length_nil, List.replicate_succ, List.replicate_zero, List.cons_append, List.nil_append, List.set_cons_zero, List.set_cons_succ, List.getElem?_cons_zero, List.getElem?_cons_succ, List.getElem?_nil,
  Bool.not_true, Bool.not_false, bq_t, bq_f, Bool.not_not, Bool.false_eq_true, true_and, and_true, Nat.reduceAdd, Nat.reduceSub, Nat.reduceLeDiff, String.reduceEq, decide_true, decide_false, Bool.true_or, Bool.false_or, Bool.true_and, Bool.false_and, Bool.or_true, Bool.or_false, Bool.and_true, Bool.and_false, decide_eq_true_eq, List.mem_cons, List.not_mem_nil, or_true, true_or, or_false, false_or, List.any_cons, List.any_nil, List.all_cons, List.all_nil, Option.map_some, Option.map_none, Option.isSome_some, Option.isSome_none, eqOk_ii, eqOk_ss, eqOk_bb, eqOk_nn, eqOk_ns, eqOk_sn, eqOk_ni, eqOk_in, eqOk_si, eqOk_is, D.int.injEq, D.str.injEq, D.bl.injEq, reduceCtorEq, keyD, atI_0, atI_1, atI_2, atI_3, atI_4, cut1, ne_eq, not_true_eq_false, not_false_eq_true, Bool.not_eq_true', Bool.not_eq_false', decide_eq_false_iff_not])
local macro_rules | `(tactic| walk_at "z") => `(tactic| first
  | (apply z_seq; (focus walk_at "z"); (focus walk_at "z"))
  | (apply z_try; (focus (intro _ _ _; walk_at "z")); (focus (intro _ _ _; walk_at "z")); (focus walk_at "z"))
  | (apply z_tryN; (focus (intro _ _ _; walk_at "z")); (focus walk_at "z"); (focus walk_at "z"))
  | (apply z_cl; (focus (intro _ _ _; walk_at "z")); (focus walk_at "z"))
  | exact inferInstance
  | (apply z_if; (focus walk_at "z"); (focus walk_at "z"); (focus walk_at "z"))
  | (apply z_while; (focus walk_at "z"); (focus walk_at "z"))
  | (apply z_for; (focus walk_at "z"); (focus walk_at "z"); (focus walk_at "z")))
variable {P : Program} {w : World} {K : PySem.W.Frag} {mg : Str → Option Value} {base : Heap}
abbrev s_base_between : Stmt := top 22
abbrev N_base_between : List Str := ["stock", "one", "other", "upward", "base"]
abbrev P_base_between : List Str := ["stock", "one", "other", "upward"]
theorem sc_base_between : FnScope N_base_between P_base_between (defScope s_base_between) := ⟨rfl, rfl, rfl, by decide +kernel, rfl, by decide +kernel, by decide +kernel⟩
abbrev s_between : Stmt := top 23
abbrev N_between : List Str := ["stock", "one", "other", "upward", "marks", "parts", "k", "turn", "part"]
abbrev P_between : List Str := ["stock", "one", "other", "upward"]
theorem sc_between : FnScope N_between P_between (defScope s_between) := ⟨rfl, rfl, rfl, by decide +kernel, rfl, by decide +kernel, by decide +kernel⟩
def optS : Option Str → D
  | none => .non
  | some b => .tup [.str b]
def optD : Option D → D
  | none => .non
  | some d => d
def F_bbase (CS : Addr) : FSpec := fun ds W Q _ => ∃ (ss us : List (Str × Str)) (x y : Str) (up : Bool), ds = [.obj CS (stkC ss us), .str x, .str y, .bl up] ∧ leadsB us = false ∧ us.length ≤ 1000 ∧ Q (optS (baseB us x y up)) W
theorem str_in {x : Str} {l : List Str} : inOk (.str x) (l.map D.str) := ⟨false, .inl ⟨rfl, by rw [List.all_map]; exact List.all_eq_true.mpr fun _ _ => rfl⟩⟩
theorem ok_base_between (F : Fz K mg "base_between" s_base_between P_base_between) (T : Txt K mg) (G_uppers : Fx P w K mg base (L2.CX P w) "uppers" 1 P_uppers (lift K (F_uppers (clsA mg "Stock")))) : Fx P w K mg base (L2.CX P w) "base_between" 2 P_base_between (lift K (F_bbase (clsA mg "Stock"))) := by
  refine F.okD sc_base_between (fun ds W Q E h => by obtain ⟨ss, us, x, y, up, rfl, _⟩ := h; rfl) (fun f cdv A outer s H E e ds Qd Ed hr lk h => ?_)
  obtain ⟨ss, us, x, y, up, rfl, hl, hul, k⟩ := h
  refine ⟨_, _, (pss_cons (ps_if (pt_not (pt_val (pv 3))) (pss_cons (ps_if (pt_cmpR (op_inU K (hu65_of hr)) (pv 2) (fcallX (takes_of rfl rfl rfl rfl) G_uppers (hr.mono (by first | decide | omega)) (by rfl) (pa_cons (pv 0) (pa_cons (pv 1) pa_nil))) (by rfl)) (pss_one (ps_ret (pe_tup (pa_cons (pv 1) pa_nil)))) pss_nil)
      (pss_cons (ps_if (pt_cmpR (op_inU K (hu65_of hr)) (pv 1) (fcallX (takes_of rfl rfl rfl rfl) G_uppers (hr.mono (by first | decide | omega)) (by rfl) (pa_cons (pv 0) (pa_cons (pv 2) pa_nil))) (by rfl)) (pss_one (ps_ret (pe_tup (pa_cons (pv 2) pa_nil)))) pss_nil)
      (pss_one (ps_ret pe_non)))) pss_nil)
      (pss_cons (ps_for (passes_of rfl) rfl (pi_any K (fcallX (takes_of rfl rfl rfl rfl) G_uppers (hr.mono (by first | decide | omega)) (by rfl) (pa_cons (pv 0) (pa_cons (pv 1) pa_nil)))) (pg_name (i := 4) sc_base_between.nd rfl (Or.inl rfl)) (pss_one (ps_if (pt_cmpR (op_inU K (hu65_of hr)) (pv 4) (fcallX (takes_of rfl rfl rfl rfl) G_uppers (hr.mono (by first | decide | omega)) (by rfl) (pa_cons (pv 0) (pa_cons (pv 2) pa_nil))) (by rfl)) (pss_one (ps_ret (pe_tup (pa_cons (pv 4) pa_nil)))) pss_nil)))
      (pss_one (ps_ret pe_non)))), inferInstance, ?_⟩
  unfold baseB at k
  cases up with
  | false =>
    simp only [Bool.false_eq_true, if_false] at k
    walk_at "d"
    refine ⟨ss, us, x, rfl, hl, hul, ?_⟩
    walk_at "d"
    refine ⟨str_in, ?_⟩
    refine iteB_by (fun c => ?_) (fun c => ?_)
    · rw [str_mem] at c
      rw [if_pos c] at k
      walk_at "d"
      exact k
    · rw [str_mem] at c
      rw [if_neg c] at k
      walk_at "d"
      refine ⟨ss, us, y, rfl, hl, hul, ?_⟩
      walk_at "d"
      refine ⟨str_in, ?_⟩
      refine iteB_by (fun c2 => ?_) (fun c2 => ?_)
      · rw [str_mem] at c2
        rw [if_pos c2] at k
        walk_at "d"
        exact k
      · rw [str_mem] at c2
        rw [if_neg c2] at k
        walk_at "d"
        exact k
  | true =>
    simp only [if_true] at k
    walk_at "d"
    refine ⟨ss, us, x, rfl, hl, hul, ?_⟩
    walk_at "d"
    refine for_map D.str (upsE us x) (fun i S => ∃ v4, S = ⟨[some (.val (.obj (clsA mg "Stock") (stkC ss us))), some (.val (.str x)), some (.val (.str y)), some (.val (.bl true)), v4], e.W⟩ ∧ (upsE us x).find? (fun b => decide (b ∈ upsE us y)) = ((upsE us x).drop i).find? fun b => decide (b ∈ upsE us y)) ⟨_, rfl, by rw [List.drop_zero]⟩ ?_ ?_
    · rintro i b S hi ⟨v4, rfl, hf⟩
      rw [drop_get hi, List.find?_cons] at hf
      walk_at "d"
      refine ⟨ss, us, y, rfl, hl, hul, ?_⟩
      walk_at "d"
      refine ⟨str_in, ?_⟩
      refine iteB_by (fun c => ?_) (fun c => ?_)
      · rw [str_mem] at c
        rw [decide_eq_true c] at hf
        rw [hf] at k
        walk_at "d"
        exact k
      · rw [str_mem] at c
        rw [decide_eq_false c] at hf
        walk_at "d"
        exact ⟨_, rfl, hf⟩
    · rintro S ⟨v4, rfl, hf⟩
      rw [List.drop_length, List.find?_nil] at hf
      rw [hf] at k
      walk_at "d"
      exact k
def F_between (CS : Addr) (n : Nat) : FSpec := fun ds W Q _ => ∃ (ss us : List (Str × Str)) (a b : D) (up : Bool), ds = [.obj CS (stkC ss us), a, b, .bl up] ∧ (∀ p ∈ ss, okMark p.2 = true) ∧ leadsB us = false ∧ us.length ≤ 1000 ∧ KdF ss n a ∧ KdF ss n b ∧ (∀ r, betB ss us n a b up = some r → KdF ss n r) ∧ (∀ m, m < n → ∀ a b up, KdF ss m a → KdF ss m b → ∀ r, betB ss us m a b up = some r → KdF ss m r) ∧ Q (optD (betB ss us n a b up)) W
theorem betL_drop {f : D → D → Bool → Option D} {up : Bool} {cs : List Nat} {as bs : List D} {i c : Nat} {a b : D} (h1 : cs[i]? = some c) (h2 : as[i]? = some a) (h3 : bs[i]? = some b) : betL f up (cs.drop i) (as.drop i) (bs.drop i) = match f a b (turnB c up) with
    | none => none
    | some p => (betL f up (cs.drop (i + 1)) (as.drop (i + 1)) (bs.drop (i + 1))).map (p :: ·) := by
  rw [drop_get h1, drop_get h2, drop_get h3, betL]
  all_goals (cases f a b (turnB c up) <;> rfl)
theorem betL_nil {f : D → D → Bool → Option D} {up : Bool} {as bs : List D} : betL f up [] as bs = some [] := by cases as <;> cases bs <;> rfl
theorem between_step (F : Fz K mg "between" s_between P_between) (T : Txt K mg) (n : Nat) (G_base_between : Fx P w K mg base (L2.CX P w) "base_between" 2 P_base_between (lift K (F_bbase (clsA mg "Stock")))) {Fs : FSpec} (G_between : Fx P w K mg base (L2.CX P w) "between" (n + 2) P_between (lift K Fs)) (hG : ∀ m, n = m + 1 → ∀ ds W Q E, F_between (clsA mg "Stock") m ds W Q E → Fs ds W Q E) : Fx P w K mg base (L2.CX P w) "between" (n + 3) P_between (lift K (F_between (clsA mg "Stock") n)) := by
  refine F.okD sc_between (fun ds W Q E h => by obtain ⟨ss, us, a, b, up, rfl, _⟩ := h; rfl) (fun f cdv A outer s H E e ds Qd Ed hr lk h => ?_)
  obtain ⟨ss, us, a, b, up, rfl, hk, hl, hul, ha, hb, hkr, hkm, k⟩ := h
  obtain ⟨x, m, as, rfl, hx, hml, h3, hn0, _, has⟩ := ha.node
  obtain ⟨y, m', bs, rfl, hy, hml', h3', _, _, hbs⟩ := hb.node
  obtain ⟨n', rfl⟩ : ∃ n', n = n' + 1 := ⟨n - 1, by omega⟩
  refine ⟨_, _, (pss_cons (ps_if (PW.pt (pw_and (pt_cmpR (op_eqU K hr.units) (pe_callB (call_lenU K) (by rfl) T.b_len PySem.boot_len (pa_cons (pv 1) pa_nil)) pe_int (nomark _)) (pw_and1 (pt_cmpR (op_eqU K hr.units) (pe_callB (call_lenU K) (by rfl) T.b_len PySem.boot_len (pa_cons (pv 2) pa_nil)) pe_int (nomark _))))) (pss_one (ps_ret (fcallX (takes_of rfl rfl rfl rfl) G_base_between (hr.mono (by first | decide | omega)) (by rfl) (pa_cons (pv 0) (pa_cons (pe_ix (ix_U K (hu_of hr)) (pv 1) pe_int (fun _ _ => rfl)) (pa_cons (pe_ix (ix_U K (hu_of hr)) (pv 2) pe_int (fun _ _ => rfl)) (pa_cons (pv 3) pa_nil))))))) pss_nil)
      (pss_cons (ps_if (pt_cmpR (op_neU K hr.units) (pe_ix (ix_U K (hu_of hr)) (pv 1) pe_int (fun _ _ => rfl)) (pe_ix (ix_U K (hu_of hr)) (pv 2) pe_int (fun _ _ => rfl)) (nomark _)) (pss_one (ps_ret pe_non)) pss_nil)
      (pss_cons (ps_set (i := 4) sc_between.nd rfl (Or.inl rfl) (pe_ix (ix_U K (hu_of hr)) (fldX T.f_Stock_shapes (pv 0)) (pe_ix (ix_U K (hu_of hr)) (pv 1) pe_int (fun _ _ => rfl)) (fun _ _ => rfl)))
      (pss_cons (setO_of (ps_set (i := 5) sc_between.nd rfl (Or.inl rfl) (pe_lst pa_nil)))
      (pss_cons (ps_for (passes_of rfl) rfl (pi_range1 (by rfl) T.b_range (pa_cons (pe_callB (call_lenU K) (by rfl) T.b_len PySem.boot_len (pa_cons (pv 4) pa_nil)) pa_nil)) (pg_name (i := 6) sc_between.nd rfl (Or.inl rfl)) (pss_cons (ps_set (i := 7) sc_between.nd rfl (Or.inl rfl) (pe_ifExp (pt_cmpR (op_eqU K hr.units) (pe_ix (ix_U K (hu_of hr)) (pv 4) (pv 6) (fun _ _ => rfl)) pe_str (nomark _)) (pv 3) (pe_not (pv 3))))
      (pss_cons (ps_set (i := 8) sc_between.nd rfl (Or.inl rfl) (fcallX (takes_of rfl rfl rfl rfl) G_between (hr.mono (by first | decide | omega)) (by rfl) (pa_cons (pv 0) (pa_cons (pe_ix (ix_U K (hu_of hr)) (pv 1) (pe_op (op_addU K) (pv 6) pe_int) (fun _ _ => rfl)) (pa_cons (pe_ix (ix_U K (hu_of hr)) (pv 2) (pe_op (op_addU K) (pv 6) pe_int) (fun _ _ => rfl)) (pa_cons (pv 7) pa_nil))))))
      (pss_cons (ps_if (pt_cmpR op_isNU (pv 8) pe_non (nomark _)) (pss_one (ps_ret pe_non)) pss_nil)
      (pss_one (ps_expr (pe_bmK K PySem.F.plainAttrs_list PySem.F.slot_list_append PySem.F.type_list_append mt_append (pv 5) (pa_cons (pv 8) pa_nil))))))))
      (pss_one (ps_ret (pe_op (op_addU K) (pe_tup (pa_cons (pe_ix (ix_U K (hu_of hr)) (pv 1) pe_int (fun _ _ => rfl)) pa_nil)) (pe_callTy (call_tuple_ofK K) (by rfl) T.b_tuple (by decide +kernel) (pa_cons (pv 5) pa_nil)))))))))), inferInstance, ?_⟩
  rw [betB] at k
  have cs : ∀ ss us : List (Str × Str), stkC ss us = [((Str.ofString "shapes" : Str), D.dct (dkS ss)), ((Str.ofString "above" : Str), D.dct (dkS us))] := fun _ _ => rfl
  walk_at "d"
  cases as with
  | nil =>
    refine iteB_T rfl ?_
    walk_at "d"
    cases bs with
    | nil =>
      refine iteB_T rfl ?_
      walk_at "d"
      rw [if_pos (by rfl)] at k
      refine ⟨ss, us, x, y, up, rfl, hl, hul, ?_⟩
      cases hz : baseB us x y up with
      | none => rw [hz] at k; exact k
      | some b => rw [hz] at k; exact k
    | cons b0 bs =>
      refine iteB_F (by rw [List.length_cons]; omega) ?_
      walk_at "d"
      have hne : x ≠ y := fun e => by
        subst e
        rw [hx] at hy
        cases hy
        rw [List.length_cons] at hml'
        rw [List.length_nil] at hml
        omega
      refine iteB_T hne ?_
      walk_at "d"
      rw [if_neg (by simp), if_neg hne] at k
      exact k
  | cons a0 as =>
    refine iteB_F (by rw [List.length_cons]; omega) ?_
    walk_at "d"
    generalize hAS : a0 :: as = AS at *
    rw [show (AS.isEmpty && bs.isEmpty) = false by rw [← hAS]; rfl, if_neg (by simp)] at k
    refine iteB_by (fun c => ?_) (fun c => ?_)
    · walk_at "d"
      rw [if_neg c] at k
      exact k
    · have c : x = y := Decidable.not_not.mp c
      subst c
      rw [hx] at hy
      cases hy
      rw [if_pos rfl, mk0, hx] at k
      dsimp only at k
      have el : m.cps.toList.length = AS.length := hml
      have el' : m.cps.toList.length = bs.length := hml'
      have eml : m.length = m.cps.toList.length := rfl
      walk_at "d"
      rw [cs]
      walk_at "d"
      rw [look_dkS, hx]
      walk_at "d"
      refine ⟨by omega, by omega, by omega, ?_⟩
      rw [show (m.length : Int).toNat = AS.length by omega]
      refine for_rng (fun i S => ∃ v6 v7 v8 ps, S = ⟨[some (.val (.obj (clsA mg "Stock") [("shapes", .dct (dkS ss)), ("above", .dct (dkS us))])), some (.val (.tup (.str x :: AS))), some (.val (.tup (.str x :: bs))), some (.val (.bl up)), some (.val (.str m)), some (.ownL ps), v6, v7, v8], e.W⟩ ∧ betL (betB ss us n') up m.cps.toList AS bs = (betL (betB ss us n') up (m.cps.toList.drop i) (AS.drop i) (bs.drop i)).map (ps ++ ·) ∧ ps.length = i) ⟨_, _, _, [], rfl, by simp, rfl⟩ ?_ ?_
      · rintro i S hi ⟨v6, v7, v8, ps, rfl, hf, hpl⟩
        obtain ⟨c1, hc1⟩ : ∃ c, m.cps.toList[i]? = some c := ⟨_, List.getElem?_eq_getElem (by omega)⟩
        obtain ⟨a1, ha1⟩ : ∃ c, AS[i]? = some c := ⟨_, List.getElem?_eq_getElem (by omega)⟩
        obtain ⟨b1, hb1⟩ : ∃ c, bs[i]? = some c := ⟨_, List.getElem?_eq_getElem (by omega)⟩
        have ka := has a1 (List.mem_of_getElem? ha1)
        have kb := hbs b1 (List.mem_of_getElem? hb1)
        have kr := hkm n' (by omega) a1 b1 (turnB c1 up) ka kb
        rw [betL_drop hc1 ha1 hb1] at hf
        obtain ⟨tu, htu⟩ : ∃ tu : Bool, tu = turnB c1 up := ⟨_, rfl⟩
        rw [← htu] at hf kr
        walk_at "d"
        refine ⟨by omega, ?_⟩
        rw [at_get (j := i) (by omega) hc1]
        rcases mark_in hk hx (List.mem_of_getElem? hc1) with rfl | rfl
        case' inl =>
          walk_at "d"
          refine iteB_T rfl ?_
          walk_at "d"
        case' inr =>
          walk_at "d"
          refine iteB_F (by decide) ?_
          walk_at "d"
        all_goals
          rw [at_get (j := i + 1) (by omega) (show (D.str x :: AS)[i + 1]? = some a1 from ha1)]
          walk_at "d"
          rw [at_get (j := i + 1) (by omega) (show (D.str x :: bs)[i + 1]? = some b1 from hb1)]
          walk_at "d"
          refine hG n' rfl _ _ _ _ ⟨ss, us, a1, b1, tu, by rw [htu]; rfl, hk, hl, hul, ka, kb, kr, fun m hm => hkm m (by omega), ?_⟩
          generalize hz : betB ss us n' a1 b1 tu = z at hf kr ⊢
          cases z with
          | none =>
            try dsimp only at hf
            rw [hf] at k
            unfold optD
            walk_at "d"
            exact k
          | some p =>
            try dsimp only at hf
            obtain ⟨w1, m1, q1, rfl, _⟩ := (kr p rfl).node
            unfold optD
            walk_at "d"
            refine ⟨by omega, _, _, _, ps ++ [.tup (.str w1 :: q1)], rfl, ?_, by simp; omega⟩
            rw [hf, Option.map_map]
            congr 1
            funext l
            simp
      · rintro S ⟨v6, v7, v8, ps, rfl, hf, hpl⟩
        rw [List.drop_of_length_le (l := m.cps.toList) (by omega), betL_nil] at hf
        rw [hf] at k
        walk_at "d"
        simp at k
        exact ⟨by omega, k⟩
theorem ok_between (F : Fz K mg "between" s_between P_between) (T : Txt K mg) (G_base_between : Fx P w K mg base (L2.CX P w) "base_between" 2 P_base_between (lift K (F_bbase (clsA mg "Stock")))) : ∀ n : Nat, Fx P w K mg base (L2.CX P w) "between" (n + 3) P_between (lift K (F_between (clsA mg "Stock") n))
  | 0 => between_step F T 0 G_base_between (Fs := fun _ _ _ _ => False) (F.noneD fun _ _ _ _ z => z) (fun m z => by omega)
  | n + 1 => between_step F T (n + 1) G_base_between (ok_between F T G_base_between n) (fun m z => by
      have : m = n := by omega
      subst this
      exact fun _ _ _ _ h => h)

end Kn

set_option synthInstance.maxHeartbeats 0
set_option synthInstance.maxSize 100000
set_option Elab.async false
set_option maxRecDepth 100000
set_option linter.all false
namespace Kn
open PySem L2
local macro_rules | `(tactic| walk_at "wk") => `(tactic| repeat (first
  | refine ⟨_, rfl, ?_⟩
  | refine ⟨_, _, rfl, rfl, ?_⟩
  | refine ⟨⟨by decide, by decide⟩, ?_⟩
  | refine ⟨(by show (0 : Int) < _; decide), ?_⟩
  | refine ⟨Or.inl ⟨by omega, by omega⟩, ?_⟩
  | refine Or.inl ⟨_, rfl, ?_⟩
  | fail))
local macro_rules | `(tactic| walk_at "lits") => `(tactic| repeat (first
  | exact lit_nil
  | exact lit_str
  | exact lit_int
  | exact lit_non
  | refine lit_cons ?_ ?_
  | refine lit_tup ?_
  | fail))
local macro_rules | `(tactic| walk_at "d") => `(tactic| simp only [↓u_tdC, ↓u_tdOp, ↓u_tdNil, ↓u_tdCons, ↓u_tdTup, ↓u_tnLst, ↓u_tdFrz, ↓u_tdFrzK, ↓u_tkNew, ↓u_tdTest, ↓u_tdAnd, ↓u_tdOr, ↓u_tdNot, ↓u_tdYes, ↓u_tdAndV, ↓u_tdOrV, ↓u_tdNotV, ↓u_tdIf, ↓u_tdCB, ↓u_tnCB, ↓u_tnAdd, ↓u_tdNoPart, ↓u_tdPart, ↓u_tdSl, ↓u_tnSl, ↓u_tdRevT, ↓u_tnRevL, ↓u_tdIsiT, ↓u_tdNext, ↓u_tdSeq, ↓u_tdBreak, ↓u_tdCont, ↓u_tdDrop, ↓u_tdRet, ↓u_tdRetN, ↓u_tdRetO, ↓u_tdIfS, ↓u_gdName, ↓u_gdNil, ↓u_gdCons, ↓u_gdTup, ↓u_tdAsg, ↓u_tdAsgN, ↓u_tdAsgK, ↓u_tiAny, ↓u_tiRng1, ↓u_tiRng2, ↓u_tdFor, ↓u_tnLc, ↓u_tdCall, ↓u_tnCall, ↓u_tdRaise, ↓u_tdApp, ↓u_tdDPut, ↓u_tkDict, ↓u_tdAsgR, ↓u_tdForR, ↓u_tdFldC, ↓u_tdSetC, ↓u_tdMeth, ↓u_tdProp, ↓u_tdMakeR, ↓u_tdMakeF, ↓u_tdRaiseS, ↓u_tdTryAs, ↓u_tdTryN, ↓u_tdXf, ↓u_tdJoin, ↓u_tnSplit, ↓u_tdPartn, ↓u_tdFmt, ↓u_tdJoined, ↓u_tkDisp, ↓u_tdShK, ↓u_tdClear, ↓u_tdOGet, ↓u_tdOSet, ↓u_tdOIn, ↓u_tdNeg, ↓u_tdForO, ↓u_tnLcO, ↓u_tnLcR, ↓u_tdGet2, ↓u_tdPopAt, ↓u_tdRg1, ↓u_tdTupRg, ↓u_tnLstRg, ↓u_tdForW, ↓u_tdAugO, ↓u_tdLPut, ↓u_tdFmtW, ↓u_tdMethK, ↓u_tdChain, ↓u_tnLc2, ↓u_tdIndex, ↓u_addF_i, ↓u_addF_s, ↓u_addF_t, ↓u_addF_l, ↓u_iiF, ↓u_mulF_i, ↓u_mulF_s, ↓u_inF_l, ↓u_inF_t, ↓u_inF_s, ↓u_inF_ds, ↓u_inF_di, ↓u_ixF_l, ↓u_ixF_t, ↓u_ixF_s, ↓u_ixF_di, ↓u_ixF_ds, ↓u_slF_l, ↓u_slF_t, ↓u_slF_s, ↓u_lenF_l, ↓u_lenF_t, ↓u_lenF_s, ↓u_lenF_d, ↓u_isiF, ↓u_isiD, ↓u_tupF_l, ↓u_tupF_t, ↓u_lstF_l, ↓u_lstF_t, ↓u_allF, ↓u_anyF, ↓u_sumF, ↓u_sortF, ↓u_intF_i, ↓u_intF_b, ↓u_strF, ↓u_walkF_l, ↓u_walkF_t, ↓u_walkF_s, ↓u_walkF_d, ↓u_arg1, ↓u_arg2, ↓u_frcL_n, ↓u_frcL_c, ↓u_addD, ↓u_iiD, ↓u_mulD, ↓u_eqD_f, ↓u_eqD_t, ↓u_inD_f, ↓u_inD_t, ↓u_ixD, ↓u_dd2, ↓u_isND_f, ↓u_isND_t, ↓u_fldF, ↓u_recF, ↓u_ofC, ↓u_isBD, ↓u_isBF_f, ↓u_isBF_t, ↓u_turnD, ↓u_isoD, ↓u_isoF_o, ↓u_isoF_n, ↓u_asD, ↓u_binOD, ↓u_idxF, ↓u_minF, ↓u_maxF, ↓u_turnD2, ↓u_mm2D, ↓u_lputF, ↓u_fmtWF_s, ↓u_fmtWF_i, ↓u_inTD_f, ↓u_inTD_t, ↓u_inTF, ↓u_refV, ↓u_getF, ↓u_popF, ↓u_dctW, ↓u_tvVar, ↓u_tvFld, ↓u_refD, ↓u_ownW, ↓u_valV1, ↓u_mergeD_n, ↓u_mergeD_c, ↓u_eqKD, ↓u_eqKF_f, ↓u_eqKF_t, ↓u_asS, ↓u_joinF_l, ↓u_joinF_t, ↓u_fmtF_s, ↓u_fmtF_i, ↓u_excF, ↓u_clsV_r, ↓u_clsV_t, ↓u_isYD, ↓b_Call, ↓b_CallN, ↓b_opt, ↓b_dd1, ↓b_asB, ↓b_asI, ↓b_frc, ↓b_for, ↓b_comp, ↓b_ite, ↓b_while, ↓b_var, ↓b_aug, ↓b_mutL, ↓b_mutD, ↓b_retV, ↓b_deref, ↓b_dd1own, ↓b_mutO, ↓b_mutDO, ↓b_frcO, ↓b_comp2, ↓b_compR, ↓b_forL, ↓b_compL, ↓b_dctC, ↓b_ref, ↓b_forR, ↓b_insF, ↓b_insC, ↓b_exB, ↓o_opt, ↓o_asB, ↓o_asI, ↓o_non, ↓o_bl, ↓o_int, ↓o_str, ↓o_ty, ↓o_tup, ↓o_lst, ↓o_dct, ↓o_obj, ↓o_varV, ↓o_varL, ↓o_varD, ↓o_frc, ↓o_augI, ↓o_augS, ↓o_augL, ↓o_retV, ↓o_iteT, ↓o_iteF, ↓o_derefL, ↓o_derefD, ↓o_mutO, ↓o_mutDO, ↓o_frcL, ↓o_frcD, ↓o_frcV, ↓o_dctC, ↓o_ref, ↓o_derefR, ↓o_dd1R, ↓o_mutR, ↓o_derefK, ↓o_dd1K, ↓o_mutK, ↓o_putT, ↓o_insF, ↓o_insC, ↓o_derefI, ↓o_dd1I, ↓o_putS, ↓o_putP, look_c, look_n, putFd_c, putFd_n, ofS_eq, ↓reduceIte, eq_self, List.foldr_cons, List.foldr_nil, DEnds.un, PSt.unset, List.zip_cons_cons, List.zip_nil_left, List.zip_nil_right, List.reverse_cons, List.reverse_nil, exL, exK, exC, tysOf, tyN, isB, tyOk, isNn, PSt.set, S0, PSt.wipe, wipeR,
  List.map_cons, List.map_nil, List.length_cons, List.length_nil, List.replicate_succ, List.replicate_zero, List.cons_append, List.nil_append, List.set_cons_zero, List.set_cons_succ, List.getElem?_cons_zero, List.getElem?_cons_succ, List.getElem?_nil,
  Bool.not_true, Bool.not_false, bq_t, bq_f, Bool.not_not, Bool.false_eq_true, true_and, and_true, Nat.reduceAdd, Nat.reduceSub, Nat.reduceLeDiff, String.reduceEq, decide_true, decide_false, Bool.true_or, Bool.false_or, Bool.true_and, Bool.false_and, Bool.or_true, Bool.or_false, Bool.and_true, Bool.and_false, decide_eq_true_eq, List.mem_cons, List.not_mem_nil, or_true, true_or, or_false, false_or, List.any_cons, List.any_nil, List.all_cons, List.all_nil, Option.map_some, Option.map_none, Option.isSome_some, Option.isSome_none, eqOk_ii, eqOk_ss, eqOk_bb, eqOk_nn, eqOk_ns, eqOk_sn, eqOk_ni, eqOk_in, eqOk_si, eqOk_is, D.int.injEq, D.str.injEq, D.bl.injEq, reduceCtorEq, keyD, atI_0, atI_1, atI_2, atI_3, atI_4, cut1, ne_eq, not_true_eq_false, not_false_eq_true, Bool.not_eq_true', Bool.not_eq_false', decide_eq_false_iff_not])
local macro_rules | `(tactic| walk_at "z") => `(tactic| first
  | (apply z_seq; (focus walk_at "z"); (focus walk_at "z"))
  | (apply z_try; (focus (intro _ _ _; walk_at "z")); (focus (intro _ _ _; walk_at "z")); (focus walk_at "z"))
  | (apply z_tryN; (focus (intro _ _ _; walk_at "z")); (focus walk_at "z"); (focus walk_at "z"))
  | (apply z_cl; (focus (intro _ _ _; walk_at "z")); (focus walk_at "z"))
  | exact inferInstance
  | (apply z_if; (focus walk_at "z"); (focus walk_at "z"); (focus walk_at "z"))
  | (apply z_while; (focus walk_at "z"); (focus walk_at "z"))
  | (apply z_for; (focus walk_at "z"); (focus walk_at "z"); (focus walk_at "z")))
variable {P : Program} {w : World} {K : PySem.W.Frag} {mg : Str → Option Value} {base : Heap}
abbrev s_Kind___init__ : Stmt := inClass (top 24) 0
abbrev N_Kind___init__ : List Str := ["self", "stock", "row"]
abbrev P_Kind___init__ : List Str := ["self", "stock", "row"]
theorem sc_Kind___init__ : FnScope N_Kind___init__ P_Kind___init__ (defScope s_Kind___init__) := ⟨rfl, rfl, rfl, by decide +kernel, rfl, by decide +kernel, by decide +kernel⟩
abbrev s_Kind___or__ : Stmt := inClass (top 24) 2
abbrev N_Kind___or__ : List Str := ["self", "other", "found"]
abbrev P_Kind___or__ : List Str := ["self", "other"]
theorem sc_Kind___or__ : FnScope N_Kind___or__ P_Kind___or__ (defScope s_Kind___or__) := ⟨rfl, rfl, rfl, by decide +kernel, rfl, by decide +kernel, by decide +kernel⟩
abbrev s_Kind___and__ : Stmt := inClass (top 24) 3
abbrev N_Kind___and__ : List Str := ["self", "other", "found"]
abbrev P_Kind___and__ : List Str := ["self", "other"]
theorem sc_Kind___and__ : FnScope N_Kind___and__ P_Kind___and__ (defScope s_Kind___and__) := ⟨rfl, rfl, rfl, by decide +kernel, rfl, by decide +kernel, by decide +kernel⟩
def kdC (st row : D) : List (Str × D) := [("stock", st), ("row", row)]
def F_mkKind (C CS B : Addr) (n : Nat) : FSpec := fun ds W Q E => ∃ (a : Addr) (W0 : Wd) (ss us : List (Str × Str)) (d : D), ds = [.ref a, .obj CS (stkC ss us), d] ∧ W = W0.put a (.ins C []) ∧ W0.ω a = none ∧ (∀ p ∈ ss, p.2.length ≤ 1000) ∧ fitD d = true ∧ dpD d < n ∧ (isKindD ss d = true → Q .non (W0.put a (.ins C (kdC (.obj CS (stkC ss us)) d)))) ∧ (isKindD ss d = false → E ⟨B, []⟩ (W0.put a (.ins C [])))
theorem ok_mkKind (Z : Kz K (clsA mg "Kind") "Kind.__init__" s_Kind___init__ P_Kind___init__ []) (T : Txt K mg) {n : Nat} (G_is_kind : Fx P w K mg base (L2.CX P w) "is_kind" (n + 3) P_is_kind (lift K (F_is_kind (clsA mg "Stock") n))) : Kx P w K mg base (clsA mg "Kind") (n + 4) P_Kind___init__ [] (lift K (F_mkKind (clsA mg "Kind") (clsA mg "Stock") (clsA mg "BadKind") n)) := by
  refine Z.okD sc_Kind___init__ (fun ds W Q E h => by obtain ⟨a, W0, ss, us, d, rfl, _⟩ := h; rfl) ?_
  intro f cdv A outer s H E e ds Qd Ed hr lk h
  obtain ⟨a, W0, ss, us, d, rfl, hW, ha, hss, hf, hd, kq, ke⟩ := h
  refine ⟨_, _, (pss_cons (ps_if (pt_not (pt_val (fcallX (takes_of rfl rfl rfl rfl) G_is_kind (hr.mono (by first | decide | omega)) (by rfl) (pa_cons (pv 1) (pa_cons (pv 2) pa_nil))))) (pss_one (ps_raiseU rfl (takes_of rfl rfl rfl rfl) (pmk_own PySem.F.excBase_ValueError T.e_BadKind.ex T.e_BadKind.g T.e_BadKind.k (raises_own T.e_BadKind.b T.e_BadKind.t) rfl))) pss_nil)
      (pss_cons (setX T.f_Kind_stock (pv 0) (pv 1))
      (pss_one (setX T.f_Kind_row (pv 0) (pv 2))))), inferInstance, ?_⟩
  rw [hW]
  walk_at "d"
  refine ⟨ss, us, d, rfl, hss, hf, hd, ?_⟩
  cases hz : isKindD ss d with
  | false =>
    walk_at "d"
    exact ke hz
  | true =>
    walk_at "d"
    exact ⟨by decide, by decide, kq hz⟩
def kdO (C : Addr) (st : D) : Option D → D
  | none => .non
  | some r => .obj C (kdC st r)
theorem callB_of {F : FSpec} {ds : List D} {S : PSt} {Q : Bx (Rv → PSt → Prop)} {w : Bx (Exn → PSt → Prop)} (h : F ds S.W (fun d W' => Q.v (.d d) ⟨S.ρ, W'⟩) (fun x W' => w.v x ⟨S.ρ, W'⟩)) : @CallB F ds S Q w := h
/-- | and & -/
def F_kop (C CS : Addr) (n : Nat) (up : Bool) : FSpec := fun ds W Q _ => ∃ (ss us : List (Str × Str)) (a b : D), ds = [.obj C (kdC (.obj CS (stkC ss us)) a), .obj C (kdC (.obj CS (stkC ss us)) b)] ∧ (∀ p ∈ ss, okMark p.2 = true ∧ p.2.length ≤ 1000) ∧ leadsB us = false ∧ us.length ≤ 1000 ∧ KdF ss n a ∧ KdF ss n b ∧ (∀ m, m ≤ n → ∀ a b up, KdF ss m a → KdF ss m b → ∀ r, betB ss us m a b up = some r → KdF ss m r) ∧ Q (kdO C (.obj CS (stkC ss us)) (betB ss us n a b up)) W
theorem ok_kor (Z : Mz K (clsA mg "Kind") "__or__" "Kind.__or__" s_Kind___or__ P_Kind___or__ []) (T : Txt K mg) {n : Nat} (hn : n < 6) (G_between : Fx P w K mg base (L2.CX P w) "between" (n + 3) P_between (lift K (F_between (clsA mg "Stock") n))) (K_Kind2 : Kx P w K mg base (clsA mg "Kind") 10 P_Kind___init__ [] (lift K (F_mkKind (clsA mg "Kind") (clsA mg "Stock") (clsA mg "BadKind") 6))) : Ox P w K mg base (clsA mg "Kind") "__or__" 12 P_Kind___or__ (lift K (F_kop (clsA mg "Kind") (clsA mg "Stock") n true)) := by
  refine Z.okOD T.s_Kind sc_Kind___or__ (fun ds W Q E h => by obtain ⟨ss, us, a, b, rfl, _⟩ := h; rfl) ?_
  intro f cdv A outer s H E e ds Qd Ed hr lk h
  obtain ⟨ss, us, a, b, rfl, hk, hl, hul, ha, hb, hkm, k⟩ := h
  refine ⟨_, _, (pss_cons (ps_set (i := 2) sc_Kind___or__.nd rfl (Or.inl rfl) (fcallX (takes_of rfl rfl rfl rfl) G_between (hr.mono (by first | decide | omega)) (by rfl) (pa_cons (fldX T.f_Kind_stock (pv 0)) (pa_cons (fldX T.f_Kind_row (pv 0)) (pa_cons (fldX T.f_Kind_row (pv 1)) (pa_cons pe_bl pa_nil))))))
      (pss_cons (ps_if (pt_cmpR op_isNU (pv 2) pe_non (nomark _)) (pss_one (ps_ret pe_non)) pss_nil)
      (pss_one (ps_ret (mkF_of (makeX (takes_of rfl rfl rfl rfl) K_Kind2 (hr.mono (by first | decide | omega)) (by rfl) T.g_Kind (pa_cons (fldX T.f_Kind_stock (pv 0)) (pa_cons (pv 2) pa_nil)))))))), inferInstance, ?_⟩
  unfold kdC
  walk_at "d"
  refine ⟨ss, us, a, b, true, rfl, fun p hp => (hk p hp).1, hl, hul, ha, hb, hkm n (Nat.le_refl _) a b true ha hb, fun m hm => hkm m (Nat.le_of_lt hm), ?_⟩
  cases hz : betB ss us n a b true with
  | none =>
    rw [hz] at k
    unfold optD
    walk_at "d"
    exact k
  | some r =>
    rw [hz] at k
    have kr := hkm n (Nat.le_refl _) a b true ha hb r hz
    unfold optD
    obtain ⟨x, m, rs, rfl, _⟩ := kr.node
    walk_at "d"
    intro c hc _
    refine callB_of ⟨c, e.W, ss, us, .tup (.str x :: rs), rfl, rfl, hc, fun p hp => (hk p hp).2, kr.t.p, by have := kr.t.dp; omega, fun _ => ?_, (fun z => by rw [kr.kind] at z; cases z)⟩
    walk_at "d"
    rw [Wd.del_put hc]
    exact k
theorem ok_kand (Z : Mz K (clsA mg "Kind") "__and__" "Kind.__and__" s_Kind___and__ P_Kind___and__ []) (T : Txt K mg) {n : Nat} (hn : n < 6) (G_between : Fx P w K mg base (L2.CX P w) "between" (n + 3) P_between (lift K (F_between (clsA mg "Stock") n))) (K_Kind2 : Kx P w K mg base (clsA mg "Kind") 10 P_Kind___init__ [] (lift K (F_mkKind (clsA mg "Kind") (clsA mg "Stock") (clsA mg "BadKind") 6))) : Ox P w K mg base (clsA mg "Kind") "__and__" 12 P_Kind___and__ (lift K (F_kop (clsA mg "Kind") (clsA mg "Stock") n false)) := by
  refine Z.okOD T.s_Kind sc_Kind___and__ (fun ds W Q E h => by obtain ⟨ss, us, a, b, rfl, _⟩ := h; rfl) ?_
  intro f cdv A outer s H E e ds Qd Ed hr lk h
  obtain ⟨ss, us, a, b, rfl, hk, hl, hul, ha, hb, hkm, k⟩ := h
  refine ⟨_, _, (pss_cons (ps_set (i := 2) sc_Kind___and__.nd rfl (Or.inl rfl) (fcallX (takes_of rfl rfl rfl rfl) G_between (hr.mono (by first | decide | omega)) (by rfl) (pa_cons (fldX T.f_Kind_stock (pv 0)) (pa_cons (fldX T.f_Kind_row (pv 0)) (pa_cons (fldX T.f_Kind_row (pv 1)) (pa_cons pe_bl pa_nil))))))
      (pss_cons (ps_if (pt_cmpR op_isNU (pv 2) pe_non (nomark _)) (pss_one (ps_ret pe_non)) pss_nil)
      (pss_one (ps_ret (mkF_of (makeX (takes_of rfl rfl rfl rfl) K_Kind2 (hr.mono (by first | decide | omega)) (by rfl) T.g_Kind (pa_cons (fldX T.f_Kind_stock (pv 0)) (pa_cons (pv 2) pa_nil)))))))), inferInstance, ?_⟩
  unfold kdC
  walk_at "d"
  refine ⟨ss, us, a, b, false, rfl, fun p hp => (hk p hp).1, hl, hul, ha, hb, hkm n (Nat.le_refl _) a b false ha hb, fun m hm => hkm m (Nat.le_of_lt hm), ?_⟩
  cases hz : betB ss us n a b false with
  | none =>
    rw [hz] at k
    unfold optD
    walk_at "d"
    exact k
  | some r =>
    rw [hz] at k
    have kr := hkm n (Nat.le_refl _) a b false ha hb r hz
    unfold optD
    obtain ⟨x, m, rs, rfl, _⟩ := kr.node
    walk_at "d"
    intro c hc _
    refine callB_of ⟨c, e.W, ss, us, .tup (.str x :: rs), rfl, rfl, hc, fun p hp => (hk p hp).2, kr.t.p, by have := kr.t.dp; omega, fun _ => ?_, (fun z => by rw [kr.kind] at z; cases z)⟩
    walk_at "d"
    rw [Wd.del_put hc]
    exact k

end Kn

set_option synthInstance.maxHeartbeats 0
set_option synthInstance.maxSize 100000
set_option Elab.async false
set_option maxRecDepth 100000
set_option linter.all false
namespace Kn
open PySem L2
local macro_rules | `(tactic| walk_at "wk") => `(tactic| repeat (first
  | refine ⟨_, rfl, ?_⟩
  | refine ⟨_, _, rfl, rfl, ?_⟩
  | refine ⟨⟨by decide, by decide⟩, ?_⟩
  | refine ⟨(by show (0 : Int) < _; decide), ?_⟩
  | refine ⟨Or.inl ⟨by omega, by omega⟩, ?_⟩
  | refine Or.inl ⟨_, rfl, ?_⟩
  | fail))
local macro_rules | `(tactic| walk_at "lits") => `(tactic| repeat (first
  | exact lit_nil
  | exact lit_str
  | exact lit_int
  | exact lit_non
  | refine lit_cons ?_ ?_
  | refine lit_tup ?_
  | fail))
local macro_rules | `(tactic| walk_at "d") => `(tactic| simp only [↓u_tdC, ↓u_tdOp, ↓u_tdNil, ↓u_tdCons, ↓u_tdTup, ↓u_tnLst, ↓u_tdFrz, ↓u_tdFrzK, ↓u_tkNew, ↓u_tdTest, ↓u_tdAnd, ↓u_tdOr, ↓u_tdNot, ↓u_tdYes, ↓u_tdAndV, ↓u_tdOrV, ↓u_tdNotV, ↓u_tdIf, ↓u_tdCB, ↓u_tnCB, ↓u_tnAdd, ↓u_tdNoPart, ↓u_tdPart, ↓u_tdSl, ↓u_tnSl, ↓u_tdRevT, ↓u_tnRevL, ↓u_tdIsiT, ↓u_tdNext, ↓u_tdSeq, ↓u_tdBreak, ↓u_tdCont, ↓u_tdDrop, ↓u_tdRet, ↓u_tdRetN, ↓u_tdRetO, ↓u_tdIfS, ↓u_gdName, ↓u_gdNil, ↓u_gdCons, ↓u_gdTup, ↓u_tdAsg, ↓u_tdAsgN, ↓u_tdAsgK, ↓u_tiAny, ↓u_tiRng1, ↓u_tiRng2, ↓u_tdFor, ↓u_tnLc, ↓u_tdCall, ↓u_tnCall, ↓u_tdRaise, ↓u_tdApp, ↓u_tdDPut, ↓u_tkDict, ↓u_tdAsgR, ↓u_tdForR, ↓u_tdFldC, ↓u_tdSetC, ↓u_tdMeth, ↓u_tdProp, ↓u_tdMakeR, ↓u_tdMakeF, ↓u_tdRaiseS, ↓u_tdTryAs, ↓u_tdTryN, ↓u_tdXf, ↓u_tdJoin, ↓u_tnSplit, ↓u_tdPartn, ↓u_tdFmt, ↓u_tdJoined, ↓u_tkDisp, ↓u_tdShK, ↓u_tdClear, ↓u_tdOGet, ↓u_tdOSet, ↓u_tdOIn, ↓u_tdNeg, ↓u_tdForO, ↓u_tnLcO, ↓u_tnLcR, ↓u_tdGet2, ↓u_tdPopAt, ↓u_tdRg1, ↓u_tdTupRg, ↓u_tnLstRg, ↓u_tdForW, ↓u_tdAugO, ↓u_tdLPut, ↓u_tdFmtW, ↓u_tdMethK, ↓u_tdChain, ↓u_tnLc2, ↓u_tdIndex, ↓u_addF_i, ↓u_addF_s, ↓u_addF_t, ↓u_addF_l, ↓u_iiF, ↓u_mulF_i, ↓u_mulF_s, ↓u_inF_l, ↓u_inF_t, ↓u_inF_s, ↓u_inF_ds, ↓u_inF_di, ↓u_ixF_l, ↓u_ixF_t, ↓u_ixF_s, ↓u_ixF_di, ↓u_ixF_ds, ↓u_slF_l, ↓u_slF_t, ↓u_slF_s, ↓u_lenF_l, ↓u_lenF_t, ↓u_lenF_s, ↓u_lenF_d, ↓u_isiF, ↓u_isiD, ↓u_tupF_l, ↓u_tupF_t, ↓u_lstF_l, ↓u_lstF_t, ↓u_allF, ↓u_anyF, ↓u_sumF, ↓u_sortF, ↓u_intF_i, ↓u_intF_b, ↓u_strF, ↓u_walkF_l, ↓u_walkF_t, ↓u_walkF_s, ↓u_walkF_d, ↓u_arg1, ↓u_arg2, ↓u_frcL_n, ↓u_frcL_c, ↓u_addD, ↓u_iiD, ↓u_mulD, ↓u_eqD_f, ↓u_eqD_t, ↓u_inD_f, ↓u_inD_t, ↓u_ixD, ↓u_dd2, ↓u_isND_f, ↓u_isND_t, ↓u_fldF, ↓u_recF, ↓u_ofC, ↓u_isBD, ↓u_isBF_f, ↓u_isBF_t, ↓u_turnD, ↓u_isoD, ↓u_isoF_o, ↓u_isoF_n, ↓u_asD, ↓u_binOD, ↓u_idxF, ↓u_minF, ↓u_maxF, ↓u_turnD2, ↓u_mm2D, ↓u_lputF, ↓u_fmtWF_s, ↓u_fmtWF_i, ↓u_inTD_f, ↓u_inTD_t, ↓u_inTF, ↓u_refV, ↓u_getF, ↓u_popF, ↓u_dctW, ↓u_tvVar, ↓u_tvFld, ↓u_refD, ↓u_ownW, ↓u_valV1, ↓u_mergeD_n, ↓u_mergeD_c, ↓u_eqKD, ↓u_eqKF_f, ↓u_eqKF_t, ↓u_asS, ↓u_joinF_l, ↓u_joinF_t, ↓u_fmtF_s, ↓u_fmtF_i, ↓u_excF, ↓u_clsV_r, ↓u_clsV_t, ↓u_isYD, ↓b_Call, ↓b_CallN, ↓b_opt, ↓b_dd1, ↓b_asB, ↓b_asI, ↓b_frc, ↓b_for, ↓b_comp, ↓b_ite, ↓b_while, ↓b_var, ↓b_aug, ↓b_mutL, ↓b_mutD, ↓b_retV, ↓b_deref, ↓b_dd1own, ↓b_mutO, ↓b_mutDO, ↓b_frcO, ↓b_comp2, ↓b_compR, ↓b_forL, ↓b_compL, ↓b_dctC, ↓b_ref, ↓b_forR, ↓b_insF, ↓b_insC, ↓b_exB, ↓o_opt, ↓o_asB, ↓o_asI, ↓o_non, ↓o_bl, ↓o_int, ↓o_str, ↓o_ty, ↓o_tup, ↓o_lst, ↓o_dct, ↓o_obj, ↓o_varV, ↓o_varL, ↓o_varD, ↓o_frc, ↓o_augI, ↓o_augS, ↓o_augL, ↓o_retV, ↓o_iteT, ↓o_iteF, ↓o_derefL, ↓o_derefD, ↓o_mutO, ↓o_mutDO, ↓o_frcL, ↓o_frcD, ↓o_frcV, ↓o_dctC, ↓o_ref, ↓o_derefR, ↓o_dd1R, ↓o_mutR, ↓o_derefK, ↓o_dd1K, ↓o_mutK, ↓o_putT, ↓o_insF, ↓o_insC, ↓o_derefI, ↓o_dd1I, ↓o_putS, ↓o_putP, look_c, look_n, putFd_c, putFd_n, ofS_eq, ↓reduceIte, eq_self, List.foldr_cons, List.foldr_nil, DEnds.un, PSt.unset, List.zip_cons_cons, List.zip_nil_left, List.zip_nil_right, List.reverse_cons, List.reverse_nil, exL, exK, exC, tysOf, tyN, isB, tyOk, isNn, PSt.set, S0, PSt.wipe, wipeR,
  List.map_cons, List.map_nil, List.length_cons, List.length_nil, List.replicate_succ, List.replicate_zero, List.cons_append, List.nil_append, List.set_cons_zero, List.set_cons_succ, List.getElem?_cons_zero, List.getElem?_cons_succ, List.getElem?_nil,
  Bool.not_true, Bool.not_false, bq_t, bq_f, Bool.not_not, Bool.false_eq_true, true_and, and_true, Nat.reduceAdd, Nat.reduceSub, Nat.reduceLeDiff, String.reduceEq, decide_true, decide_false, Bool.true_or, Bool.false_or, Bool.true_and, Bool.false_and, Bool.or_true, Bool.or_false, Bool.and_true, Bool.and_false, decide_eq_true_eq, List.mem_cons, List.not_mem_nil, or_true, true_or, or_false, false_or, List.any_cons, List.any_nil, List.all_cons, List.all_nil, Option.map_some, Option.map_none, Option.isSome_some, Option.isSome_none, eqOk_ii, eqOk_ss, eqOk_bb, eqOk_nn, eqOk_ns, eqOk_sn, eqOk_ni, eqOk_in, eqOk_si, eqOk_is, D.int.injEq, D.str.injEq, D.bl.injEq, reduceCtorEq, keyD, atI_0, atI_1, atI_2, atI_3, atI_4, cut1, ne_eq, not_true_eq_false, not_false_eq_true, Bool.not_eq_true', Bool.not_eq_false', decide_eq_false_iff_not])
local macro_rules | `(tactic| walk_at "z") => `(tactic| first
  | (apply z_seq; (focus walk_at "z"); (focus walk_at "z"))
  | (apply z_try; (focus (intro _ _ _; walk_at "z")); (focus (intro _ _ _; walk_at "z")); (focus walk_at "z"))
  | (apply z_tryN; (focus (intro _ _ _; walk_at "z")); (focus walk_at "z"); (focus walk_at "z"))
  | (apply z_cl; (focus (intro _ _ _; walk_at "z")); (focus walk_at "z"))
  | exact inferInstance
  | (apply z_if; (focus walk_at "z"); (focus walk_at "z"); (focus walk_at "z"))
  | (apply z_while; (focus walk_at "z"); (focus walk_at "z"))
  | (apply z_for; (focus walk_at "z"); (focus walk_at "z"); (focus walk_at "z")))
variable {P : Program} {w : World} {K : PySem.W.Frag} {mg : Str → Option Value} {base : Heap}
abbrev s__law_same : Stmt := top 34
abbrev N__law_same : List Str := ["_law_shapes", "_law_kind", "_law_rows", "_law_part", "_law_longer", "_law_row", "_law_one", "_law_word"]
abbrev P__law_same : List Str := ["_law_shapes", "_law_kind"]
theorem sc__law_same : FnScope N__law_same P__law_same (defScope s__law_same) := ⟨rfl, rfl, rfl, by decide +kernel, rfl, by decide +kernel, by decide +kernel⟩
abbrev s__law_best : Stmt := top 35
abbrev N__law_best : List Str := ["_law_answer", "_law_rows", "_law_shapes", "_law_under_here", "_law_upward", "_law_row"]
abbrev P__law_best : List Str := ["_law_answer", "_law_rows", "_law_shapes", "_law_under_here", "_law_upward"]
theorem sc__law_best : FnScope N__law_best P__law_best (defScope s__law_best) := ⟨rfl, rfl, rfl, by decide +kernel, rfl, by decide +kernel, by decide +kernel⟩
theorem bases_len {ss : List (Str × Str)} (h : ss.length ≤ 7) : (basesL ss).length ≤ 7 := by
  unfold basesL
  rw [List.length_map]
  exact Nat.le_trans (List.length_filter_le _ _) h
theorem grow_len {b : Nat} : ∀ (ls : List (List D)) (rows : List (List D)), (∀ l ∈ ls, l.length ≤ b) → (ls.foldl growR rows).length ≤ rows.length * b ^ ls.length
  | [], rows, _ => by simp
  | l :: ls, rows, h => by
    rw [List.foldl_cons, List.length_cons]
    have h1 := grow_len ls (growR rows l) fun x hx => h x (List.mem_cons_of_mem _ hx)
    have h2 : (growR rows l).length ≤ rows.length * b := by
      have hl := h l List.mem_cons_self
      unfold growR
      clear h1
      induction rows with
      | nil => simp
      | cons r rows ih =>
        rw [List.flatMap_cons, List.length_append, List.length_map, List.length_cons, Nat.add_mul]
        omega
    have h3 := Nat.mul_le_mul_right (b ^ ls.length) h2
    rw [Nat.pow_succ, Nat.mul_comm (b ^ ls.length) b, ← Nat.mul_assoc]
    omega
theorem same_len1 {ss : List (Str × Str)} (h : ss.length ≤ 7) {d : D} (hd : KdF ss 1 d) : (sameL ss 1 d).length ≤ 7 := by
  obtain ⟨x, m, as, rfl, hx, hml, h3, _, hxw, has⟩ := hd.node
  have : as = [] := by
    cases as with
    | nil => rfl
    | cons a as =>
      obtain ⟨_, _, _, _, _, _, _, h0, _⟩ := (has a List.mem_cons_self).node
      omega
  subst this
  rw [sameL, if_pos (by rfl), List.length_map]
  exact bases_len h
theorem same_len2 {ss : List (Str × Str)} (h : ss.length ≤ 7) {n : Nat} (hn : n ≤ 2) {d : D} (hd : KdF ss n d) : (sameL ss n d).length ≤ 343 := by
  obtain ⟨x, m, as, rfl, hx, hml, h3, h0, hxw, has⟩ := hd.node
  obtain ⟨n', rfl⟩ : ∃ n', n = n' + 1 := ⟨n - 1, by omega⟩
  rw [sameL]
  split
  · rw [List.length_map]
    have := bases_len h
    omega
  · rename_i c
    have h1 : n' = 1 := by
      cases as with
      | nil => simp at c
      | cons a as =>
        obtain ⟨_, _, _, _, _, _, _, h0, _⟩ := (has a List.mem_cons_self).node
        omega
    subst h1
    rw [List.length_map]
    have g := grow_len (b := 7) (as.map (sameL ss 1)) [[.str x]] fun l hl => by
      obtain ⟨a, ha, rfl⟩ := List.mem_map.mp hl
      exact same_len1 h (has a ha)
    rw [List.length_map, List.length_singleton, Nat.one_mul] at g
    have : 7 ^ as.length ≤ 7 ^ 3 := Nat.pow_le_pow_right (by decide) h3
    rw [show (7 : Nat) ^ 3 = 343 from rfl] at this
    omega
def F_same (n : Nat) : FSpec := fun ds W Q _ => ∃ (ss : List (Str × Str)) (d : D), ds = [.dct (dkS ss), d] ∧ (ss.map (·.1)).Nodup ∧ ss.length ≤ 7 ∧ n ≤ 2 ∧ KdF ss n d ∧ Q (.lst (sameL ss n d)) W
theorem fm_filter {α β : Type} (f : α → β) (p : α → Bool) : ∀ l : List α, l.filterMap (fun x => if p x = true then some (f x) else none) = (l.filter p).map f
  | [] => rfl
  | x :: l => by
    rw [List.filterMap_cons, List.filter_cons]
    cases p x <;> simp [fm_filter f p l]
theorem same_step (F : Fz K mg "_law_same" s__law_same P__law_same) (T : Txt K mg) (n : Nat) {Fs : FSpec} (G__law_same : Fx P w K mg base (L2.CX P w) "_law_same" (n + 1) P__law_same (lift K Fs)) (hG : ∀ m, n = m + 1 → ∀ ds W Q E, F_same m ds W Q E → Fs ds W Q E) : Fx P w K mg base (L2.CX P w) "_law_same" (n + 2) P__law_same (lift K (F_same n)) := by
  refine F.okD sc__law_same (fun ds W Q E h => by obtain ⟨ss, d, rfl, _⟩ := h; rfl) (fun f cdv A outer s H E e ds Qd Ed hr lk h => ?_)
  obtain ⟨ss, d, rfl, hnd, hsl, hn2, hd, k⟩ := h
  have hlen := same_len2 hsl hn2 hd
  obtain ⟨x, m, as, rfl, hx, hml, h3, hn0, hxw, has⟩ := hd.node
  obtain ⟨n', rfl⟩ : ∃ n', n = n' + 1 := ⟨n - 1, by omega⟩
  refine ⟨_, _, (pss_cons (ps_if (pt_cmpR (op_eqU K hr.units) (pe_ix (ix_U K (hu_of hr)) (pv 0) (pe_ix (ix_U K (hu_of hr)) (pv 1) pe_int (fun _ _ => rfl)) (fun _ _ => rfl)) pe_str (nomark _)) (pss_one (ps_ret (pe_lc (own := [("_law_word", 7)]) (g := (gName 7))  rfl sc__law_same.nd (pi_any K (pv 0)) (blkOk_by (own := [("_law_word", 7)]) (N := N__law_same) (sc := defScope s__law_same) (by decide +kernel)) (fun _ _ _ _ _ => (pg_name (i := 7) sc__law_same.nd rfl (by first | exact Or.inl rfl | exact Or.inr rfl))) (fun _ _ _ _ _ => (pts_one (pt_cmpR (op_eqU K hr.units) (pe_ix (ix_U K (hu_of hr)) (pv 0) (pv 7) (fun _ _ => rfl)) pe_str (nomark _)))) (fun _ _ _ _ _ => (pe_tup (pa_cons (pv 7) pa_nil)))))) pss_nil)
      (pss_cons (ps_set (i := 2) sc__law_same.nd rfl (Or.inl rfl) (pe_lst (pa_cons (pe_tup (pa_cons (pe_ix (ix_U K (hu_of hr)) (pv 1) pe_int (fun _ _ => rfl)) pa_nil)) pa_nil)))
      (pss_cons (ps_for (passes_of rfl) rfl (pi_any K (pe_slice (sl_U K) (pv 1) (po_some pe_int) po_none)) (pg_name (i := 3) sc__law_same.nd rfl (Or.inl rfl)) (pss_cons (setO_of (ps_set (i := 4) sc__law_same.nd rfl (Or.inl rfl) (pe_lst pa_nil)))
      (pss_cons (ps_for (passes_of rfl) rfl (pi_any K (pv 2)) (pg_name (i := 5) sc__law_same.nd rfl (Or.inl rfl)) (pss_one (ps_for (passes_of rfl) rfl (pi_any K (fcallX (takes_of rfl rfl rfl rfl) G__law_same (hr.mono (by first | decide | omega)) (by rfl) (pa_cons (pv 0) (pa_cons (pv 3) pa_nil)))) (pg_name (i := 6) sc__law_same.nd rfl (Or.inl rfl)) (pss_one (ps_expr (pe_bmK K PySem.F.plainAttrs_list PySem.F.slot_list_append PySem.F.type_list_append mt_append (pv 4) (pa_cons (pe_op (op_addU K) (pv 5) (pe_tup (pa_cons (pv 6) pa_nil))) pa_nil)))))))
      (pss_one (ps_set (i := 2) sc__law_same.nd rfl (Or.inl rfl) (pe_callTy (call_listU K rfl) (by rfl) T.b_list (by decide +kernel) (pa_cons (pv 4) pa_nil)))))))
      (pss_one (ps_ret (pv 2)))))), inferInstance, ?_⟩
  rw [sameL] at k hlen
  walk_at "d"
  rw [look_dkS, hx]
  walk_at "d"
  cases as with
  | nil =>
    rw [if_pos (by rfl)] at k
    refine iteB_T (nomk_len.mpr (by rw [hml]; rfl)) ?_
    walk_at "d"
    rw [keys_dkS]
    refine comp_fmM (fun p : Str × Str => D.str p.1) (fun p => if decide (p.2 = NOMK) = true then some (.tup [.str p.1]) else none) ss (by simp; omega) (fun p hp N M h1 h2 => ?_) ?_
    · walk_at "d"
      rw [look_dkS, lkS_mem hnd hp]
      walk_at "d"
      refine iteB_by (fun c => ?_) (fun c => ?_)
      · walk_at "d"
        exact h1 _ (if_pos (decide_eq_true c))
      · walk_at "d"
        exact h2 (if_neg fun z => c (of_decide_eq_true z))
    rw [fm_filter (fun p : Str × Str => D.tup [.str p.1]) fun p => decide (p.2 = NOMK)]
    walk_at "d"
    rw [basesL, List.map_map] at k
    exact k
  | cons a0 as0 =>
    refine iteB_F (fun z => by have := nomk_len.mp z; rw [hml, List.length_cons] at this; omega) ?_
    walk_at "d"
    generalize hAS : a0 :: as0 = AS at *
    rw [if_neg (by rw [← hAS]; simp)] at k hlen
    have h1 : n' = 1 := by
      obtain ⟨_, _, _, _, _, _, _, h0, _⟩ := (has a0 (by rw [← hAS]; exact List.mem_cons_self)).node
      omega
    subst h1
    have al : AS.length ≤ 3 := h3
    have gb : ∀ i, (((AS.take i).map (sameL ss 1)).foldl growR [[.str x]]).length ≤ 343 := fun i => by
      have g := grow_len (b := 7) ((AS.take i).map (sameL ss 1)) [[.str x]] fun l hl => by
        obtain ⟨a, ha, rfl⟩ := List.mem_map.mp hl
        exact same_len1 hsl (has a (List.mem_of_mem_take ha))
      rw [List.length_map, List.length_singleton, Nat.one_mul] at g
      have : 7 ^ (AS.take i).length ≤ 7 ^ 3 := Nat.pow_le_pow_right (by decide) (by rw [List.length_take]; omega)
      rw [show (7 : Nat) ^ 3 = 343 from rfl] at this
      omega
    refine for_lst (fun i S => ∃ v3 v4 v5 v6, S = ⟨[some (.val (.dct (dkS ss))), some (.val (.tup (.str x :: AS))), some (.val (.lst ((((AS.take i).map (sameL ss 1)).foldl growR [[.str x]]).map D.tup))), v3, v4, v5, v6, none], e.W⟩) ⟨_, _, _, _, rfl⟩ ?_ ?_
    · rintro i a S hi ⟨v3, v4, v5, v6, rfl⟩
      have ka := has a (List.mem_of_getElem? hi)
      have g0 := gb i
      have g1 := gb (i + 1)
      have sl := same_len1 hsl ka
      rw [show ((AS.take (i + 1)).map (sameL ss 1)).foldl growR [[.str x]] = growR (((AS.take i).map (sameL ss 1)).foldl growR [[.str x]]) (sameL ss 1 a) by rw [take_succ_get hi, List.map_append, List.foldl_append]; rfl] at g1 ⊢
      have rl : ∀ r ∈ ((AS.take i).map (sameL ss 1)).foldl growR [[.str x]], r.length ≤ 10 := fun r hr => by
        obtain ⟨q, hq, t, rfl, h⟩ := grow_mem.mp hr
        have hlen : ∀ {ls : List (List D)} {t : List D}, All2 (fun l v => v ∈ l) ls t → t.length = ls.length := fun {ls t} h => by
          induction h with
          | nil => rfl
          | cons _ _ ih => rw [List.length_cons, List.length_cons, ih]
        have := hlen h
        rw [List.length_map, List.length_take] at this
        rw [List.mem_singleton.mp hq, List.length_append, List.length_singleton]
        omega
      generalize ((AS.take i).map (sameL ss 1)).foldl growR [[.str x]] = rows at *
      walk_at "d"
      obtain ⟨g, hg⟩ : ∃ g : List D → List (List D), g = fun row => (sameL ss 1 a).map fun v => row ++ [v] := ⟨_, rfl⟩
      have eg : ∀ l : List (List D), growR l (sameL ss 1 a) = l.flatMap g := fun l => by rw [hg]; rfl
      refine for_map D.tup rows (fun j S => ∃ v5 v6, S = ⟨[some (.val (.dct (dkS ss))), some (.val (.tup (.str x :: AS))), some (.val (.lst (rows.map D.tup))), some (.val a), some (.ownL (((rows.take j).flatMap g).map D.tup)), v5, v6, none], e.W⟩ ∧ ((rows.take j).flatMap g).length ≤ j * 7) ⟨_, _, by rw [List.take_zero, List.flatMap_nil]; rfl, by simp⟩ ?_ ?_
      · rintro j r S hj ⟨v5, v6, rfl, hl⟩
        have hj2 := (List.getElem?_eq_some_iff.mp hj).1
        have hrl := rl r (List.mem_of_getElem? hj)
        rw [show (rows.take (j + 1)).flatMap g = (rows.take j).flatMap g ++ g r by rw [take_succ_get hj, List.flatMap_append, List.flatMap_cons, List.flatMap_nil, List.append_nil]]
        have egr : g r = (sameL ss 1 a).map fun v => r ++ [v] := by rw [hg]
        generalize (rows.take j).flatMap g = acc at *
        walk_at "d"
        refine hG 1 rfl _ _ _ _ ⟨ss, a, rfl, hnd, hsl, by decide, ka, ?_⟩
        walk_at "d"
        rw [egr]
        refine for_lst (fun l S => ∃ v6, S = ⟨[some (.val (.dct (dkS ss))), some (.val (.tup (.str x :: AS))), some (.val (.lst (rows.map D.tup))), some (.val a), some (.ownL ((acc ++ ((sameL ss 1 a).take l).map fun v => r ++ [v]).map D.tup)), some (.val (.tup r)), v6, none], e.W⟩) ⟨_, by rw [List.take_zero, List.map_nil, List.append_nil]⟩ ?_ ?_
        · rintro l v S hl2 ⟨v6, rfl⟩
          have hl3 := (List.getElem?_eq_some_iff.mp hl2).1
          rw [take_succ_get hl2]
          walk_at "d"
          refine ⟨by omega, by simp only [List.length_map, List.length_append, List.length_take]; omega, some (.val v), ?_⟩
          simp
        · rintro S ⟨v6, rfl⟩
          rw [List.take_length]
          walk_at "d"
          exact ⟨_, _, rfl, by rw [List.length_append, List.length_map]; omega⟩
      · rintro S ⟨v5, v6, rfl, hl⟩
        rw [List.take_length, ← eg]
        walk_at "d"
        exact ⟨_, _, _, _, rfl⟩
    · rintro S ⟨v3, v4, v5, v6, rfl⟩
      rw [List.take_length]
      walk_at "d"
      exact k
theorem ok__law_same (F : Fz K mg "_law_same" s__law_same P__law_same) (T : Txt K mg) : ∀ n : Nat, Fx P w K mg base (L2.CX P w) "_law_same" (n + 2) P__law_same (lift K (F_same n))
  | 0 => same_step F T 0 (Fs := fun _ _ _ _ => False) (F.noneD fun _ _ _ _ z => z) (fun m z => by omega)
  | n + 1 => same_step F T (n + 1) (ok__law_same F T n) (fun m z => by
      have : m = n := by omega
      subst this
      exact fun _ _ _ _ h => h)
def F_best (C : Addr) (n : Nat) : FSpec := fun ds W Q _ => ∃ (ss us : List (Str × Str)) (ans st : D) (rows : List D) (up : Bool), ds = [ans, .lst rows, .dct (dkS ss), .dct (dkS us), .bl up] ∧ (∀ p ∈ ss, okMark p.2 = true) ∧ leadsB us = false ∧ us.length ≤ 11 ∧ rows.length ≤ 1000 ∧ n ≤ 8 ∧ (∀ d ∈ rows, KdF ss n d) ∧ ((rows = [] ∧ ans = .non) ∨ ∃ r, ans = .obj C (kdC st r) ∧ r ∈ rows ∧ ∀ c ∈ rows, geB ss us n up r c = true) ∧ Q (.bl true) W
theorem KdF.ok {ss : List (Str × Str)} {n : Nat} {d : D} (h : KdF ss n d) : okD false d = true := form_ok (n + 1) d (by have := h.t.dp; omega) h.t.f
theorem ok__law_best (F : Fz K mg "_law_best" s__law_best P__law_best) (T : Txt K mg) (n : Nat) (G__law_under : Fx P w K mg base (L2.CX P w) "_law_under" (n + 2) P__law_under (lift K (F_lund n))) : Fx P w K mg base (L2.CX P w) "_law_best" (n + 3) P__law_best (lift K (F_best (clsA mg "Kind") n)) := by
  refine F.okD sc__law_best (fun ds W Q E h => by obtain ⟨ss, us, ans, st, rows, up, rfl, _⟩ := h; rfl) (fun f cdv A outer s H E e ds Qd Ed hr lk h => ?_)
  obtain ⟨ss, us, ans, st, rows, up, rfl, hk, hl, hul, hrl, hn8, hrows, hans, k⟩ := h
  refine ⟨_, _, (pss_cons (ps_if (pt_cmpR (op_eqU K hr.units) (pe_callB (call_lenU K) (by rfl) T.b_len PySem.boot_len (pa_cons (pv 1) pa_nil)) pe_int (nomark _)) (pss_one (ps_ret (pe_cmpR op_isNU (pv 0) pe_non (nomark _)))) pss_nil)
      (pss_cons (ps_if (PW.pt (pw_or (pt_not (pt_val (pe_callB (call_isiO K) (by rfl) T.b_isinstance (by decide +kernel) (pa_cons (pv 0) (pa_cons (pglob (v := .ref (clsA mg "Kind")) rfl ⟨_, T.g_Kind, rfl⟩) pa_nil))))) (pw_or (pt_not (pt_val (pe_callB (call_isi1K K) (by rfl) T.b_isinstance (by decide +kernel) (pa_cons (fldX T.f_Kind_row (pv 0)) (pa_cons (pe_bltn (v := .ty "tuple") (by rfl) T.b_tuple (by decide +kernel) rfl) pa_nil))))) (pw_or1 (pt_cmpR (op_notInU K (hu65_of hr)) (fldX T.f_Kind_row (pv 0)) (pv 1) (by rfl)))))) (pss_one (ps_ret pe_bl)) pss_nil)
      (pss_cons (ps_if (pt_val (pv 4)) (pss_one (ps_ret (pe_callB (cr_allK K rfl) (by rfl) T.b_all (by decide +kernel) (pa_cons (pe_lc (own := [("_law_row", 5)]) (g := (gName 5)) (tt := tYes) rfl sc__law_best.nd (pi_any K (pv 1)) (blkOk_by (own := [("_law_row", 5)]) (N := N__law_best) (sc := defScope s__law_best) (by decide +kernel)) (fun _ _ _ _ _ => (pg_name (i := 5) sc__law_best.nd rfl (by first | exact Or.inl rfl | exact Or.inr rfl))) (fun _ _ _ _ _ => pts_nil) (fun _ _ _ _ _ => (fcallX takes0 G__law_under (hr.mono (by first | decide | omega)) (by rfl) (pa_cons (pv 2) (pa_cons (pv 3) (pa_cons (fldX T.f_Kind_row (pv 0)) (pa_cons (pv 5) pa_nil))))))) pa_nil)))) pss_nil)
      (pss_one (ps_ret (pe_callB (cr_allK K rfl) (by rfl) T.b_all (by decide +kernel) (pa_cons (pe_lc (own := [("_law_row", 5)]) (g := (gName 5)) (tt := tYes) rfl sc__law_best.nd (pi_any K (pv 1)) (blkOk_by (own := [("_law_row", 5)]) (N := N__law_best) (sc := defScope s__law_best) (by decide +kernel)) (fun _ _ _ _ _ => (pg_name (i := 5) sc__law_best.nd rfl (by first | exact Or.inl rfl | exact Or.inr rfl))) (fun _ _ _ _ _ => pts_nil) (fun _ _ _ _ _ => (fcallX takes0 G__law_under (hr.mono (by first | decide | omega)) (by rfl) (pa_cons (pv 2) (pa_cons (pv 3) (pa_cons (pv 5) (pa_cons (fldX T.f_Kind_row (pv 0)) pa_nil))))))) pa_nil))))))), inferInstance, ?_⟩
  rcases hans with ⟨rfl, rfl⟩ | ⟨r, rfl, hr1, hr2⟩
  · walk_at "d"
    exact k
  · have hr0 : 0 < rows.length := List.length_pos_of_mem hr1
    have kr := hrows r hr1
    obtain ⟨x, m, rs, er, _⟩ := kr.node
    unfold kdC
    walk_at "d"
    refine iteB_F (by omega) ?_
    walk_at "d"
    refine ⟨T.i_Kind, ?_⟩
    rw [T.kit_Kind_Kind]
    walk_at "d"
    subst er
    walk_at "d"
    have okr : ∀ d ∈ rows, okD false d = true := fun d hd => (hrows d hd).ok
    have dpr : dpL rows ≤ 8 := dpL_le fun d hd => by have := (hrows d hd).t.dp; omega
    refine ⟨⟨false, .inr ⟨okr _ hr1, by rw [okL_all, List.all_eq_true]; exact okr, by have := kr.t.dp; omega, by omega⟩⟩, iteB_F (fun z => z hr1) ?_⟩
    walk_at "d"
    cases up with
    | true =>
      walk_at "d"
      refine comp_lst (fun d => .bl (lieB ss us n (.tup (.str x :: rs)) d)) (by simp; omega) (fun d hd N M h => ?_) ?_
      · walk_at "d"
        refine ⟨ss, us, _, d, rfl, hk, hl, hul, kr, hrows d hd, ?_⟩
        walk_at "d"
        exact h
      walk_at "d"
      rw [bls_mapF]
      walk_at "d"
      rw [show ((rows.map fun d => lieB ss us n (.tup (.str x :: rs)) d).all id) = true by
        rw [List.all_map, List.all_eq_true]
        exact fun d hd => hr2 d hd]
      exact k
    | false =>
      walk_at "d"
      refine comp_lst (fun d => .bl (lieB ss us n d (.tup (.str x :: rs)))) (by simp; omega) (fun d hd N M h => ?_) ?_
      · walk_at "d"
        refine ⟨ss, us, d, _, rfl, hk, hl, hul, hrows d hd, kr, ?_⟩
        walk_at "d"
        exact h
      walk_at "d"
      rw [bls_mapF]
      walk_at "d"
      rw [show ((rows.map fun d => lieB ss us n d (.tup (.str x :: rs))).all id) = true by
        rw [List.all_map, List.all_eq_true]
        exact fun d hd => hr2 d hd]
      exact k

end Kn

set_option synthInstance.maxHeartbeats 0
set_option synthInstance.maxSize 100000
set_option Elab.async false
set_option maxRecDepth 100000
set_option linter.all false
namespace Kn
open PySem L2
local macro_rules | `(tactic| walk_at "wk") => `(tactic| repeat (first
  | refine ⟨_, rfl, ?_⟩
  | refine ⟨_, _, rfl, rfl, ?_⟩
  | refine ⟨⟨by decide, by decide⟩, ?_⟩
  | refine ⟨(by show (0 : Int) < _; decide), ?_⟩
  | refine ⟨Or.inl ⟨by omega, by omega⟩, ?_⟩
  | refine Or.inl ⟨_, rfl, ?_⟩
  | fail))
local macro_rules | `(tactic| walk_at "lits") => `(tactic| repeat (first
  | exact lit_nil
  | exact lit_str
  | exact lit_int
  | exact lit_non
  | refine lit_cons ?_ ?_
  | refine lit_tup ?_
  | fail))
local macro_rules | `(tactic| walk_at "d") => `(tactic| simp only [↓u_tdC, ↓u_tdOp, ↓u_tdNil, ↓u_tdCons, ↓u_tdTup, ↓u_tnLst, ↓u_tdFrz, ↓u_tdFrzK, ↓u_tkNew, ↓u_tdTest, ↓u_tdAnd, ↓u_tdOr, ↓u_tdNot, ↓u_tdYes, ↓u_tdAndV, ↓u_tdOrV, ↓u_tdNotV, ↓u_tdIf, ↓u_tdCB, ↓u_tnCB, ↓u_tnAdd, ↓u_tdNoPart, ↓u_tdPart, ↓u_tdSl, ↓u_tnSl, ↓u_tdRevT, ↓u_tnRevL, ↓u_tdIsiT, ↓u_tdNext, ↓u_tdSeq, ↓u_tdBreak, ↓u_tdCont, ↓u_tdDrop, ↓u_tdRet, ↓u_tdRetN, ↓u_tdRetO, ↓u_tdIfS, ↓u_gdName, ↓u_gdNil, ↓u_gdCons, ↓u_gdTup, ↓u_tdAsg, ↓u_tdAsgN, ↓u_tdAsgK, ↓u_tiAny, ↓u_tiRng1, ↓u_tiRng2, ↓u_tdFor, ↓u_tnLc, ↓u_tdCall, ↓u_tnCall, ↓u_tdRaise, ↓u_tdApp, ↓u_tdDPut, ↓u_tkDict, ↓u_tdAsgR, ↓u_tdForR, ↓u_tdFldC, ↓u_tdSetC, ↓u_tdMeth, ↓u_tdProp, ↓u_tdMakeR, ↓u_tdMakeF, ↓u_tdRaiseS, ↓u_tdTryAs, ↓u_tdTryN, ↓u_tdXf, ↓u_tdJoin, ↓u_tnSplit, ↓u_tdPartn, ↓u_tdFmt, ↓u_tdJoined, ↓u_tkDisp, ↓u_tdShK, ↓u_tdClear, ↓u_tdOGet, ↓u_tdOSet, ↓u_tdOIn, ↓u_tdNeg, ↓u_tdForO, ↓u_tnLcO, ↓u_tnLcR, ↓u_tdGet2, ↓u_tdPopAt, ↓u_tdRg1, ↓u_tdTupRg, ↓u_tnLstRg, ↓u_tdForW, ↓u_tdAugO, ↓u_tdLPut, ↓u_tdFmtW, ↓u_tdMethK, ↓u_tdChain, ↓u_tnLc2, ↓u_tdIndex, ↓u_addF_i, ↓u_addF_s, ↓u_addF_t, ↓u_addF_l, ↓u_iiF, ↓u_mulF_i, ↓u_mulF_s, ↓u_inF_l, ↓u_inF_t, ↓u_inF_s, ↓u_inF_ds, ↓u_inF_di, ↓u_ixF_l, ↓u_ixF_t, ↓u_ixF_s, ↓u_ixF_di, ↓u_ixF_ds, ↓u_slF_l, ↓u_slF_t, ↓u_slF_s, ↓u_lenF_l, ↓u_lenF_t, ↓u_lenF_s, ↓u_lenF_d, ↓u_isiF, ↓u_isiD, ↓u_tupF_l, ↓u_tupF_t, ↓u_lstF_l, ↓u_lstF_t, ↓u_allF, ↓u_anyF, ↓u_sumF, ↓u_sortF, ↓u_intF_i, ↓u_intF_b, ↓u_strF, ↓u_walkF_l, ↓u_walkF_t, ↓u_walkF_s, ↓u_walkF_d, ↓u_arg1, ↓u_arg2, ↓u_frcL_n, ↓u_frcL_c, ↓u_addD, ↓u_iiD, ↓u_mulD, ↓u_eqD_f, ↓u_eqD_t, ↓u_inD_f, ↓u_inD_t, ↓u_ixD, ↓u_dd2, ↓u_isND_f, ↓u_isND_t, ↓u_fldF, ↓u_recF, ↓u_ofC, ↓u_isBD, ↓u_isBF_f, ↓u_isBF_t, ↓u_turnD, ↓u_isoD, ↓u_isoF_o, ↓u_isoF_n, ↓u_asD, ↓u_binOD, ↓u_idxF, ↓u_minF, ↓u_maxF, ↓u_turnD2, ↓u_mm2D, ↓u_lputF, ↓u_fmtWF_s, ↓u_fmtWF_i, ↓u_inTD_f, ↓u_inTD_t, ↓u_inTF, ↓u_refV, ↓u_getF, ↓u_popF, ↓u_dctW, ↓u_tvVar, ↓u_tvFld, ↓u_refD, ↓u_ownW, ↓u_valV1, ↓u_mergeD_n, ↓u_mergeD_c, ↓u_eqKD, ↓u_eqKF_f, ↓u_eqKF_t, ↓u_asS, ↓u_joinF_l, ↓u_joinF_t, ↓u_fmtF_s, ↓u_fmtF_i, ↓u_excF, ↓u_clsV_r, ↓u_clsV_t, ↓u_isYD, ↓b_Call, ↓b_CallN, ↓b_opt, ↓b_dd1, ↓b_asB, ↓b_asI, ↓b_frc, ↓b_for, ↓b_comp, ↓b_ite, ↓b_while, ↓b_var, ↓b_aug, ↓b_mutL, ↓b_mutD, ↓b_retV, ↓b_deref, ↓b_dd1own, ↓b_mutO, ↓b_mutDO, ↓b_frcO, ↓b_comp2, ↓b_compR, ↓b_forL, ↓b_compL, ↓b_dctC, ↓b_ref, ↓b_forR, ↓b_insF, ↓b_insC, ↓b_exB, ↓o_opt, ↓o_asB, ↓o_asI, ↓o_non, ↓o_bl, ↓o_int, ↓o_str, ↓o_ty, ↓o_tup, ↓o_lst, ↓o_dct, ↓o_obj, ↓o_varV, ↓o_varL, ↓o_varD, ↓o_frc, ↓o_augI, ↓o_augS, ↓o_augL, ↓o_retV, ↓o_iteT, ↓o_iteF, ↓o_derefL, ↓o_derefD, ↓o_mutO, ↓o_mutDO, ↓o_frcL, ↓o_frcD, ↓o_frcV, ↓o_dctC, ↓o_ref, ↓o_derefR, ↓o_dd1R, ↓o_mutR, ↓o_derefK, ↓o_dd1K, ↓o_mutK, ↓o_putT, ↓o_insF, ↓o_insC, ↓o_derefI, ↓o_dd1I, ↓o_putS, ↓o_putP, look_c, look_n, putFd_c, putFd_n, ofS_eq, ↓reduceIte, eq_self, List.foldr_cons, List.foldr_nil, DEnds.un, PSt.unset, List.zip_cons_cons, List.zip_nil_left, List.zip_nil_right, List.reverse_cons, List.reverse_nil, exL, exK, exC, tysOf, tyN, isB, tyOk, isNn, PSt.set, S0, PSt.wipe, wipeR,
  List.map_cons, List.map_nil, List.length_cons, List.length_nil, List.replicate_succ, List.replicate_zero, List.cons_append, List.nil_append, List.set_cons_zero, List.set_cons_succ, List.getElem?_cons_zero, List.getElem?_cons_succ, List.getElem?_nil,
  Bool.not_true, Bool.not_false, bq_t, bq_f, Bool.not_not, Bool.false_eq_true, true_and, and_true, Nat.reduceAdd, Nat.reduceSub, Nat.reduceLeDiff, String.reduceEq, decide_true, decide_false, Bool.true_or, Bool.false_or, Bool.true_and, Bool.false_and, Bool.or_true, Bool.or_false, Bool.and_true, Bool.and_false, decide_eq_true_eq, List.mem_cons, List.not_mem_nil, or_true, true_or, or_false, false_or, List.any_cons, List.any_nil, List.all_cons, List.all_nil, Option.map_some, Option.map_none, Option.isSome_some, Option.isSome_none, eqOk_ii, eqOk_ss, eqOk_bb, eqOk_nn, eqOk_ns, eqOk_sn, eqOk_ni, eqOk_in, eqOk_si, eqOk_is, D.int.injEq, D.str.injEq, D.bl.injEq, reduceCtorEq, keyD, atI_0, atI_1, atI_2, atI_3, atI_4, cut1, ne_eq, not_true_eq_false, not_false_eq_true, Bool.not_eq_true', Bool.not_eq_false', decide_eq_false_iff_not])
local macro_rules | `(tactic| walk_at "z") => `(tactic| first
  | (apply z_seq; (focus walk_at "z"); (focus walk_at "z"))
  | (apply z_try; (focus (intro _ _ _; walk_at "z")); (focus (intro _ _ _; walk_at "z")); (focus walk_at "z"))
  | (apply z_tryN; (focus (intro _ _ _; walk_at "z")); (focus walk_at "z"); (focus walk_at "z"))
  | (apply z_cl; (focus (intro _ _ _; walk_at "z")); (focus walk_at "z"))
  | exact inferInstance
  | (apply z_if; (focus walk_at "z"); (focus walk_at "z"); (focus walk_at "z"))
  | (apply z_while; (focus walk_at "z"); (focus walk_at "z"))
  | (apply z_for; (focus walk_at "z"); (focus walk_at "z"); (focus walk_at "z")))
variable {P : Program} {w : World} {K : PySem.W.Frag} {mg : Str → Option Value} {base : Heap}
abbrev s_law : Stmt := top 36
abbrev N_law : List Str := ["_law_script", "_law_tape_here", "_law_pair", "_law_shapes", "_law_under_here", "_law_stock_here", "_law_other", "_law_kind", "_law_rows", "_law_second", "_law_over", "_law_below", "_law_row"]
abbrev P_law : List Str := ["_law_script"]
theorem sc_law : FnScope N_law P_law (defScope s_law) := ⟨rfl, rfl, rfl, by decide +kernel, rfl, by decide +kernel, by decide +kernel⟩
theorem form_kdf {ss : List (Str × Str)} (hk : ∀ p ∈ ss, isWord p.1 = true ∧ p.2.length ≤ 3) : ∀ (n : Nat) (d : D), FormOf ss (Str.ofString "") n d → KdF ss (n + 1) d := fun n d h => by
  induction h with
  | letter h => exact absurd h (by rw [show (Str.ofString "").cps.toList = [] by decide +kernel]; simp)
  | @node n w m ds h hl h0 hd ih =>
    refine KdF.of h (by omega) (by have := (hk _ (lkS_in h)).2; dsimp only at this; omega) (hk _ (lkS_in h)).1 fun d hd' => (ih d hd').le ?_
    have : 0 < m.length := by
      have := List.length_pos_of_mem hd'
      omega
    have := h0 this
    omega
theorem ok_law {f : Addr} {fd : FuncData} (F : Fun K "law" "law" s_law f fd) (T : Txt K mg) (G__law_tape : Fx P w K mg base (L2.CX P w) "_law_tape" 2 P__law_tape (lift K F_tape)) (G__law_take : Fx P w K mg base (L2.CX P w) "_law_take" 1 P__law_take (lift K F_take))
    (G__law_stock : Fx P w K mg base (L2.CX P w) "_law_stock" 3 P__law_stock (lift K F_stock)) (G__law_form : Fx P w K mg base (L2.CX P w) "_law_form" 4 P__law_form (lift K (F_form 1)))
    (G__law_same : Fx P w K mg base (L2.CX P w) "_law_same" 4 P__law_same (lift K (F_same 2))) (G__law_under : Fx P w K mg base (L2.CX P w) "_law_under" 4 P__law_under (lift K (F_lund 2))) (G__law_best : Fx P w K mg base (L2.CX P w) "_law_best" 5 P__law_best (lift K (F_best (clsA mg "Kind") 2)))
    (K_Stock2 : Kx P w K mg base (clsA mg "Stock") 4 P_Stock___init__ [] (lift K (F_mkStock (clsA mg "Stock") (clsA mg "BadKind")))) (K_Kind2 : Kx P w K mg base (clsA mg "Kind") 10 P_Kind___init__ [] (lift K (F_mkKind (clsA mg "Kind") (clsA mg "Stock") (clsA mg "BadKind") 6)))
    (O_Kind_or : Ox P w K mg base (clsA mg "Kind") "__or__" 12 P_Kind___or__ (lift K (F_kop (clsA mg "Kind") (clsA mg "Stock") 2 true))) (O_Kind_and : Ox P w K mg base (clsA mg "Kind") "__and__" 12 P_Kind___and__ (lift K (F_kop (clsA mg "Kind") (clsA mg "Stock") 2 false))) : FnOk P w K mg base CX0 15 f fd P_law (spLaw K) := by
  refine okLaw F sc_law (fun cdv A outer0 s H E e hr => ?_)
  refine ⟨_, _, (pss_cons (ps_set (i := 1) sc_law.nd rfl (Or.inl rfl) (fcallX takes0 G__law_tape (hr.mono (by first | decide | omega)) (by rfl) (pa_cons (pv 0) (pa_cons pe_int (pa_cons pe_int pa_nil)))))
      (pss_cons (ps_set (i := 2) sc_law.nd rfl (Or.inl rfl) (fcallX takes0 G__law_stock (hr.mono (by first | decide | omega)) (by rfl) (pa_cons (pv 1) (pa_cons (pe_cmpR (op_eqU K hr.units) (fcallX takes0 G__law_take (hr.mono (by first | decide | omega)) (by rfl) (pa_cons (pv 1) (pa_cons pe_int pa_nil))) pe_int (nomark _)) (pa_cons (pe_lst (pa_cons pe_str (pa_cons pe_str (pa_cons pe_str (pa_cons pe_str (pa_cons pe_str (pa_cons pe_str pa_nil))))))) pa_nil)))))
      (pss_cons (ps_set (i := 3) sc_law.nd rfl (Or.inr rfl) (pe_ix (ix_U K (hu_of hr)) (pv 2) pe_int (fun _ _ => rfl)))
      (pss_cons (ps_set (i := 4) sc_law.nd rfl (Or.inr rfl) (pe_ix (ix_U K (hu_of hr)) (pv 2) pe_int (fun _ _ => rfl)))
      (pss_cons (ps_set (i := 5) sc_law.nd rfl (Or.inl rfl) (mkF_of (makeX takes0 K_Stock2 (hr.mono (by first | decide | omega)) (by rfl) T.g_Stock (pa_cons (pe_callTy (call_dictU K rfl) (by rfl) T.b_dict (by decide +kernel) (pa_cons (pv 3) pa_nil)) (pa_cons (pe_callTy (call_dictU K rfl) (by rfl) T.b_dict (by decide +kernel) (pa_cons (pv 4) pa_nil)) pa_nil)))))
      (pss_cons (ps_set (i := 6) sc_law.nd rfl (Or.inl rfl) (fcallX takes0 G__law_tape (hr.mono (by first | decide | omega)) (by rfl) (pa_cons (pv 0) (pa_cons pe_int (pa_cons pe_int pa_nil)))))
      (pss_cons (ps_set (i := 7) sc_law.nd rfl (Or.inr rfl) (fcallX takes0 G__law_form (hr.mono (by first | decide | omega)) (by rfl) (pa_cons (pv 6) (pa_cons (pv 3) (pa_cons pe_str (pa_cons pe_int pa_nil))))))
      (pss_cons (ps_set (i := 8) sc_law.nd rfl (Or.inl rfl) (fcallX takes0 G__law_same (hr.mono (by first | decide | omega)) (by rfl) (pa_cons (pv 3) (pa_cons (pv 7) pa_nil))))
      (pss_cons (ps_set (i := 9) sc_law.nd rfl (Or.inr rfl) (pe_ix (ix_U K (hu_of hr)) (pv 8) (fcallX takes0 G__law_take (hr.mono (by first | decide | omega)) (by rfl) (pa_cons (pv 6) (pa_cons (pe_callB (call_lenU K) (by rfl) T.b_len PySem.boot_len (pa_cons (pv 8) pa_nil)) pa_nil))) (fun _ _ => rfl)))
      (pss_cons (ps_if (pt_cmpR (op_eqU K hr.units) (fcallX takes0 G__law_take (hr.mono (by first | decide | omega)) (by rfl) (pa_cons (pv 6) (pa_cons pe_int pa_nil))) pe_int (nomark _)) (pss_one (ps_set (i := 9) sc_law.nd rfl (Or.inr rfl) (fcallX takes0 G__law_form (hr.mono (by first | decide | omega)) (by rfl) (pa_cons (pv 6) (pa_cons (pv 3) (pa_cons pe_str (pa_cons pe_int pa_nil))))))) pss_nil)
      (pss_cons (ps_setLc (i := 10) (own := [("_law_row", 12)]) (g := (gName 12))  rfl sc_law.nd rfl rfl (sw_true rfl rfl rfl (by decide +kernel)) (pi_any K (pv 8)) (blkOk_by (own := [("_law_row", 12)]) (N := N_law) (sc := defScope s_law) (by decide +kernel)) (fun _ _ _ _ _ => (pg_name (i := 12) sc_law.nd rfl (by first | exact Or.inl rfl | exact Or.inr rfl))) (fun _ _ _ _ _ => (pts_one (pt_val (fcallX takes0 G__law_under (hr.mono (by first | decide | omega)) (by rfl) (pa_cons (pv 3) (pa_cons (pv 4) (pa_cons (pv 7) (pa_cons (pv 12) pa_nil)))))))) (fun _ _ _ _ _ => (pv 12)))
      (pss_cons (ps_setLc (i := 10) (own := [("_law_row", 12)]) (g := (gName 12))  rfl sc_law.nd rfl rfl (sw_true rfl rfl rfl (by decide +kernel)) (pi_any K (pv 10)) (blkOk_by (own := [("_law_row", 12)]) (N := N_law) (sc := defScope s_law) (by decide +kernel)) (fun _ _ _ _ _ => (pg_name (i := 12) sc_law.nd rfl (by first | exact Or.inl rfl | exact Or.inr rfl))) (fun _ _ _ _ _ => (pts_one (pt_val (fcallX takes0 G__law_under (hr.mono (by first | decide | omega)) (by rfl) (pa_cons (pv 3) (pa_cons (pv 4) (pa_cons (pv 9) (pa_cons (pv 12) pa_nil)))))))) (fun _ _ _ _ _ => (pv 12)))
      (pss_cons (ps_setLc (i := 11) (own := [("_law_row", 12)]) (g := (gName 12))  rfl sc_law.nd rfl rfl (sw_true rfl rfl rfl (by decide +kernel)) (pi_any K (pv 8)) (blkOk_by (own := [("_law_row", 12)]) (N := N_law) (sc := defScope s_law) (by decide +kernel)) (fun _ _ _ _ _ => (pg_name (i := 12) sc_law.nd rfl (by first | exact Or.inl rfl | exact Or.inr rfl))) (fun _ _ _ _ _ => (pts_one (pt_val (fcallX takes0 G__law_under (hr.mono (by first | decide | omega)) (by rfl) (pa_cons (pv 3) (pa_cons (pv 4) (pa_cons (pv 12) (pa_cons (pv 7) pa_nil)))))))) (fun _ _ _ _ _ => (pv 12)))
      (pss_cons (ps_setLc (i := 11) (own := [("_law_row", 12)]) (g := (gName 12))  rfl sc_law.nd rfl rfl (sw_true rfl rfl rfl (by decide +kernel)) (pi_any K (pv 11)) (blkOk_by (own := [("_law_row", 12)]) (N := N_law) (sc := defScope s_law) (by decide +kernel)) (fun _ _ _ _ _ => (pg_name (i := 12) sc_law.nd rfl (by first | exact Or.inl rfl | exact Or.inr rfl))) (fun _ _ _ _ _ => (pts_one (pt_val (fcallX takes0 G__law_under (hr.mono (by first | decide | omega)) (by rfl) (pa_cons (pv 3) (pa_cons (pv 4) (pa_cons (pv 12) (pa_cons (pv 9) pa_nil)))))))) (fun _ _ _ _ _ => (pv 12)))
      (pss_cons (ps_if (pt_not (pt_val (fcallX takes0 G__law_best (hr.mono (by first | decide | omega)) (by rfl) (pa_cons (pe_op (op_orO O_Kind_or T.sf_Kind (hr.mono (by first | decide | omega))) (mkF_of (makeX takes0 K_Kind2 (hr.mono (by first | decide | omega)) (by rfl) T.g_Kind (pa_cons (pv 5) (pa_cons (pv 7) pa_nil)))) (mkF_of (makeX takes0 K_Kind2 (hr.mono (by first | decide | omega)) (by rfl) T.g_Kind (pa_cons (pv 5) (pa_cons (pv 9) pa_nil))))) (pa_cons (pv 10) (pa_cons (pv 3) (pa_cons (pv 4) (pa_cons pe_bl pa_nil)))))))) (pss_one (ps_ret pe_bl)) pss_nil)
      (pss_one (ps_ret (fcallX takes0 G__law_best (hr.mono (by first | decide | omega)) (by rfl) (pa_cons (pe_op (op_andO O_Kind_and T.sf_Kind (hr.mono (by first | decide | omega))) (mkF_of (makeX takes0 K_Kind2 (hr.mono (by first | decide | omega)) (by rfl) T.g_Kind (pa_cons (pv 5) (pa_cons (pv 7) pa_nil)))) (mkF_of (makeX takes0 K_Kind2 (hr.mono (by first | decide | omega)) (by rfl) T.g_Kind (pa_cons (pv 5) (pa_cons (pv 9) pa_nil))))) (pa_cons (pv 11) (pa_cons (pv 3) (pa_cons (pv 4) (pa_cons pe_bl pa_nil))))))))))))))))))))))), inferInstance, ?_⟩
  walk_at "d"
  refine ⟨0, 60, rfl, by decide, by decide, by decide, fun Tp1 hT1 => ?_⟩
  walk_at "d"
  refine ⟨5, rfl, by decide, fun z z0 z1 => ?_⟩
  walk_at "d"
  refine ⟨_, ["+", "-+", "++", "-", "--", "-++"], rfl, by decide, by decide, fun ws b mu un hs => ?_⟩
  obtain ⟨wf, wt, L3⟩ := law3_of hs (by decide +kernel)
  walk_at "d"
  have hsh := L3.shp
  have hul := L3.ulen
  have hun := L3.und
  have hsB := L3.sound
  have mkS : ∀ {W : Wd} {a : Addr} {Q : D → Wd → Prop} {E : Exn → Wd → Prop}, W.ω a = none → Q .non (W.put a (.ins (clsA mg "Stock") (stkC (shapesOf ws b mu) (underOf ws un)))) → F_mkStock (clsA mg "Stock") (clsA mg "BadKind") [.ref a, .dct (dkS (shapesOf ws b mu)), .dct (dkS (underOf ws un))] (W.put a (.ins (clsA mg "Stock") [])) Q E := fun {W a Q E} ha hq => by
    have hl7 := L3.len
    refine ⟨a, W, _, _, shapesOf ws b mu, underOf ws un, rfl, rfl, ha, rfl, .inr rfl, hsh.nd, hun, by omega, by omega, fun p hp => ?_, fun _ => hq, fun z => by rw [hsB] at z; cases z⟩
    have h1 := (L3.word p hp).2.1
    have h2 := hsh.small p hp
    exact ⟨by omega, by omega⟩
  generalize shapesOf ws b mu = ss at *
  generalize underOf ws un = us at *
  have hO : soundO ss us = true := by
    unfold soundB at hsB
    rw [Bool.and_eq_true] at hsB
    exact hsB.2
  have hlB := soundO_leads hO
  have huB := soundO_base hO
  have hmk : ∀ p ∈ ss, okMark p.2 = true := fun p hp => (L3.word p hp).2.2
  have hw1 : ∀ p ∈ ss, isWord p.1 = true := fun p hp => (L3.word p hp).1
  have hw3 : ∀ p ∈ ss, isWord p.1 = true ∧ p.2.length ≤ 3 := fun p hp => ⟨(L3.word p hp).1, hsh.small p hp⟩
  have hl7 := L3.len
  have hs1000 : ∀ p ∈ ss, p.2.length ≤ 1000 := fun p hp => by have := hsh.small p hp; omega
  have bok := bet_ok (ss := ss) hlB huB hw1
  have hkm : ∀ m, m ≤ 2 → ∀ a b up, KdF ss m a → KdF ss m b → ∀ r, betB ss us m a b up = some r → KdF ss m r := fun m _ a b up ha hb r h => ((bok m a b up ha hb).1 r h).1
  have mkK : ∀ {W : Wd} {a : Addr} {d : D} {Q : D → Wd → Prop} {E : Exn → Wd → Prop}, W.ω a = none → KdF ss 2 d → Q .non (W.put a (.ins (clsA mg "Kind") (kdC (.obj (clsA mg "Stock") (stkC ss us)) d))) → F_mkKind (clsA mg "Kind") (clsA mg "Stock") (clsA mg "BadKind") 6 [.ref a, .obj (clsA mg "Stock") (stkC ss us), d] (W.put a (.ins (clsA mg "Kind") [])) Q E := fun {W a d Q E} ha hd hq => ⟨a, W, ss, us, d, rfl, rfl, ha, hs1000, hd.t.p, by have := hd.t.dp; omega, fun _ => hq, fun z => by rw [hd.kind] at z; cases z⟩
  intro a ha _
  refine callB_of <| mkS ha ?_
  walk_at "d"
  rw [Wd.del_put (W := ⟨Tp1, e.W.ω⟩) ha]
  refine ⟨1, 30, rfl, by decide, by decide, by decide, fun Tp2 hT2 => ?_⟩
  walk_at "d"
  refine ⟨ss, _, rfl, hsh, by decide +kernel, fun d1 hd1 => ?_⟩
  have k1 := form_kdf hw3 1 d1 hd1
  walk_at "d"
  refine ⟨ss, d1, rfl, hsh.nd, hl7, by decide, k1, ?_⟩
  have hsame := same_kd hsh.nd hw1 2 d1 k1
  have hslen := same_len2 hl7 (show 2 ≤ 2 by decide) k1
  have hself : 0 < (sameL ss 2 d1).length := List.length_pos_of_mem (same_ge 2 d1 d1 true k1 k1 (lie_refl hlB 2 d1 k1))
  have hge : ∀ r up, KdF ss 2 r → geB ss us 2 up d1 r = true → r ∈ sameL ss 2 d1 := fun r up hr h => same_ge 2 d1 r up k1 hr h
  generalize hRR : sameL ss 2 d1 = R at *
  walk_at "d"
  refine ⟨R.length, rfl, by omega, fun r r0 r1 => ?_⟩
  obtain ⟨d2, e2⟩ : ∃ d2, R[r.toNat]? = some d2 := ⟨_, List.getElem?_eq_getElem (by omega)⟩
  have k2 := hsame d2 (List.mem_of_getElem? e2)
  walk_at "d"
  rw [at_get (j := r.toNat) (by omega) e2]
  walk_at "d"
  refine ⟨4, rfl, by decide, fun u u0 u1 => ?_⟩
  walk_at "d"
  refine iteB_by (fun c => ?_) (fun c => ?_)
  case' refine_1 =>
    walk_at "d"
    refine ⟨ss, _, rfl, hsh, by decide +kernel, fun d2 hd3 => ?_⟩
    have k2 := form_kdf hw3 1 d2 hd3
    walk_at "d"
  case' refine_2 =>
    walk_at "d"
  all_goals
    have fl : ∀ (p : D → Bool) (l : List D), l.length ≤ 343 → (l.filter p).length ≤ 343 := fun p l h => Nat.le_trans (List.length_filter_le _ _) h
    have fme : ∀ (p : D → Bool) (l : List D), l.filterMap (fun x => if p x = true then some x else none) = l.filter p := fun p l => by
      rw [fm_filter (fun x => x) p, List.map_id']
    refine comp_fm (fun d => if lieB ss us 2 d1 d = true then some d else none) (by simp; omega) (fun d hd N M h1 h2 => ?_) ?_
    · walk_at "d"
      refine ⟨ss, us, d1, d, rfl, hmk, hlB, by omega, k1, hsame d hd, ?_⟩
      cases hz : lieB ss us 2 d1 d with
      | true =>
        walk_at "d"
        exact h1 d (by rw [hz]; rfl)
      | false =>
        walk_at "d"
        exact h2 (by rw [hz]; rfl)
    rw [fme (lieB ss us 2 d1)]
    walk_at "d"
    refine comp_fm (fun d => if lieB ss us 2 d2 d = true then some d else none) (by simp; have := fl (lieB ss us 2 d1) R hslen; omega) (fun d hd N M h1 h2 => ?_) ?_
    · walk_at "d"
      refine ⟨ss, us, d2, d, rfl, hmk, hlB, by omega, k2, hsame d (List.mem_filter.mp hd).1, ?_⟩
      cases hz : lieB ss us 2 d2 d with
      | true =>
        walk_at "d"
        exact h1 d (by rw [hz]; rfl)
      | false =>
        walk_at "d"
        exact h2 (by rw [hz]; rfl)
    rw [fme (lieB ss us 2 d2)]
    walk_at "d"
    refine comp_fm (fun d => if lieB ss us 2 d d1 = true then some d else none) (by simp; omega) (fun d hd N M h1 h2 => ?_) ?_
    · walk_at "d"
      refine ⟨ss, us, d, d1, rfl, hmk, hlB, by omega, hsame d hd, k1, ?_⟩
      cases hz : lieB ss us 2 d d1 with
      | true =>
        walk_at "d"
        exact h1 d (by rw [hz]; rfl)
      | false =>
        walk_at "d"
        exact h2 (by rw [hz]; rfl)
    rw [fme fun d => lieB ss us 2 d d1]
    walk_at "d"
    refine comp_fm (fun d => if lieB ss us 2 d d2 = true then some d else none) (by simp; have := fl (fun d => lieB ss us 2 d d1) R hslen; omega) (fun d hd N M h1 h2 => ?_) ?_
    · walk_at "d"
      refine ⟨ss, us, d, d2, rfl, hmk, hlB, by omega, hsame d (List.mem_filter.mp hd).1, k2, ?_⟩
      cases hz : lieB ss us 2 d d2 with
      | true =>
        walk_at "d"
        exact h1 d (by rw [hz]; rfl)
      | false =>
        walk_at "d"
        exact h2 (by rw [hz]; rfl)
    rw [fme fun d => lieB ss us 2 d d2]
    walk_at "d"
    have best : ∀ up, (∀ d ∈ (R.filter fun d => geB ss us 2 up d1 d).filter fun d => geB ss us 2 up d2 d, KdF ss 2 d) ∧ (((R.filter fun d => geB ss us 2 up d1 d).filter fun d => geB ss us 2 up d2 d) = [] ∧ kdO (clsA mg "Kind") (.obj (clsA mg "Stock") (stkC ss us)) (betB ss us 2 d1 d2 up) = .non ∨ ∃ r, kdO (clsA mg "Kind") (.obj (clsA mg "Stock") (stkC ss us)) (betB ss us 2 d1 d2 up) = .obj (clsA mg "Kind") (kdC (.obj (clsA mg "Stock") (stkC ss us)) r) ∧ r ∈ ((R.filter fun d => geB ss us 2 up d1 d).filter fun d => geB ss us 2 up d2 d) ∧ ∀ c ∈ ((R.filter fun d => geB ss us 2 up d1 d).filter fun d => geB ss us 2 up d2 d), geB ss us 2 up r c = true) := fun up => by
      obtain ⟨b1, b2⟩ := bok 2 d1 d2 up k1 k2
      have mem : ∀ d, d ∈ ((R.filter fun d => geB ss us 2 up d1 d).filter fun d => geB ss us 2 up d2 d) ↔ d ∈ R ∧ geB ss us 2 up d1 d = true ∧ geB ss us 2 up d2 d = true := fun d => by
        rw [List.mem_filter, List.mem_filter, and_assoc]
      refine ⟨fun d hd => hsame d ((mem d).mp hd).1, ?_⟩
      cases hz : betB ss us 2 d1 d2 up with
      | none =>
        refine .inl ⟨?_, rfl⟩
        rw [List.eq_nil_iff_forall_not_mem]
        intro d hd
        obtain ⟨m1, m2, m3⟩ := (mem d).mp hd
        exact b2 hz d (hsame d m1) m2 m3
      | some r =>
        obtain ⟨c1, c2, c3, c4⟩ := b1 r hz
        refine .inr ⟨r, rfl, (mem r).mpr ⟨hge r up c1 c2, c2, c3⟩, fun c hc => ?_⟩
        obtain ⟨m1, m2, m3⟩ := (mem c).mp hc
        exact c4 c (hsame c m1) m2 m3
    have l1 := fl (lieB ss us 2 d2) _ (fl (lieB ss us 2 d1) R hslen)
    have l2 := fl (fun d => lieB ss us 2 d d2) _ (fl (fun d => lieB ss us 2 d d1) R hslen)
    intro a1 ha1 _
    refine callB_of <| mkK ha1 k1 ?_
    walk_at "d"
    rw [Wd.del_put (W := ⟨Tp2, e.W.ω⟩) ha1]
    intro a2 ha2 _
    refine callB_of <| mkK ha2 k2 ?_
    walk_at "d"
    rw [Wd.del_put (W := ⟨Tp2, e.W.ω⟩) ha2]
    refine ⟨ss, us, d1, d2, rfl, fun p hp => ⟨hmk p hp, hs1000 p hp⟩, hlB, by omega, k1, k2, hkm, ?_⟩
    walk_at "d"
    refine ⟨ss, us, _, .obj (clsA mg "Stock") (stkC ss us), _, true, rfl, hmk, hlB, by omega, Nat.le_trans l1 (by decide), by decide, (best true).1, (best true).2, ?_⟩
    walk_at "d"
    intro a3 ha3 _
    refine callB_of <| mkK ha3 k1 ?_
    walk_at "d"
    rw [Wd.del_put (W := ⟨Tp2, e.W.ω⟩) ha3]
    intro a4 ha4 _
    refine callB_of <| mkK ha4 k2 ?_
    walk_at "d"
    rw [Wd.del_put (W := ⟨Tp2, e.W.ω⟩) ha4]
    refine ⟨ss, us, d1, d2, rfl, fun p hp => ⟨hmk p hp, hs1000 p hp⟩, hlB, by omega, k1, k2, hkm, ?_⟩
    walk_at "d"
    refine ⟨ss, us, _, .obj (clsA mg "Stock") (stkC ss us), _, false, rfl, hmk, hlB, by omega, Nat.le_trans l2 (by decide), by decide, (best false).1, (best false).2, ?_⟩
    walk_at "d"

end Kn

set_option synthInstance.maxHeartbeats 0
set_option synthInstance.maxSize 100000
set_option Elab.async false
set_option maxRecDepth 100000
set_option linter.all false
set_option maxHeartbeats 0
namespace Kn
open PySem L2
theorem all_mk {l : PySem.W.OpenLaw} {w : World} {K : PySem.W.Frag} {h : Heap} {mg : Str → Option Value} {fa : Addr} (X : K.In h) (G : h.Ns mainGlobals mg) (hfa : mg "law" = some (.ref fa))
    {f1 f2 f3 f4 f5 f6 f7 f8 f9 f10 f11 f12 f13 f14 f15 f16 f17 f18 f19 f20 f21 f22 f23 : Addr} {od1 an1 od2 an2 od3 an3 od4 an4 od5 an5 od6 an6 od7 an7 od8 an8 od9 an9 od10 an10 od11 an11 od12 an12 od13 an13 od14 an14 od15 an15 od16 an16 od17 an17 od18 an18 od19 an19 od20 an20 od21 an21 od22 an22 od23 an23 : Option Addr} {sl1 sl2 sl3 sl4 sl5 sl6 sl7 sl8 sl9 sl10 sl11 sl12 sl13 sl14 sl15 sl16 sl17 sl18 sl19 sl20 sl21 sl22 sl23 : Array (Option Value)} {oc1 kV1 dc1 pm1 cd1 ct1 oc2 kV2 dc2 pm2 cd2 ct2 oc3 kV3 dc3 pm3 cd3 ct3 oc4 kV4 dc4 pm4 cd4 ct4 oc5 kV5 dc5 pm5 cd5 ct5 oc6 kV6 dc6 pm6 cd6 ct6 oc7 kV7 dc7 pm7 cd7 ct7 oc8 kV8 dc8 pm8 cd8 ct8 oc9 kV9 dc9 pm9 cd9 ct9 oc10 kV10 dc10 pm10 cd10 ct10 oc11 kV11 dc11 pm11 cd11 ct11 oc12 kV12 dc12 pm12 cd12 ct12 oc13 kV13 dc13 pm13 cd13 ct13 oc14 kV14 dc14 pm14 cd14 ct14 oc15 kV15 dc15 pm15 cd15 ct15 oc16 kV16 dc16 pm16 cd16 ct16 oc17 kV17 dc17 pm17 cd17 ct17 oc18 kV18 dc18 pm18 cd18 ct18 oc19 kV19 dc19 pm19 cd19 ct19 oc20 kV20 dc20 pm20 cd20 ct20 oc21 kV21 dc21 pm21 cd21 ct21 oc22 kV22 dc22 pm22 cd22 ct22 oc23 kV23 dc23 pm23 cd23 ct23 : Value} {u_LARGE : Value} {u_LONGEST_WORD : Value} {u_MOST_PARTS : Value} {u_MOST_WORDS : Value} {u_SMALL : Value} {C_BadKind : Addr} {C_NotesError : Addr} {C_Stock : Addr} {C_Kind : Addr} {f_Stock___init__ : Addr} {od_Stock___init__ an_Stock___init__ : Option Addr} {sl_Stock___init__ : Array (Option Value)} {oc_Stock___init__ kV_Stock___init__ dc_Stock___init__ pm_Stock___init__ cd_Stock___init__ ct_Stock___init__ : Value} {T_Stock___init__ : Addr} {tod_Stock___init__ : Option Addr} {tsl_Stock___init__ : Array (Option Value)} {toc_Stock___init__ : Value} {tn_Stock___init__ : Nat} {f_Kind___init__ : Addr} {od_Kind___init__ an_Kind___init__ : Option Addr} {sl_Kind___init__ : Array (Option Value)} {oc_Kind___init__ kV_Kind___init__ dc_Kind___init__ pm_Kind___init__ cd_Kind___init__ ct_Kind___init__ : Value} {f_Kind___or__ : Addr} {od_Kind___or__ an_Kind___or__ : Option Addr} {sl_Kind___or__ : Array (Option Value)} {oc_Kind___or__ kV_Kind___or__ dc_Kind___or__ pm_Kind___or__ cd_Kind___or__ ct_Kind___or__ : Value} {f_Kind___and__ : Addr} {od_Kind___and__ an_Kind___and__ : Option Addr} {sl_Kind___and__ : Array (Option Value)} {oc_Kind___and__ kV_Kind___and__ dc_Kind___and__ pm_Kind___and__ cd_Kind___and__ ct_Kind___and__ : Value}
    (a1 : PySem.W.nsIn K mainGlobals "is_word" = some (some (.ref f1))) (l1 : K.lookup f1 = some ⟨oc1, od1, .func (PySem.W.fnOf "is_word" "is_word" (defArgs s_is_word) (defBody s_is_word) (defScope s_is_word) .none kV1 dc1 pm1 an1 cd1 ct1), sl1⟩) (c1 : PySem.W.codeIn K cd1 "is_word" = true) (k1 : PySem.W.keepIn K (.ref f1) = true)
    (a2 : PySem.W.nsIn K mainGlobals "is_letter" = some (some (.ref f2))) (l2 : K.lookup f2 = some ⟨oc2, od2, .func (PySem.W.fnOf "is_letter" "is_letter" (defArgs s_is_letter) (defBody s_is_letter) (defScope s_is_letter) .none kV2 dc2 pm2 an2 cd2 ct2), sl2⟩) (c2 : PySem.W.codeIn K cd2 "is_letter" = true) (k2 : PySem.W.keepIn K (.ref f2) = true)
    (a3 : PySem.W.nsIn K mainGlobals "is_form" = some (some (.ref f3))) (l3 : K.lookup f3 = some ⟨oc3, od3, .func (PySem.W.fnOf "is_form" "is_form" (defArgs s_is_form) (defBody s_is_form) (defScope s_is_form) .none kV3 dc3 pm3 an3 cd3 ct3), sl3⟩) (c3 : PySem.W.codeIn K cd3 "is_form" = true) (k3 : PySem.W.keepIn K (.ref f3) = true)
    (a4 : PySem.W.nsIn K mainGlobals "has_letters" = some (some (.ref f4))) (l4 : K.lookup f4 = some ⟨oc4, od4, .func (PySem.W.fnOf "has_letters" "has_letters" (defArgs s_has_letters) (defBody s_has_letters) (defScope s_has_letters) .none kV4 dc4 pm4 an4 cd4 ct4), sl4⟩) (c4 : PySem.W.codeIn K cd4 "has_letters" = true) (k4 : PySem.W.keepIn K (.ref f4) = true)
    (a5 : PySem.W.nsIn K mainGlobals "fits_shapes" = some (some (.ref f5))) (l5 : K.lookup f5 = some ⟨oc5, od5, .func (PySem.W.fnOf "fits_shapes" "fits_shapes" (defArgs s_fits_shapes) (defBody s_fits_shapes) (defScope s_fits_shapes) .none kV5 dc5 pm5 an5 cd5 ct5), sl5⟩) (c5 : PySem.W.codeIn K cd5 "fits_shapes" = true) (k5 : PySem.W.keepIn K (.ref f5) = true)
    (a6 : PySem.W.nsIn K mainGlobals "is_kind" = some (some (.ref f6))) (l6 : K.lookup f6 = some ⟨oc6, od6, .func (PySem.W.fnOf "is_kind" "is_kind" (defArgs s_is_kind) (defBody s_is_kind) (defScope s_is_kind) .none kV6 dc6 pm6 an6 cd6 ct6), sl6⟩) (c6 : PySem.W.codeIn K cd6 "is_kind" = true) (k6 : PySem.W.keepIn K (.ref f6) = true)
    (a7 : PySem.W.nsIn K mainGlobals "leads_back" = some (some (.ref f7))) (l7 : K.lookup f7 = some ⟨oc7, od7, .func (PySem.W.fnOf "leads_back" "leads_back" (defArgs s_leads_back) (defBody s_leads_back) (defScope s_leads_back) .none kV7 dc7 pm7 an7 cd7 ct7), sl7⟩) (c7 : PySem.W.codeIn K cd7 "leads_back" = true) (k7 : PySem.W.keepIn K (.ref f7) = true)
    (a8 : PySem.W.nsIn K mainGlobals "sound_shapes" = some (some (.ref f8))) (l8 : K.lookup f8 = some ⟨oc8, od8, .func (PySem.W.fnOf "sound_shapes" "sound_shapes" (defArgs s_sound_shapes) (defBody s_sound_shapes) (defScope s_sound_shapes) .none kV8 dc8 pm8 an8 cd8 ct8), sl8⟩) (c8 : PySem.W.codeIn K cd8 "sound_shapes" = true) (k8 : PySem.W.keepIn K (.ref f8) = true)
    (a9 : PySem.W.nsIn K mainGlobals "sound_order" = some (some (.ref f9))) (l9 : K.lookup f9 = some ⟨oc9, od9, .func (PySem.W.fnOf "sound_order" "sound_order" (defArgs s_sound_order) (defBody s_sound_order) (defScope s_sound_order) .none kV9 dc9 pm9 an9 cd9 ct9), sl9⟩) (c9 : PySem.W.codeIn K cd9 "sound_order" = true) (k9 : PySem.W.keepIn K (.ref f9) = true)
    (a10 : PySem.W.nsIn K mainGlobals "uppers" = some (some (.ref f10))) (l10 : K.lookup f10 = some ⟨oc10, od10, .func (PySem.W.fnOf "uppers" "uppers" (defArgs s_uppers) (defBody s_uppers) (defScope s_uppers) .none kV10 dc10 pm10 an10 cd10 ct10), sl10⟩) (c10 : PySem.W.codeIn K cd10 "uppers" = true) (k10 : PySem.W.keepIn K (.ref f10) = true)
    (a11 : PySem.W.nsIn K mainGlobals "base_between" = some (some (.ref f11))) (l11 : K.lookup f11 = some ⟨oc11, od11, .func (PySem.W.fnOf "base_between" "base_between" (defArgs s_base_between) (defBody s_base_between) (defScope s_base_between) .none kV11 dc11 pm11 an11 cd11 ct11), sl11⟩) (c11 : PySem.W.codeIn K cd11 "base_between" = true) (k11 : PySem.W.keepIn K (.ref f11) = true)
    (a12 : PySem.W.nsIn K mainGlobals "between" = some (some (.ref f12))) (l12 : K.lookup f12 = some ⟨oc12, od12, .func (PySem.W.fnOf "between" "between" (defArgs s_between) (defBody s_between) (defScope s_between) .none kV12 dc12 pm12 an12 cd12 ct12), sl12⟩) (c12 : PySem.W.codeIn K cd12 "between" = true) (k12 : PySem.W.keepIn K (.ref f12) = true)
    (a13 : PySem.W.nsIn K mainGlobals "_law_cell" = some (some (.ref f13))) (l13 : K.lookup f13 = some ⟨oc13, od13, .func (PySem.W.fnOf "_law_cell" "_law_cell" (defArgs s__law_cell) (defBody s__law_cell) (defScope s__law_cell) .none kV13 dc13 pm13 an13 cd13 ct13), sl13⟩) (c13 : PySem.W.codeIn K cd13 "_law_cell" = true) (k13 : PySem.W.keepIn K (.ref f13) = true)
    (a14 : PySem.W.nsIn K mainGlobals "_law_tape" = some (some (.ref f14))) (l14 : K.lookup f14 = some ⟨oc14, od14, .func (PySem.W.fnOf "_law_tape" "_law_tape" (defArgs s__law_tape) (defBody s__law_tape) (defScope s__law_tape) .none kV14 dc14 pm14 an14 cd14 ct14), sl14⟩) (c14 : PySem.W.codeIn K cd14 "_law_tape" = true) (k14 : PySem.W.keepIn K (.ref f14) = true)
    (a15 : PySem.W.nsIn K mainGlobals "_law_take" = some (some (.ref f15))) (l15 : K.lookup f15 = some ⟨oc15, od15, .func (PySem.W.fnOf "_law_take" "_law_take" (defArgs s__law_take) (defBody s__law_take) (defScope s__law_take) .none kV15 dc15 pm15 an15 cd15 ct15), sl15⟩) (c15 : PySem.W.codeIn K cd15 "_law_take" = true) (k15 : PySem.W.keepIn K (.ref f15) = true)
    (a16 : PySem.W.nsIn K mainGlobals "_law_words" = some (some (.ref f16))) (l16 : K.lookup f16 = some ⟨oc16, od16, .func (PySem.W.fnOf "_law_words" "_law_words" (defArgs s__law_words) (defBody s__law_words) (defScope s__law_words) .none kV16 dc16 pm16 an16 cd16 ct16), sl16⟩) (c16 : PySem.W.codeIn K cd16 "_law_words" = true) (k16 : PySem.W.keepIn K (.ref f16) = true)
    (a17 : PySem.W.nsIn K mainGlobals "_law_stock" = some (some (.ref f17))) (l17 : K.lookup f17 = some ⟨oc17, od17, .func (PySem.W.fnOf "_law_stock" "_law_stock" (defArgs s__law_stock) (defBody s__law_stock) (defScope s__law_stock) .none kV17 dc17 pm17 an17 cd17 ct17), sl17⟩) (c17 : PySem.W.codeIn K cd17 "_law_stock" = true) (k17 : PySem.W.keepIn K (.ref f17) = true)
    (a18 : PySem.W.nsIn K mainGlobals "_law_form" = some (some (.ref f18))) (l18 : K.lookup f18 = some ⟨oc18, od18, .func (PySem.W.fnOf "_law_form" "_law_form" (defArgs s__law_form) (defBody s__law_form) (defScope s__law_form) .none kV18 dc18 pm18 an18 cd18 ct18), sl18⟩) (c18 : PySem.W.codeIn K cd18 "_law_form" = true) (k18 : PySem.W.keepIn K (.ref f18) = true)
    (a19 : PySem.W.nsIn K mainGlobals "_law_climb" = some (some (.ref f19))) (l19 : K.lookup f19 = some ⟨oc19, od19, .func (PySem.W.fnOf "_law_climb" "_law_climb" (defArgs s__law_climb) (defBody s__law_climb) (defScope s__law_climb) .none kV19 dc19 pm19 an19 cd19 ct19), sl19⟩) (c19 : PySem.W.codeIn K cd19 "_law_climb" = true) (k19 : PySem.W.keepIn K (.ref f19) = true)
    (a20 : PySem.W.nsIn K mainGlobals "_law_under" = some (some (.ref f20))) (l20 : K.lookup f20 = some ⟨oc20, od20, .func (PySem.W.fnOf "_law_under" "_law_under" (defArgs s__law_under) (defBody s__law_under) (defScope s__law_under) .none kV20 dc20 pm20 an20 cd20 ct20), sl20⟩) (c20 : PySem.W.codeIn K cd20 "_law_under" = true) (k20 : PySem.W.keepIn K (.ref f20) = true)
    (a21 : PySem.W.nsIn K mainGlobals "_law_same" = some (some (.ref f21))) (l21 : K.lookup f21 = some ⟨oc21, od21, .func (PySem.W.fnOf "_law_same" "_law_same" (defArgs s__law_same) (defBody s__law_same) (defScope s__law_same) .none kV21 dc21 pm21 an21 cd21 ct21), sl21⟩) (c21 : PySem.W.codeIn K cd21 "_law_same" = true) (k21 : PySem.W.keepIn K (.ref f21) = true)
    (a22 : PySem.W.nsIn K mainGlobals "_law_best" = some (some (.ref f22))) (l22 : K.lookup f22 = some ⟨oc22, od22, .func (PySem.W.fnOf "_law_best" "_law_best" (defArgs s__law_best) (defBody s__law_best) (defScope s__law_best) .none kV22 dc22 pm22 an22 cd22 ct22), sl22⟩) (c22 : PySem.W.codeIn K cd22 "_law_best" = true) (k22 : PySem.W.keepIn K (.ref f22) = true)
    (a23 : PySem.W.nsIn K mainGlobals "law" = some (some (.ref f23))) (l23 : K.lookup f23 = some ⟨oc23, od23, .func (PySem.W.fnOf "law" "law" (defArgs s_law) (defBody s_law) (defScope s_law) .none kV23 dc23 pm23 an23 cd23 ct23), sl23⟩) (c23 : PySem.W.codeIn K cd23 "law" = true) (k23 : PySem.W.keepIn K (.ref f23) = true)
    (q_LARGE : PySem.W.nsIn K mainGlobals "LARGE" = some (some u_LARGE)) (r_LARGE : RelV (.str "ABCDEFGHIJKLMNOPQRSTUVWXYZ") u_LARGE)
    (q_LONGEST_WORD : PySem.W.nsIn K mainGlobals "LONGEST_WORD" = some (some u_LONGEST_WORD)) (r_LONGEST_WORD : RelV (.int 12) u_LONGEST_WORD)
    (q_MOST_PARTS : PySem.W.nsIn K mainGlobals "MOST_PARTS" = some (some u_MOST_PARTS)) (r_MOST_PARTS : RelV (.int 3) u_MOST_PARTS)
    (q_MOST_WORDS : PySem.W.nsIn K mainGlobals "MOST_WORDS" = some (some u_MOST_WORDS)) (r_MOST_WORDS : RelV (.int 12) u_MOST_WORDS)
    (q_SMALL : PySem.W.nsIn K mainGlobals "SMALL" = some (some u_SMALL)) (r_SMALL : RelV (.str "abcdefghijklmnopqrstuvwxyz") u_SMALL)
    (z_all : PySem.W.nsIn K mainGlobals "all" = some none)
    (z_any : PySem.W.nsIn K mainGlobals "any" = some none)
    (z_dict : PySem.W.nsIn K mainGlobals "dict" = some none)
    (z_int : PySem.W.nsIn K mainGlobals "int" = some none)
    (z_isinstance : PySem.W.nsIn K mainGlobals "isinstance" = some none)
    (z_len : PySem.W.nsIn K mainGlobals "len" = some none)
    (z_list : PySem.W.nsIn K mainGlobals "list" = some none)
    (z_range : PySem.W.nsIn K mainGlobals "range" = some none)
    (z_str : PySem.W.nsIn K mainGlobals "str" = some none)
    (z_tuple : PySem.W.nsIn K mainGlobals "tuple" = some none)
    (xa_BadKind : PySem.W.nsIn K mainGlobals "BadKind" = some (some (.ref C_BadKind))) (xe_BadKind : PySem.W.excIn K C_BadKind [.type "ValueError", .type "Exception", .type "BaseException", .type "object"] "ValueError.__new__" = true) (xk_BadKind : PySem.W.keepIn K (.ref C_BadKind) = true) (xb_BadKind : PySem.W.subIn K (.ref C_BadKind) (.type "BaseException") = some true) (xt_BadKind : PySem.W.typeIn K (.ref C_BadKind) = some (.type "type"))
    (xa_NotesError : PySem.W.nsIn K mainGlobals "NotesError" = some (some (.ref C_NotesError)))
    (xa_Stock : PySem.W.nsIn K mainGlobals "Stock" = some (some (.ref C_Stock)))
    (xa_Kind : PySem.W.nsIn K mainGlobals "Kind" = some (some (.ref C_Kind)))
    (y0_0 : PySem.W.findIn K (.ref C_Kind) "__class__" = some (some (.builtin "object.__class__")))
    (y0_1 : PySem.W.specialIn K (.builtin "object.__class__") "__get__" = some (some (.builtin "getset_descriptor.__get__")))
    (y0_2 : PySem.W.takesIn K (.builtin "object.__class__") = some true)
    (y0_3 : PySem.W.mroIn K C_Kind (.type "object") = some true)
    (y1 : PySem.W.kitOne K (.ref C_Kind) (.ref C_Kind) = some true)
    (c1_Stock : PySem.W.plainGet K C_Stock Str.empty = true)
    (c2_Stock : PySem.W.hasDictIn K C_Stock = true)
    (c3_Stock : PySem.W.plainOver K C_Stock = true)
    (c4_Stock : PySem.W.findIn K (.ref C_Stock) "__setattr__" = some (some (.builtin "object.__setattr__")))
    (nf_Stock_shapes : PySem.W.findIn K (.ref C_Stock) "shapes" = some none)
    (nf_Stock_above : PySem.W.findIn K (.ref C_Stock) "above" = some none)
    (l_Stock___init__ : K.lookup f_Stock___init__ = some ⟨oc_Stock___init__, od_Stock___init__, .func (PySem.W.fnOf "__init__" "Stock.__init__" (defArgs s_Stock___init__) (defBody s_Stock___init__) (defScope s_Stock___init__) (.ref T_Stock___init__) kV_Stock___init__ dc_Stock___init__ pm_Stock___init__ an_Stock___init__ cd_Stock___init__ ct_Stock___init__), sl_Stock___init__⟩) (cc_Stock___init__ : PySem.W.codeIn K cd_Stock___init__ "Stock.__init__" = true) (kp_Stock___init__ : PySem.W.keepIn K (.ref f_Stock___init__) = true)
    (dt_Stock___init__ : K.lookup T_Stock___init__ = some ⟨toc_Stock___init__, tod_Stock___init__, .seq [Value.none].toArray tn_Stock___init__, tsl_Stock___init__⟩)
    (mk_Stock___init__ : PySem.W.makesIn K C_Stock = true)
    (mi_Stock___init__ : PySem.W.findIn K (.ref C_Stock) "__init__" = some (some (.ref f_Stock___init__)))
    (mf_Stock___init__ : PySem.W.isFn K (.ref f_Stock___init__) = true)
    (mk2_Stock___init__ : PySem.W.keepIn K (.ref C_Stock) = true)
    (c1_Kind : PySem.W.plainGet K C_Kind Str.empty = true)
    (c2_Kind : PySem.W.hasDictIn K C_Kind = true)
    (c3_Kind : PySem.W.plainOver K C_Kind = true)
    (c4_Kind : PySem.W.findIn K (.ref C_Kind) "__setattr__" = some (some (.builtin "object.__setattr__")))
    (nf_Kind_stock : PySem.W.findIn K (.ref C_Kind) "stock" = some none)
    (nf_Kind_row : PySem.W.findIn K (.ref C_Kind) "row" = some none)
    (ns_Kind : PySem.W.noSeq K C_Kind = true)
    (sf_Kind : PySem.W.selfFirst K C_Kind = true)
    (l_Kind___init__ : K.lookup f_Kind___init__ = some ⟨oc_Kind___init__, od_Kind___init__, .func (PySem.W.fnOf "__init__" "Kind.__init__" (defArgs s_Kind___init__) (defBody s_Kind___init__) (defScope s_Kind___init__) .none kV_Kind___init__ dc_Kind___init__ pm_Kind___init__ an_Kind___init__ cd_Kind___init__ ct_Kind___init__), sl_Kind___init__⟩) (cc_Kind___init__ : PySem.W.codeIn K cd_Kind___init__ "Kind.__init__" = true) (kp_Kind___init__ : PySem.W.keepIn K (.ref f_Kind___init__) = true)
    (mk_Kind___init__ : PySem.W.makesIn K C_Kind = true)
    (mi_Kind___init__ : PySem.W.findIn K (.ref C_Kind) "__init__" = some (some (.ref f_Kind___init__)))
    (mf_Kind___init__ : PySem.W.isFn K (.ref f_Kind___init__) = true)
    (mk2_Kind___init__ : PySem.W.keepIn K (.ref C_Kind) = true)
    (l_Kind___or__ : K.lookup f_Kind___or__ = some ⟨oc_Kind___or__, od_Kind___or__, .func (PySem.W.fnOf "__or__" "Kind.__or__" (defArgs s_Kind___or__) (defBody s_Kind___or__) (defScope s_Kind___or__) .none kV_Kind___or__ dc_Kind___or__ pm_Kind___or__ an_Kind___or__ cd_Kind___or__ ct_Kind___or__), sl_Kind___or__⟩) (cc_Kind___or__ : PySem.W.codeIn K cd_Kind___or__ "Kind.__or__" = true) (kp_Kind___or__ : PySem.W.keepIn K (.ref f_Kind___or__) = true)
    (ma_Kind___or__ : PySem.W.findIn K (.ref C_Kind) "__or__" = some (some (.ref f_Kind___or__)))
    (mf_Kind___or__ : PySem.W.isFn K (.ref f_Kind___or__) = true)
    (l_Kind___and__ : K.lookup f_Kind___and__ = some ⟨oc_Kind___and__, od_Kind___and__, .func (PySem.W.fnOf "__and__" "Kind.__and__" (defArgs s_Kind___and__) (defBody s_Kind___and__) (defScope s_Kind___and__) .none kV_Kind___and__ dc_Kind___and__ pm_Kind___and__ an_Kind___and__ cd_Kind___and__ ct_Kind___and__), sl_Kind___and__⟩) (cc_Kind___and__ : PySem.W.codeIn K cd_Kind___and__ "Kind.__and__" = true) (kp_Kind___and__ : PySem.W.keepIn K (.ref f_Kind___and__) = true)
    (ma_Kind___and__ : PySem.W.findIn K (.ref C_Kind) "__and__" = some (some (.ref f_Kind___and__)))
    (mf_Kind___and__ : PySem.W.isFn K (.ref f_Kind___and__) = true) :
    ∃ fd : FuncData, (∀ (s : Shared) (v : Value), BindsTo s fd ⟨[v], []⟩ [("_law_script", v)]) ∧ ∀ base : Heap, K.In base → base.Ns mainGlobals mg → FnOk l.prog w K mg base CX0 15 fa fd ["_law_script"] (spLaw K) := by
  have e := hfa.symm.trans (PySem.W.mg_of X G a23)
  cases e
  have FL := fun_mk (st := s_law) l23 c23 k23
  have F_is_word : Fz K mg "is_word" s_is_word P_is_word := ⟨f1, _, fun_mk (st := s_is_word) l1 c1 k1, PySem.W.mg_of X G a1, (fun_mk (st := s_is_word) l1 c1 k1).binds (ps := P_is_word) fun _ _ _ _ _ _ us hl => match us, hl with | [_], _ => rfl⟩
  have F_is_letter : Fz K mg "is_letter" s_is_letter P_is_letter := ⟨f2, _, fun_mk (st := s_is_letter) l2 c2 k2, PySem.W.mg_of X G a2, (fun_mk (st := s_is_letter) l2 c2 k2).binds (ps := P_is_letter) fun _ _ _ _ _ _ us hl => match us, hl with | [_], _ => rfl⟩
  have F_is_form : Fz K mg "is_form" s_is_form P_is_form := ⟨f3, _, fun_mk (st := s_is_form) l3 c3 k3, PySem.W.mg_of X G a3, (fun_mk (st := s_is_form) l3 c3 k3).binds (ps := P_is_form) fun _ _ _ _ _ _ us hl => match us, hl with | [_], _ => rfl⟩
  have F_has_letters : Fz K mg "has_letters" s_has_letters P_has_letters := ⟨f4, _, fun_mk (st := s_has_letters) l4 c4 k4, PySem.W.mg_of X G a4, (fun_mk (st := s_has_letters) l4 c4 k4).binds (ps := P_has_letters) fun _ _ _ _ _ _ us hl => match us, hl with | [_], _ => rfl⟩
  have F_fits_shapes : Fz K mg "fits_shapes" s_fits_shapes P_fits_shapes := ⟨f5, _, fun_mk (st := s_fits_shapes) l5 c5 k5, PySem.W.mg_of X G a5, (fun_mk (st := s_fits_shapes) l5 c5 k5).binds (ps := P_fits_shapes) fun _ _ _ _ _ _ us hl => match us, hl with | [_, _], _ => rfl⟩
  have F_is_kind : Fz K mg "is_kind" s_is_kind P_is_kind := ⟨f6, _, fun_mk (st := s_is_kind) l6 c6 k6, PySem.W.mg_of X G a6, (fun_mk (st := s_is_kind) l6 c6 k6).binds (ps := P_is_kind) fun _ _ _ _ _ _ us hl => match us, hl with | [_, _], _ => rfl⟩
  have F_leads_back : Fz K mg "leads_back" s_leads_back P_leads_back := ⟨f7, _, fun_mk (st := s_leads_back) l7 c7 k7, PySem.W.mg_of X G a7, (fun_mk (st := s_leads_back) l7 c7 k7).binds (ps := P_leads_back) fun _ _ _ _ _ _ us hl => match us, hl with | [_], _ => rfl⟩
  have F_sound_shapes : Fz K mg "sound_shapes" s_sound_shapes P_sound_shapes := ⟨f8, _, fun_mk (st := s_sound_shapes) l8 c8 k8, PySem.W.mg_of X G a8, (fun_mk (st := s_sound_shapes) l8 c8 k8).binds (ps := P_sound_shapes) fun _ _ _ _ _ _ us hl => match us, hl with | [_], _ => rfl⟩
  have F_sound_order : Fz K mg "sound_order" s_sound_order P_sound_order := ⟨f9, _, fun_mk (st := s_sound_order) l9 c9 k9, PySem.W.mg_of X G a9, (fun_mk (st := s_sound_order) l9 c9 k9).binds (ps := P_sound_order) fun _ _ _ _ _ _ us hl => match us, hl with | [_, _], _ => rfl⟩
  have F_uppers : Fz K mg "uppers" s_uppers P_uppers := ⟨f10, _, fun_mk (st := s_uppers) l10 c10 k10, PySem.W.mg_of X G a10, (fun_mk (st := s_uppers) l10 c10 k10).binds (ps := P_uppers) fun _ _ _ _ _ _ us hl => match us, hl with | [_, _], _ => rfl⟩
  have F_base_between : Fz K mg "base_between" s_base_between P_base_between := ⟨f11, _, fun_mk (st := s_base_between) l11 c11 k11, PySem.W.mg_of X G a11, (fun_mk (st := s_base_between) l11 c11 k11).binds (ps := P_base_between) fun _ _ _ _ _ _ us hl => match us, hl with | [_, _, _, _], _ => rfl⟩
  have F_between : Fz K mg "between" s_between P_between := ⟨f12, _, fun_mk (st := s_between) l12 c12 k12, PySem.W.mg_of X G a12, (fun_mk (st := s_between) l12 c12 k12).binds (ps := P_between) fun _ _ _ _ _ _ us hl => match us, hl with | [_, _, _, _], _ => rfl⟩
  have F__law_cell : Fz K mg "_law_cell" s__law_cell P__law_cell := ⟨f13, _, fun_mk (st := s__law_cell) l13 c13 k13, PySem.W.mg_of X G a13, (fun_mk (st := s__law_cell) l13 c13 k13).binds (ps := P__law_cell) fun _ _ _ _ _ _ us hl => match us, hl with | [_, _], _ => rfl⟩
  have F__law_tape : Fz K mg "_law_tape" s__law_tape P__law_tape := ⟨f14, _, fun_mk (st := s__law_tape) l14 c14 k14, PySem.W.mg_of X G a14, (fun_mk (st := s__law_tape) l14 c14 k14).binds (ps := P__law_tape) fun _ _ _ _ _ _ us hl => match us, hl with | [_, _, _], _ => rfl⟩
  have F__law_take : Fz K mg "_law_take" s__law_take P__law_take := ⟨f15, _, fun_mk (st := s__law_take) l15 c15 k15, PySem.W.mg_of X G a15, (fun_mk (st := s__law_take) l15 c15 k15).binds (ps := P__law_take) fun _ _ _ _ _ _ us hl => match us, hl with | [_, _], _ => rfl⟩
  have F__law_words : Fz K mg "_law_words" s__law_words P__law_words := ⟨f16, _, fun_mk (st := s__law_words) l16 c16 k16, PySem.W.mg_of X G a16, (fun_mk (st := s__law_words) l16 c16 k16).binds (ps := P__law_words) fun _ _ _ _ _ _ us hl => match us, hl with | [_, _], _ => rfl⟩
  have F__law_stock : Fz K mg "_law_stock" s__law_stock P__law_stock := ⟨f17, _, fun_mk (st := s__law_stock) l17 c17 k17, PySem.W.mg_of X G a17, (fun_mk (st := s__law_stock) l17 c17 k17).binds (ps := P__law_stock) fun _ _ _ _ _ _ us hl => match us, hl with | [_, _, _], _ => rfl⟩
  have F__law_form : Fz K mg "_law_form" s__law_form P__law_form := ⟨f18, _, fun_mk (st := s__law_form) l18 c18 k18, PySem.W.mg_of X G a18, (fun_mk (st := s__law_form) l18 c18 k18).binds (ps := P__law_form) fun _ _ _ _ _ _ us hl => match us, hl with | [_, _, _, _], _ => rfl⟩
  have F__law_climb : Fz K mg "_law_climb" s__law_climb P__law_climb := ⟨f19, _, fun_mk (st := s__law_climb) l19 c19 k19, PySem.W.mg_of X G a19, (fun_mk (st := s__law_climb) l19 c19 k19).binds (ps := P__law_climb) fun _ _ _ _ _ _ us hl => match us, hl with | [_, _], _ => rfl⟩
  have F__law_under : Fz K mg "_law_under" s__law_under P__law_under := ⟨f20, _, fun_mk (st := s__law_under) l20 c20 k20, PySem.W.mg_of X G a20, (fun_mk (st := s__law_under) l20 c20 k20).binds (ps := P__law_under) fun _ _ _ _ _ _ us hl => match us, hl with | [_, _, _, _], _ => rfl⟩
  have F__law_same : Fz K mg "_law_same" s__law_same P__law_same := ⟨f21, _, fun_mk (st := s__law_same) l21 c21 k21, PySem.W.mg_of X G a21, (fun_mk (st := s__law_same) l21 c21 k21).binds (ps := P__law_same) fun _ _ _ _ _ _ us hl => match us, hl with | [_, _], _ => rfl⟩
  have F__law_best : Fz K mg "_law_best" s__law_best P__law_best := ⟨f22, _, fun_mk (st := s__law_best) l22 c22 k22, PySem.W.mg_of X G a22, (fun_mk (st := s__law_best) l22 c22 k22).binds (ps := P__law_best) fun _ _ _ _ _ _ us hl => match us, hl with | [_, _, _, _, _], _ => rfl⟩
  have cn_LARGE : ∃ u, mg "LARGE" = some u ∧ RelV (.str "ABCDEFGHIJKLMNOPQRSTUVWXYZ") u := ⟨u_LARGE, PySem.W.mg_of X G q_LARGE, r_LARGE⟩
  have cn_LONGEST_WORD : ∃ u, mg "LONGEST_WORD" = some u ∧ RelV (.int 12) u := ⟨u_LONGEST_WORD, PySem.W.mg_of X G q_LONGEST_WORD, r_LONGEST_WORD⟩
  have cn_MOST_PARTS : ∃ u, mg "MOST_PARTS" = some u ∧ RelV (.int 3) u := ⟨u_MOST_PARTS, PySem.W.mg_of X G q_MOST_PARTS, r_MOST_PARTS⟩
  have cn_MOST_WORDS : ∃ u, mg "MOST_WORDS" = some u ∧ RelV (.int 12) u := ⟨u_MOST_WORDS, PySem.W.mg_of X G q_MOST_WORDS, r_MOST_WORDS⟩
  have cn_SMALL : ∃ u, mg "SMALL" = some u ∧ RelV (.str "abcdefghijklmnopqrstuvwxyz") u := ⟨u_SMALL, PySem.W.mg_of X G q_SMALL, r_SMALL⟩
  have bn_all : mg "all" = none := PySem.W.mg_none_of X G z_all
  have bn_any : mg "any" = none := PySem.W.mg_none_of X G z_any
  have bn_dict : mg "dict" = none := PySem.W.mg_none_of X G z_dict
  have bn_int : mg "int" = none := PySem.W.mg_none_of X G z_int
  have bn_isinstance : mg "isinstance" = none := PySem.W.mg_none_of X G z_isinstance
  have bn_len : mg "len" = none := PySem.W.mg_none_of X G z_len
  have bn_list : mg "list" = none := PySem.W.mg_none_of X G z_list
  have bn_range : mg "range" = none := PySem.W.mg_none_of X G z_range
  have bn_str : mg "str" = none := PySem.W.mg_none_of X G z_str
  have bn_tuple : mg "tuple" = none := PySem.W.mg_none_of X G z_tuple
  have en_BadKind : ExcF K mg "BadKind" := by
    have g := PySem.W.mg_of X G xa_BadKind
    have e := clsA_of g
    exact ⟨by rw [e]; exact g, by rw [e]; exact xe_BadKind, by rw [e]; exact xk_BadKind, by rw [e]; exact xb_BadKind, by rw [e]; exact xt_BadKind⟩
  have ce_NotesError : clsA mg "NotesError" = C_NotesError := clsA_of (PySem.W.mg_of X G xa_NotesError)
  have gn_NotesError : mg "NotesError" = some (.ref (clsA mg "NotesError")) := by rw [ce_NotesError]; exact PySem.W.mg_of X G xa_NotesError
  have ce_BadKind : clsA mg "BadKind" = C_BadKind := clsA_of (PySem.W.mg_of X G xa_BadKind)
  have gn_BadKind : mg "BadKind" = some (.ref (clsA mg "BadKind")) := by rw [ce_BadKind]; exact PySem.W.mg_of X G xa_BadKind
  have ce_Stock : clsA mg "Stock" = C_Stock := clsA_of (PySem.W.mg_of X G xa_Stock)
  have gn_Stock : mg "Stock" = some (.ref (clsA mg "Stock")) := by rw [ce_Stock]; exact PySem.W.mg_of X G xa_Stock
  have ce_Kind : clsA mg "Kind" = C_Kind := clsA_of (PySem.W.mg_of X G xa_Kind)
  have gn_Kind : mg "Kind" = some (.ref (clsA mg "Kind")) := by rw [ce_Kind]; exact PySem.W.mg_of X G xa_Kind
  have rn1 : PySem.W.kitOne K (.ref (clsA mg "Kind")) (.ref (clsA mg "Kind")) = some true := by rw [ce_Kind]; exact y1
  have ko_Stock : Cls K (clsA mg "Stock") := by rw [ce_Stock]; exact ⟨c1_Stock, c2_Stock, c3_Stock, c4_Stock⟩
  have fo_Stock_shapes : Fd K (clsA mg "Stock") "shapes" := ⟨ko_Stock, by rw [ce_Stock]; exact nf_Stock_shapes⟩
  have fo_Stock_above : Fd K (clsA mg "Stock") "above" := ⟨ko_Stock, by rw [ce_Stock]; exact nf_Stock_above⟩
  have fu_Stock___init__ : FunD K "__init__" "Stock.__init__" (defArgs s_Stock___init__) (defBody s_Stock___init__) (defScope s_Stock___init__) [.non] [] f_Stock___init__ _ := ⟨⟨_, _, _, _, _, _, _, _, _, _, rfl, l_Stock___init__, cc_Stock___init__, (.inr ⟨by simp, T_Stock___init__, _, _, _, rfl, dt_Stock___init__, rfl, (.cons rfl .nil)⟩), .inl rfl⟩, kp_Stock___init__⟩
  have bb_Stock___init__2 := FunD.binds1 (ps := P_Stock___init__) fu_Stock___init__ 3 1 (by simp) rfl fun T kV doc pm an cdv ct us its hl hi => by
    match us, hl, its, hi with
    | [_, _, _], _, [_], _ => exact ⟨_, rfl, rfl⟩
  have Z_Stock2 : Kz K (clsA mg "Stock") "Stock.__init__" s_Stock___init__ P_Stock___init__ [] := by rw [ce_Stock]; exact ⟨f_Stock___init__, _, _, ⟨_, _, fu_Stock___init__⟩, ⟨mk_Stock___init__, mi_Stock___init__, mf_Stock___init__, mk2_Stock___init__⟩, bb_Stock___init__2.choose_spec.2, bb_Stock___init__2.choose_spec.1⟩
  have ko_Kind : Cls K (clsA mg "Kind") := by rw [ce_Kind]; exact ⟨c1_Kind, c2_Kind, c3_Kind, c4_Kind⟩
  have fo_Kind_stock : Fd K (clsA mg "Kind") "stock" := ⟨ko_Kind, by rw [ce_Kind]; exact nf_Kind_stock⟩
  have fo_Kind_row : Fd K (clsA mg "Kind") "row" := ⟨ko_Kind, by rw [ce_Kind]; exact nf_Kind_row⟩
  have so_Kind : PySem.W.noSeq K (clsA mg "Kind") = true := by rw [ce_Kind]; exact ns_Kind
  have sfo_Kind : PySem.W.selfFirst K (clsA mg "Kind") = true := by rw [ce_Kind]; exact sf_Kind
  have fu_Kind___init__ : FunD K "__init__" "Kind.__init__" (defArgs s_Kind___init__) (defBody s_Kind___init__) (defScope s_Kind___init__) [] [] f_Kind___init__ _ := ⟨⟨_, _, _, _, _, _, _, _, _, _, rfl, l_Kind___init__, cc_Kind___init__, (.inl ⟨rfl, rfl⟩), .inl rfl⟩, kp_Kind___init__⟩
  have Z_Kind2 : Kz K (clsA mg "Kind") "Kind.__init__" s_Kind___init__ P_Kind___init__ [] := by rw [ce_Kind]; exact ⟨f_Kind___init__, _, _, ⟨_, _, fu_Kind___init__⟩, ⟨mk_Kind___init__, mi_Kind___init__, mf_Kind___init__, mk2_Kind___init__⟩, (FunD.bindsN fu_Kind___init__ fun _ _ _ _ _ _ us hl => match us, hl with | [_, _, _], _ => rfl), .nil⟩
  have fu_Kind___or__ : FunD K "__or__" "Kind.__or__" (defArgs s_Kind___or__) (defBody s_Kind___or__) (defScope s_Kind___or__) [] [] f_Kind___or__ _ := ⟨⟨_, _, _, _, _, _, _, _, _, _, rfl, l_Kind___or__, cc_Kind___or__, (.inl ⟨rfl, rfl⟩), .inl rfl⟩, kp_Kind___or__⟩
  have Z_Kind___or__ : Mz K (clsA mg "Kind") "__or__" "Kind.__or__" s_Kind___or__ P_Kind___or__ [] := by rw [ce_Kind]; exact ⟨f_Kind___or__, _, _, ⟨_, _, fu_Kind___or__⟩, ⟨ma_Kind___or__, mf_Kind___or__, kp_Kind___or__⟩, FunD.bindsN fu_Kind___or__ fun _ _ _ _ _ _ us hl => match us, hl with | [_, _], _ => rfl, .nil⟩
  have fu_Kind___and__ : FunD K "__and__" "Kind.__and__" (defArgs s_Kind___and__) (defBody s_Kind___and__) (defScope s_Kind___and__) [] [] f_Kind___and__ _ := ⟨⟨_, _, _, _, _, _, _, _, _, _, rfl, l_Kind___and__, cc_Kind___and__, (.inl ⟨rfl, rfl⟩), .inl rfl⟩, kp_Kind___and__⟩
  have Z_Kind___and__ : Mz K (clsA mg "Kind") "__and__" "Kind.__and__" s_Kind___and__ P_Kind___and__ [] := by rw [ce_Kind]; exact ⟨f_Kind___and__, _, _, ⟨_, _, fu_Kind___and__⟩, ⟨ma_Kind___and__, mf_Kind___and__, kp_Kind___and__⟩, FunD.bindsN fu_Kind___and__ fun _ _ _ _ _ _ us hl => match us, hl with | [_, _], _ => rfl, .nil⟩
  have rn0 : InsK K (clsA mg "Kind") := ⟨ko_Kind, by rw [ce_Kind]; exact y0_0, y0_1, y0_2, by rw [ce_Kind]; exact y0_3⟩
  have T := (⟨bn_all, bn_any, bn_dict, bn_int, bn_isinstance, bn_len, bn_list, bn_range, bn_str, bn_tuple, cn_LARGE, cn_LONGEST_WORD, cn_MOST_PARTS, cn_MOST_WORDS, cn_SMALL, en_BadKind, gn_NotesError, gn_BadKind, gn_Stock, gn_Kind, rn0, rn1, ko_Stock, fo_Stock_shapes, fo_Stock_above, ko_Kind, fo_Kind_stock, fo_Kind_row, so_Kind, sfo_Kind⟩ : Txt K mg)
  refine ⟨PySem.W.fnOf "law" "law" (defArgs s_law) (defBody s_law) (defScope s_law) .none kV23 dc23 pm23 an23 cd23 ct23, fun s v => .of_eq rfl, fun base _ _ => ?_⟩
  have G1 := okD__law_take (P := l.prog) (w := w) (base := base) F__law_take T
  have G2 := ok__law_cell (P := l.prog) (w := w) (base := base) F__law_cell T
  have G3 := okD__law_tape F__law_tape T G2
  have G4 := ok__law_words F__law_words T G1
  have G5 := ok__law_stock F__law_stock T G1 G4
  have G7 := ok__law_form F__law_form T G1 1
  have I1 := ok_is_word (P := l.prog) (w := w) (base := base) F_is_word T
  have I2 := ok_is_letter (P := l.prog) (w := w) (base := base) F_is_letter T
  have I3 := ok_is_form F_is_form T I1 I2 6
  have I4 := ok_fits_shapes F_fits_shapes T I2 6
  have I5 := ok_sound_shapes F_sound_shapes T I1
  have I6 := ok_leads_back (P := l.prog) (w := w) (base := base) F_leads_back T
  have I7 := ok_sound_order F_sound_order T I6
  have H8 := ok_has_letters F_has_letters T I2 6
  have I9 := ok_is_kind F_is_kind T I3 H8 I4
  have C2 := ok_mkStock2 Z_Stock2 T I5 I7
  have U1 := ok_uppers (P := l.prog) (w := w) (base := base) F_uppers T
  have U2 := ok_base_between F_base_between T U1
  have U3 := ok_between F_between T U2 2
  have K2 := ok_mkKind Z_Kind2 T I9
  have K3 := ok_kor Z_Kind___or__ T (by decide) U3 K2
  have K4 := ok_kand Z_Kind___and__ T (by decide) U3 K2
  have L1 := ok__law_climb (P := l.prog) (w := w) (base := base) F__law_climb T
  have L2 := ok__law_under F__law_under T L1 2
  have L3 := ok__law_same (P := l.prog) (w := w) (base := base) F__law_same T 2
  have L4 := ok__law_best F__law_best T 2 L2
  exact ok_law FL T G3 G1 G5 G7 L3 L2 L4 C2 K2 K3 K4
theorem walk {l : PySem.W.OpenLaw} {q : Program} {loose : List Str} {XP : (Str → Option Value) → Heap → Prop} {YP : World → Heap → Prop} {d : DefRec} {K : Params → PySem.W.Frag} (hn : l.most = some 63) (hdf : d.params.defaults = [])
    (hY : ∀ (w : World) (h : Heap), YP w h → (K w.params).In h)
    (F : ∀ (w : World) (mg : Str → Option Value) (fa : Addr) (h : Heap), (K w.params).In h → h.Ns mainGlobals mg → mg d.name = some (.ref fa) →
      ∃ fd : FuncData, (∀ (s : Shared) (u : Value), BindsTo s fd ⟨[u], []⟩ [("_law_script", u)]) ∧ ∀ base : Heap, (K w.params).In base → base.Ns mainGlobals mg → FnOk l.prog w (K w.params) mg base CX0 15 fa fd ["_law_script"] (spLaw (K w.params))) :
    PySem.W.WalkO q loose XP YP l.row.toRowW d [] (fun f vs => PySem.call f vs) :=
  L2.walk_of (n := 63) (k := 15) (x := "_law_script") (CX := fun _ => CX0) (sp := fun w => spLaw (K w.params)) hn (by decide) hdf ⟨rfl, by decide, by decide⟩ hY F (fun _ _ a ns hl _ hS => ⟨a, ns, rfl, hS, hl, fun _ => rfl⟩) fun _ _ _ _ _ z => z
end Kn

set_option synthInstance.maxHeartbeats 0
set_option synthInstance.maxSize 100000
set_option Elab.async false
set_option maxRecDepth 100000
set_option linter.all false
open PySem PySem.W PyProof.Rows
set_option maxRecDepth 100000 in
set_option maxHeartbeats 0 in
theorem PySem.Challenge.cw_kindnotes_k05_least_kind_over_both_holds : PySem.Challenge.rw_kindnotes_k05_least_kind_over_both.Holds := by
  w_on; o_law; k_head; (case hw => w_witness2)
  k_fill
  refine Kn.walk (l := PySem.Challenge.rw_kindnotes_k05_least_kind_over_both) rfl rfl (fun w h Y => PySem.W.kIn_of Y) ?F
  case F =>
    intro w mg fa h KX G hmg
    refine' Kn.all_mk KX G hmg ?a1 ?l1 ?c1 ?k1 ?a2 ?l2 ?c2 ?k2 ?a3 ?l3 ?c3 ?k3 ?a4 ?l4 ?c4 ?k4 ?a5 ?l5 ?c5 ?k5 ?a6 ?l6 ?c6 ?k6 ?a7 ?l7 ?c7 ?k7 ?a8 ?l8 ?c8 ?k8 ?a9 ?l9 ?c9 ?k9 ?a10 ?l10 ?c10 ?k10 ?a11 ?l11 ?c11 ?k11 ?a12 ?l12 ?c12 ?k12 ?a13 ?l13 ?c13 ?k13 ?a14 ?l14 ?c14 ?k14 ?a15 ?l15 ?c15 ?k15 ?a16 ?l16 ?c16 ?k16 ?a17 ?l17 ?c17 ?k17 ?a18 ?l18 ?c18 ?k18 ?a19 ?l19 ?c19 ?k19 ?a20 ?l20 ?c20 ?k20 ?a21 ?l21 ?c21 ?k21 ?a22 ?l22 ?c22 ?k22 ?a23 ?l23 ?c23 ?k23 ?q_LARGE ?r_LARGE ?q_LONGEST_WORD ?r_LONGEST_WORD ?q_MOST_PARTS ?r_MOST_PARTS ?q_MOST_WORDS ?r_MOST_WORDS ?q_SMALL ?r_SMALL ?z_all ?z_any ?z_dict ?z_int ?z_isinstance ?z_len ?z_list ?z_range ?z_str ?z_tuple ?xa_BadKind ?xe_BadKind ?xk_BadKind ?xb_BadKind ?xt_BadKind ?xa_NotesError ?xa_Stock ?xa_Kind ?y0_0 ?y0_1 ?y0_2 ?y0_3 ?y1 ?c1_Stock ?c2_Stock ?c3_Stock ?c4_Stock ?nf_Stock_shapes ?nf_Stock_above ?l_Stock___init__ ?cc_Stock___init__ ?kp_Stock___init__ ?dt_Stock___init__ ?mk_Stock___init__ ?mi_Stock___init__ ?mf_Stock___init__ ?mk2_Stock___init__ ?c1_Kind ?c2_Kind ?c3_Kind ?c4_Kind ?nf_Kind_stock ?nf_Kind_row ?ns_Kind ?sf_Kind ?l_Kind___init__ ?cc_Kind___init__ ?kp_Kind___init__ ?mk_Kind___init__ ?mi_Kind___init__ ?mf_Kind___init__ ?mk2_Kind___init__ ?l_Kind___or__ ?cc_Kind___or__ ?kp_Kind___or__ ?ma_Kind___or__ ?mf_Kind___or__ ?l_Kind___and__ ?cc_Kind___and__ ?kp_Kind___and__ ?ma_Kind___and__ ?mf_Kind___and__
    (case a1 => k_is)
    (case l1 => k_is)
    (case c1 => k_is)
    (case k1 => k_is)
    (case a2 => k_is)
    (case l2 => k_is)
    (case c2 => k_is)
    (case k2 => k_is)
    (case a3 => k_is)
    (case l3 => k_is)
    (case c3 => k_is)
    (case k3 => k_is)
    (case a4 => k_is)
    (case l4 => k_is)
    (case c4 => k_is)
    (case k4 => k_is)
    (case a5 => k_is)
    (case l5 => k_is)
    (case c5 => k_is)
    (case k5 => k_is)
    (case a6 => k_is)
    (case l6 => k_is)
    (case c6 => k_is)
    (case k6 => k_is)
    (case a7 => k_is)
    (case l7 => k_is)
    (case c7 => k_is)
    (case k7 => k_is)
    (case a8 => k_is)
    (case l8 => k_is)
    (case c8 => k_is)
    (case k8 => k_is)
    (case a9 => k_is)
    (case l9 => k_is)
    (case c9 => k_is)
    (case k9 => k_is)
    (case a10 => k_is)
    (case l10 => k_is)
    (case c10 => k_is)
    (case k10 => k_is)
    (case a11 => k_is)
    (case l11 => k_is)
    (case c11 => k_is)
    (case k11 => k_is)
    (case a12 => k_is)
    (case l12 => k_is)
    (case c12 => k_is)
    (case k12 => k_is)
    (case a13 => k_is)
    (case l13 => k_is)
    (case c13 => k_is)
    (case k13 => k_is)
    (case a14 => k_is)
    (case l14 => k_is)
    (case c14 => k_is)
    (case k14 => k_is)
    (case a15 => k_is)
    (case l15 => k_is)
    (case c15 => k_is)
    (case k15 => k_is)
    (case a16 => k_is)
    (case l16 => k_is)
    (case c16 => k_is)
    (case k16 => k_is)
    (case a17 => k_is)
    (case l17 => k_is)
    (case c17 => k_is)
    (case k17 => k_is)
    (case a18 => k_is)
    (case l18 => k_is)
    (case c18 => k_is)
    (case k18 => k_is)
    (case a19 => k_is)
    (case l19 => k_is)
    (case c19 => k_is)
    (case k19 => k_is)
    (case a20 => k_is)
    (case l20 => k_is)
    (case c20 => k_is)
    (case k20 => k_is)
    (case a21 => k_is)
    (case l21 => k_is)
    (case c21 => k_is)
    (case k21 => k_is)
    (case a22 => k_is)
    (case l22 => k_is)
    (case c22 => k_is)
    (case k22 => k_is)
    (case a23 => k_is)
    (case l23 => k_is)
    (case c23 => k_is)
    (case k23 => k_is)
    (case q_LARGE => k_is)
    (case r_LARGE => exact ⟨_, rfl⟩)
    (case q_LONGEST_WORD => k_is)
    (case r_LONGEST_WORD => exact ⟨_, rfl⟩)
    (case q_MOST_PARTS => k_is)
    (case r_MOST_PARTS => exact ⟨_, rfl⟩)
    (case q_MOST_WORDS => k_is)
    (case r_MOST_WORDS => exact ⟨_, rfl⟩)
    (case q_SMALL => k_is)
    (case r_SMALL => exact ⟨_, rfl⟩)
    (case z_all => k_is)
    (case z_any => k_is)
    (case z_dict => k_is)
    (case z_int => k_is)
    (case z_isinstance => k_is)
    (case z_len => k_is)
    (case z_list => k_is)
    (case z_range => k_is)
    (case z_str => k_is)
    (case z_tuple => k_is)
    (case xa_BadKind => k_is)
    (case xe_BadKind => k_exc)
    (case xk_BadKind => k_is)
    (case xb_BadKind => k_is)
    (case xt_BadKind => k_is)
    (case xa_NotesError => k_is)
    (case xa_Stock => k_is)
    (case xa_Kind => k_is)
    (case y0_0 => k_is)
    (case y0_1 => k_is)
    (case y0_2 => k_is)
    (case y0_3 => k_is)
    (case y1 => first | k_is | rfl | decide +kernel)
    (case c1_Stock => k_is)
    (case c2_Stock => k_is)
    (case c3_Stock => k_is)
    (case c4_Stock => k_is)
    (case c1_Kind => k_is)
    (case c2_Kind => k_is)
    (case c3_Kind => k_is)
    (case c4_Kind => k_is)
    (case ns_Kind => k_is)
    (case sf_Kind => k_is)
    (case mi_Stock___init__ => k_is)
    (case mi_Kind___init__ => k_is)
    (case ma_Kind___or__ => k_is)
    (case ma_Kind___and__ => k_is)
    (case nf_Stock_shapes => k_is)
    (case nf_Stock_above => k_is)
    (case l_Stock___init__ => k_is)
    (case cc_Stock___init__ => k_is)
    (case kp_Stock___init__ => k_is)
    (case dt_Stock___init__ => k_is)
    (case mk_Stock___init__ => k_is)
    (case mf_Stock___init__ => k_is)
    (case mk2_Stock___init__ => k_is)
    (case nf_Kind_stock => k_is)
    (case nf_Kind_row => k_is)
    (case l_Kind___init__ => k_is)
    (case cc_Kind___init__ => k_is)
    (case kp_Kind___init__ => k_is)
    (case mk_Kind___init__ => k_is)
    (case mf_Kind___init__ => k_is)
    (case mk2_Kind___init__ => k_is)
    (case l_Kind___or__ => k_is)
    (case cc_Kind___or__ => k_is)
    (case kp_Kind___or__ => k_is)
    (case mf_Kind___or__ => k_is)
    (case l_Kind___and__ => k_is)
    (case cc_Kind___and__ => k_is)
    (case kp_Kind___and__ => k_is)
    (case mf_Kind___and__ => k_is)
#print axioms PySem.Challenge.cw_kindnotes_k05_least_kind_over_both_holds

