import PyProof.Rows.All
import Wide.All
import OpenK.AllK
import Wide.FinOn
import HandS.ForMost
import HandS.ForExc
import HandS.TupAny
import HandS.IsInst
import HandS.Deep
import HandS.Flow
import HandS.Style
import HandS.Small
import HandS.SortInts
import HandS.Conv
import HandS.Codes
import KE.KRevSl
import HandS.FStr
import HandS.Defaults
import HandS.ExcIs
import HandS.MakeKwOnly
import PySem.Challenge.RW_kindnotes_k09_ways_are_made
set_option Elab.async false
set_option maxRecDepth 100000
namespace Kn
open PySem L2
/-- a def of the text that stands behind the top under its name, and how its arguments bind -/
structure Fz (K : PySem.W.Frag) (mg : Str → Option Value) (x : Str) (st : Stmt) (ps : List Str) : Prop where
  ex : ∃ (f : Addr) (fd : FuncData), Fun K x x st f fd ∧ mg x = some (.ref f) ∧ Binds K fd ps []
/-- a def by its promise -/
structure Fx (P : Program) (w : World) (K : PySem.W.Frag) (mg : Str → Option Value) (base : Heap) (CX : CXT) (x : Str) (k : Nat) (ps : List Str) (sp : Sp) : Prop where
  ex : ∃ (f : Addr) (fd : FuncData), FnOk P w K mg base CX k f fd ps sp ∧ mg x = some (.ref f) ∧ PySem.W.keepIn K (.ref f) = true ∧ Binds K fd ps []
theorem Fx.mono {P : Program} {w : World} {K : PySem.W.Frag} {mg : Str → Option Value} {base : Heap} {CX : CXT} {x : Str} {j k : Nat} {ps : List Str} {sp : Sp} (F : Fx P w K mg base CX x j ps sp) (h : j ≤ k) : Fx P w K mg base CX x k ps sp :=
  let ⟨f, fd, a, b⟩ := F.ex
  ⟨f, fd, a.mono h, b⟩
theorem Fz.ok {P : Program} {w : World} {K : PySem.W.Frag} {mg : Str → Option Value} {base : Heap} {x : Str} {st : Stmt} {ps N : List Str} {k : Nat} {sp : Sp} (F : Fz K mg x st ps) (S : FnScope N ps (defScope st)) (len : ∀ vs H Q E, sp vs H Q E → vs.length = ps.length)
    (hbody : ∀ (f : Addr) (cdv : Value) (A : Around) (outer : List Env) (s : Shared) (H : Hp) (vs : List V) (Q : VK) (E : XK), Room k (A.deeper (PyProof.Rows.envOfC x (defScope st) s.heap.objs.size f cdv)) → sp vs H Q E →
      ∃ t, PSs (cxOf CX0 P w K mg base N x (defScope st) f cdv A outer s H E).nox (defBody st) t ∧ t { nx := fun _ H' => Q .non H', rt := Q } (start N vs) H) : Fx P w K mg base CX0 x (k + 1) ps sp := by
  obtain ⟨f, fd, F1, m, b⟩ := F.ex
  exact ⟨f, fd, F1.ok S len (hbody f), m, F1.kp, b⟩
section
variable {X : Cx} {k : Nat} {ps : List Str} {sp : Sp} {E : XK} {x : Str} {p pos : Pos} {e : Expr} {es : List Expr} {t : TA} {CX : CXT}
/-- f(e, ..) of such a def, that raises nothing -/
theorem fcall (F : Fx X.prog X.w X.K X.mg X.base CX0 x k ps sp) (hr : Room k X.A) (hg : Gl X x) (ha : PA X (e :: es) t)
    (hdb : (x == ("__debug__" : Str)) = false := by decide) (he : starEach (e :: es) X.env = (false, eval e X.env) :: starEach es X.env := by rfl) (hpl : (backTo pos (starEach es X.env)).any (·.1) = false := by rfl) :
    PE X (.Call (.Name x p) (e :: es) [] pos) (tCall sp [] E0 t) := by
  obtain ⟨f, fd, F1, m, kp, b⟩ := F.ex
  exact pe_call F1 hr hg m kp b .nil pass0 ha hdb he hpl
/-- a module's constant -/
theorem pglob {v : V} (hg : Gl X x) (h : ∃ u, X.mg x = some u ∧ RelV v u) (hd : (x == ("__debug__" : Str)) = false := by decide) : PE X (.Name x pos) (tC v) := by
  obtain ⟨u, hm, r⟩ := h
  exact pe_glob hg hm r hd
end
/-! ### the tape -/
/-- at t a list of ints -/
def Tape (H : Hp) (t : Addr) : Prop := ∃ ns : List Int, H t = some (.lst (ns.map V.int))
/-- behind a draw from the tape at t: the tape is a tape, all else that stood stands -/
structure Dr (t : Addr) (H H' : Hp) : Prop where
  tape : Tape H' t
  keep : ∀ b o, H b = some o → b ≠ t → H' b = some o
theorem Dr.trans {t : Addr} {H H1 H2 : Hp} (a : Dr t H H1) (b : Dr t H1 H2) : Dr t H H2 := ⟨b.tape, fun c o h n => b.keep c o (a.keep c o h n) n⟩
theorem Dr.refl {t : Addr} {H : Hp} (a : Tape H t) : Dr t H H := ⟨a, fun _ _ h _ => h⟩
theorem Tape.ne {H : Hp} {t b : Addr} (h : Tape H t) (hb : H b = none) : t ≠ b := by
  obtain ⟨ns, h⟩ := h
  exact ne_of_none h hb
/-- a new object beside the tape -/
theorem Dr.new {t : Addr} {H : Hp} {p : Addr} {o : HO} (a : Tape H t) (hp : H p = none) : Dr t H (upd H p o) := by
  have n := a.ne hp
  refine ⟨?_, fun b u h nb => ?_⟩
  · obtain ⟨ns, h⟩ := a
    exact ⟨ns, by rw [upd_ne n]; exact h⟩
  · rw [upd_ne (ne_of_none h hp)]
    exact h
theorem Dr.put {t : Addr} {H : Hp} (ns : List Int) : Dr t H (upd H t (.lst (ns.map V.int))) := ⟨⟨ns, upd_same⟩, fun b o h n => by rw [upd_ne n]; exact h⟩
/-- a change at an address that did not stand at the entry -/
theorem Dr.upd {t : Addr} {H H1 : Hp} {l : Addr} {o : HO} (d : Dr t H H1) (n : t ≠ l) (hl : H l = none) : Dr t H (upd H1 l o) := by
  refine ⟨?_, fun b u h nb => ?_⟩
  · obtain ⟨ns, h⟩ := d.tape
    exact ⟨ns, by rw [upd_ne n]; exact h⟩
  · rw [upd_ne (ne_of_none h hl)]
    exact d.keep b u h nb
def spTake : Sp := fun vs H Q _ => ∃ (t : Addr) (m : Int), vs = [.ref t, .int m] ∧ Tape H t ∧ 0 < m ∧ ∀ (r : Int) (H' : Hp), 0 ≤ r → r < m → Dr t H H' → Q (.int r) H'
/-! ### the rules with the written part by name -/
section
variable {X : Cx}
theorem ix_listK (K : PySem.W.Frag) (h : X.K = K := by rfl) : IxR X (rIxL K) := by subst h; exact ix_list
theorem ix_tupK (K : PySem.W.Frag) (h : X.K = K := by rfl) : IxR X (rIxT K) := by subst h; exact ix_tup
theorem ix_seqK (K : PySem.W.Frag) (h : X.K = K := by rfl) : IxR X (rIx K) := by subst h; exact ix_seq
theorem sl_listK (K : PySem.W.Frag) (h : X.K = K := by rfl) : SlR X (rSlL K) := by subst h; exact sl_list
theorem sl_tupAK (K : PySem.W.Frag) (h : X.K = K := by rfl) : SlR X (rSlA K) := by subst h; exact sl_tupA
theorem op_in_seqK (K : PySem.W.Frag) (h : X.K = K := by rfl) : OpR X (compareOp .In) (rIn K false) := by subst h; exact op_in_seq
theorem op_notIn_seqK (K : PySem.W.Frag) (h : X.K = K := by rfl) : OpR X (compareOp .NotIn) (rIn K true) := by subst h; exact op_notIn_seq
theorem op_catAK (K : PySem.W.Frag) (h : X.K = K := by rfl) : OpR X (binaryOp .Add) (rCatA K) := by subst h; exact op_catA
theorem cr_sortedK (K : PySem.W.Frag) (h : X.K = K := by rfl) : CallR X (.builtin "sorted") (rSorted K) := by subst h; exact cr_sorted
theorem call_isi1K (K : PySem.W.Frag) (h : X.K = K := by rfl) : CallR X (.builtin "isinstance") (rIsi K) := by subst h; exact call_isi
theorem call_isiTK (K : PySem.W.Frag) (h : X.K = K := by rfl) : CallR X (.builtin "isinstance") (rIsiT K) := by subst h; exact call_isiT
theorem op_eqDK (K : PySem.W.Frag) (hu : X.A.units + 64 < cLine) (h : X.K = K := by rfl) : OpR X (compareOp .Eq) (rEqD K) := by subst h; exact op_eqD hu
theorem op_neDK (K : PySem.W.Frag) (hu : X.A.units + 64 < cLine) (h : X.K = K := by rfl) : OpR X (compareOp .NotEq) (rNeD K) := by subst h; exact op_neD hu
theorem op_inDK (K : PySem.W.Frag) (hu : X.A.units + 65 < cLine) (h : X.K = K := by rfl) : OpR X (compareOp .In) (rInD K) := by subst h; exact op_inD hu
theorem op_notInDK (K : PySem.W.Frag) (hu : X.A.units + 65 < cLine) (h : X.K = K := by rfl) : OpR X (compareOp .NotIn) (rNotInD K) := by subst h; exact op_notInD hu
theorem mt_indexDK (K : PySem.W.Frag) (hu : X.A.units + 65 < cLine) (h : X.K = K := by rfl) : MtR X "list.index" (rIndexD K) := by subst h; exact mt_indexD hu
theorem cr_sumK (K : PySem.W.Frag) (hu : X.calm = true) (h : X.K = K := by rfl) : CallR X (.builtin "sum") (rSum K) := by subst h; exact cr_sum hu
theorem cr_allK (K : PySem.W.Frag) (hu : X.calm = true) (h : X.K = K := by rfl) : CallR X (.builtin "all") (rAll K) := by subst h; exact cr_all hu
theorem cr_anyK (K : PySem.W.Frag) (hu : X.calm = true) (h : X.K = K := by rfl) : CallR X (.builtin "any") (rAny K) := by subst h; exact cr_any hu
theorem cr_minK (K : PySem.W.Frag) (hu : X.calm = true) (h : X.K = K := by rfl) : CallR X (.builtin "min") (rMin K) := by subst h; exact cr_min hu
theorem cr_maxK (K : PySem.W.Frag) (hu : X.calm = true) (h : X.K = K := by rfl) : CallR X (.builtin "max") (rMax K) := by subst h; exact cr_max hu
def rLenSq (K : PySem.W.Frag) : List V → Hp → VK → Prop := fun xs H Q => ∃ p ys, xs = [.ref p] ∧ (SqL K H p ys ∨ SqT K H p ys) ∧ Q (.int ys.length) H
theorem call_len_seqK (K : PySem.W.Frag) (h : X.K = K := by rfl) : CallR X (.builtin "len") (rLenSq K) := by subst h; exact call_len_seq
def rTupleOf (K : PySem.W.Frag) : List V → Hp → VK → Prop := fun xs H Q => ∃ p ys, xs = [.ref p] ∧ ((SqL K H p ys ∧ ∀ l, H l = none → Q (.ref l) (upd H l (.tup ys))) ∨ (SqT K H p ys ∧ Q (.ref p) H))
theorem call_tuple_ofK (K : PySem.W.Frag) (h : X.K = K := by rfl) : CallR X (.type "tuple") (rTupleOf K) := by subst h; exact call_tuple_of
def rListOf (K : PySem.W.Frag) : List V → Hp → VK → Prop := fun xs H Q => ∃ p ys, xs = [.ref p] ∧ (SqL K H p ys ∨ SqT K H p ys) ∧ ∀ l, H l = none → Q (.ref l) (upd H l (.lst ys))
theorem call_list_ofK (K : PySem.W.Frag) (h : X.K = K := by rfl) : CallR X (.type "list") (rListOf K) := by subst h; exact call_list_of
def rJoin (K : PySem.W.Frag) : V → List V → Hp → VK → Prop := fun x xs H Q => ∃ a p, ∃ ys : List Str, x = .str a ∧ xs = [.ref p] ∧ (SqL K H p (ys.map V.str) ∨ SqT K H p (ys.map V.str)) ∧ (ys.map (·.length)).sum + ys.length * a.length ≤ 16777216 ∧ Q (.str (Txt.join a ys)) H
theorem mt_joinK (K : PySem.W.Frag) (h : X.K = K := by rfl) : MtR X "str.join" (rJoin K) := by subst h; exact mt_join
variable {T : String} {name : Str} {id : String} {r : V → List V → Hp → VK → Prop} {o e : Expr} {es : List Expr} {to : TE} {t : TA} {apos cpos : Pos} {tg l : Expr} {tl : TE}
theorem pe_bmK (K : PySem.W.Frag) (pa : PlainAttrs T) (slot : Slot T name id) (hty : typeOf (.builtin id) = pure (.type "method_descriptor")) (hm : MtR X id r) (ho : PE X o to) (ha : PA X (e :: es) t) (h : X.K = K := by rfl)
    (hbase : attributeBase o name X.env (eval o X.env) = eval o X.env := by rfl)
    (hfew : ((backTo cpos (starEach (e :: es) X.env)).all (fun x => !x.1) && (backToKw cpos (keywordEach [] X.env)).all (fun x => x.1.isSome)
      && decide ((e :: es).length + ([] : List Keyword).length + (if ([] : List Keyword).isEmpty then 0 else 1) < 30)) = true := by rfl)
    (hline : (apos.endLine == cpos.line) = true := by rfl) (hs : starEach (e :: es) X.env = (false, eval e X.env) :: starEach es X.env := by rfl) (hplain : (backTo cpos (starEach es X.env)).any (·.1) = false := by rfl) :
    PE X (.Call (.Attribute o name apos) (e :: es) [] cpos) (tBM K T r to t) := by subst h; exact pe_bm pa slot hty hm ho ha hbase hfew hline hs hplain
theorem pe_bm0K (K : PySem.W.Frag) (pa : PlainAttrs T) (slot : Slot T name id) (hty : typeOf (.builtin id) = pure (.type "method_descriptor")) (hm : MtR X id r) (ho : PE X o to) (h : X.K = K := by rfl)
    (hbase : attributeBase o name X.env (eval o X.env) = eval o X.env := by rfl) (hline : (apos.endLine == cpos.line) = true := by rfl) : PE X (.Call (.Attribute o name apos) [] [] cpos) (tBM0 K T r to) := by subst h; exact pe_bm0 pa slot hty hm ho hbase hline
theorem pi_listK (K : PySem.W.Frag) (hl : PE X l tl) (h : X.K = K := by rfl) : PI X tg l (iList K tl) := by subst h; exact pi_list hl
theorem pi_tupK (K : PySem.W.Frag) (hl : PE X l tl) (h : X.K = K := by rfl) : PI X tg l (iTup K tl) := by subst h; exact pi_tup hl
end
end Kn

set_option Elab.async false
set_option maxRecDepth 100000
set_option linter.all false
namespace L2
open PySem
/-! ### data under a change of the heap -/
theorem Rd.same {H H' : Hp} {a : Addr} {u : HO} (e : Same H H') (h : Rd H a u) : Rd H' a u := by
  rcases h with h | ⟨o, h⟩
  · exact .inl (e _ _ h)
  · exact .inr ⟨o, e _ _ h⟩
theorem SqT.same {K : PySem.W.Frag} {H H' : Hp} {a : Addr} {xs : List V} (e : Same H H') (h : SqT K H a xs) : SqT K H' a xs := by
  rcases h with h | h
  · exact .inl (Rd.same e h)
  · exact .inr h
mutual
theorem Dp.same {K : PySem.W.Frag} {H H' : Hp} (e : Same H H') : ∀ (d : PyData) {v : V}, Dp K H v d → Dp K H' v d
  | .none, _, .non => .non
  | .bool b, _, .bl _ => .bl b
  | .int i, _, .int _ => .int i
  | .str x, _, .str _ => .str x
  | .list ds, _, .lst h a => .lst (Same.seq e h) (DpAll.same e ds a)
  | .tuple ds, _, .tup h a => .tup (SqT.same e h) (DpAll.same e ds a)
theorem DpAll.same {K : PySem.W.Frag} {H H' : Hp} (e : Same H H') : ∀ (ds : List PyData) {vs : List V}, DpAll K H vs ds → DpAll K H' vs ds
  | [], _, .nil => .nil
  | d :: ds, _, .cons h a => .cons (Dp.same e d h) (DpAll.same e ds a)
end
mutual
/-- no list in it -/
def nl : PyData → Bool
  | .list _ => false
  | .dict _ => false
  | .tuple ds => nlAll ds
  | _ => true
def nlAll : List PyData → Bool
  | [] => true
  | d :: ds => nl d && nlAll ds
end
/-- all tuples stay -/
def Tups (H H' : Hp) : Prop := ∀ b xs, Rd H b (.tup xs) → Rd H' b (.tup xs)
theorem Same.tups {H H' : Hp} (e : Same H H') : Tups H H' := fun _ _ h => Rd.same e h
theorem Tups.trans {H H1 H2 : Hp} (a : Tups H H1) (b : Tups H1 H2) : Tups H H2 := fun c xs h => b c xs (a c xs h)
theorem Tups.refl (H : Hp) : Tups H H := fun _ _ h => h
/-- all but one list stay -/
theorem tups_of {H H' : Hp} {t : Addr} {ys : List V} (ht : H t = some (.lst ys)) (k : ∀ b o, H b = some o → b ≠ t → H' b = some o) : Tups H H' := fun b xs h => by
  rcases h with h | ⟨o, h⟩
  · exact .inl (k _ _ h (ne_of h ht (by intro z; cases z)))
  · exact .inr ⟨o, k _ _ h (ne_of h ht (by intro z; cases z))⟩
theorem tups_upd {H : Hp} {t : Addr} {ys : List V} {o : HO} (ht : H t = some (.lst ys)) : Tups H (upd H t o) := tups_of ht fun b u h n => by rw [upd_ne n]; exact h
theorem same_new {H : Hp} {t : Addr} {o : HO} (ht : H t = none) : Same H (upd H t o) := fun b u h => by rw [upd_ne (ne_of_none h ht)]; exact h
theorem tups_new {H : Hp} {t : Addr} {o : HO} (ht : H t = none) : Tups H (upd H t o) := Same.tups fun b u h => by rw [upd_ne (ne_of_none h ht)]; exact h
mutual
theorem Dp.tups {K : PySem.W.Frag} {H H' : Hp} (e : Tups H H') : ∀ (d : PyData) {v : V}, nl d = true → Dp K H v d → Dp K H' v d
  | .none, _, _, .non => .non
  | .bool b, _, _, .bl _ => .bl b
  | .int i, _, _, .int _ => .int i
  | .str x, _, _, .str _ => .str x
  | .list _, _, n, _ => by simp [nl] at n
  | .dict _, _, n, _ => by simp [nl] at n
  | .tuple ds, _, n, .tup h a => by
    rw [nl] at n
    refine .tup ?_ (DpAll.tups e ds n a)
    rcases h with h | h
    · exact .inl (e _ _ h)
    · exact .inr h
theorem DpAll.tups {K : PySem.W.Frag} {H H' : Hp} (e : Tups H H') : ∀ (ds : List PyData) {vs : List V}, nlAll ds = true → DpAll K H vs ds → DpAll K H' vs ds
  | [], _, _, .nil => .nil
  | d :: ds, _, n, .cons h a => by
    rw [nlAll, Bool.and_eq_true] at n
    exact .cons (Dp.tups e d n.1 h) (DpAll.tups e ds n.2 a)
end
theorem nlAll_mem : ∀ {ds : List PyData}, (∀ d ∈ ds, nl d = true) → nlAll ds = true
  | [], _ => by rw [nlAll]
  | d :: ds, h => by rw [nlAll, h d (by simp), nlAll_mem fun e he => h e (by simp [he])]; rfl
theorem DpAll.len {K : PySem.W.Frag} {H : Hp} : ∀ {vs : List V} {ds : List PyData}, DpAll K H vs ds → vs.length = ds.length
  | _, _, .nil => rfl
  | _, _, .cons _ a => by simp [DpAll.len a]
theorem DpAll.get {K : PySem.W.Frag} {H : Hp} : ∀ {vs : List V} {ds : List PyData} {i : Nat} {v : V}, DpAll K H vs ds → vs[i]? = some v → ∃ d, ds[i]? = some d ∧ Dp K H v d
  | _, _, _, _, .nil, e => by simp at e
  | _, _, 0, _, .cons h _, e => by simp at e; subst e; exact ⟨_, rfl, h⟩
  | _, _, i + 1, v, .cons _ a, e => by
    obtain ⟨d, h1, h2⟩ := DpAll.get (i := i) (v := v) a (by simpa using e)
    exact ⟨d, by simpa using h1, h2⟩
theorem DpAll.of_get {K : PySem.W.Frag} {H : Hp} {vs : List V} {ds : List PyData} {i : Nat} {d : PyData} (a : DpAll K H vs ds) (e : ds[i]? = some d) : ∃ v, vs[i]? = some v ∧ Dp K H v d := by
  have hi : i < vs.length := by rw [a.len]; exact (List.getElem?_eq_some_iff.mp e).1
  obtain ⟨d', h1, h2⟩ := a.get (List.getElem?_eq_getElem hi)
  rw [e] at h1; cases h1
  exact ⟨_, List.getElem?_eq_getElem hi, h2⟩
theorem DpAll.snoc {K : PySem.W.Frag} {H : Hp} : ∀ {vs : List V} {ds : List PyData} {v : V} {d : PyData}, DpAll K H vs ds → Dp K H v d → DpAll K H (vs ++ [v]) (ds ++ [d])
  | _, _, _, _, .nil, h => .cons h .nil
  | _, _, _, _, .cons g a, h => .cons g (DpAll.snoc a h)
theorem DpAll.app {K : PySem.W.Frag} {H : Hp} : ∀ {vs ws : List V} {ds es : List PyData}, DpAll K H vs ds → DpAll K H ws es → DpAll K H (vs ++ ws) (ds ++ es)
  | _, _, _, _, .nil, h => h
  | _, _, _, _, .cons g a, h => .cons g (DpAll.app a h)
theorem DpAll.ints {K : PySem.W.Frag} {H : Hp} : ∀ (ns : List Int), DpAll K H (ns.map V.int) (ns.map PyData.int)
  | [] => .nil
  | n :: ns => .cons (.int n) (DpAll.ints ns)
theorem DpAll.ints_inv {K : PySem.W.Frag} {H : Hp} : ∀ {ns : List Int} {vs : List V}, DpAll K H vs (ns.map PyData.int) → vs = ns.map V.int
  | [], _, .nil => rfl
  | n :: ns, _, .cons (.int _) a => by rw [DpAll.ints_inv a]; rfl
theorem DpAll.strs {K : PySem.W.Frag} {H : Hp} : ∀ (ns : List Str), DpAll K H (ns.map V.str) (ns.map PyData.str)
  | [] => .nil
  | n :: ns => .cons (.str n) (DpAll.strs ns)
theorem DpAll.strs_inv {K : PySem.W.Frag} {H : Hp} : ∀ {ns : List Str} {vs : List V}, DpAll K H vs (ns.map PyData.str) → vs = ns.map V.str
  | [], _, .nil => rfl
  | n :: ns, _, .cons (.str _) a => by rw [DpAll.strs_inv a]; rfl
theorem Dp.tup_inv {K : PySem.W.Frag} {H : Hp} {v : V} {ds : List PyData} (h : Dp K H v (.tuple ds)) : ∃ a xs, v = .ref a ∧ SqT K H a xs ∧ DpAll K H xs ds := by
  cases h with
  | tup h a => exact ⟨_, _, rfl, h, a⟩
theorem Dp.lst_inv {K : PySem.W.Frag} {H : Hp} {v : V} {ds : List PyData} (h : Dp K H v (.list ds)) : ∃ a xs, v = .ref a ∧ SqL K H a xs ∧ DpAll K H xs ds := by
  cases h with
  | lst h a => exact ⟨_, _, rfl, h, a⟩
theorem inV_ints (n : Int) : ∀ (gs : List Int), inV (.int n) (gs.map V.int) = gs.contains n
  | [] => rfl
  | g :: gs => by
    have ih := inV_ints n gs
    unfold inV at *
    rw [List.map_cons, List.any_cons, ih, List.contains_cons]
    show ((g == n) || _) = ((n == g) || _)
    rw [Bool.beq_comm]
theorem flat_ints (gs : List Int) : (gs.map V.int).all flatV = true := by simp [flatV]
theorem DpAll.take {K : PySem.W.Frag} {H : Hp} : ∀ (n : Nat) {vs : List V} {ds : List PyData}, DpAll K H vs ds → DpAll K H (vs.take n) (ds.take n)
  | 0, _, _, _ => by simp; exact .nil
  | _ + 1, _, _, .nil => .nil
  | n + 1, _, _, .cons h a => .cons h (DpAll.take n a)
theorem DpAll.drop {K : PySem.W.Frag} {H : Hp} : ∀ (n : Nat) {vs : List V} {ds : List PyData}, DpAll K H vs ds → DpAll K H (vs.drop n) (ds.drop n)
  | 0, _, _, a => a
  | _ + 1, _, _, .nil => .nil
  | n + 1, _, _, .cons _ a => DpAll.drop n a
end L2
namespace Kn
open PySem L2
theorem Dr.tups {t : Addr} {H H' : Hp} (h : Tape H t) (d : Dr t H H') : Tups H H' := by
  obtain ⟨ns, h⟩ := h
  exact tups_of h d.keep
/-- the type of data -/
def tyD : PyData → String
  | .none => "NoneType"
  | .bool _ => "bool"
  | .int _ => "int"
  | .str _ => "str"
  | .list _ => "list"
  | .tuple _ => "tuple"
  | .dict _ => "dict"
theorem Dp.ty {K : PySem.W.Frag} {H : Hp} : ∀ {v : V} {d : PyData}, Dp K H v d → TyX K H v (.type (tyD d))
  | _, _, .non => .base .non
  | _, _, .bl b => .base (.bl b)
  | _, _, .int i => .base (.int i)
  | _, _, .str x => .base (.str x)
  | _, _, .lst h _ => by
    rcases h with (h | ⟨o, h⟩) | ⟨o, its, n, h, c, _⟩
    · exact .base (.lst h)
    · exact .base (.frz h)
    · exact .kList h c
  | _, _, .tup h _ => by
    rcases h with (h | ⟨o, h⟩) | ⟨o, its, n, h, c, _⟩
    · exact .base (.tup h)
    · exact .fTuple h
    · exact .kTuple h c
theorem seqIdx_nat {r : Int} {n : Nat} (h0 : 0 ≤ r) (h : r.toNat < n) : seqIndex? r n = some r.toNat := by
  have h1 : ¬ r < 0 := by omega
  have h2 : r < n := by omega
  simp [seqIndex?, h1, h0, h2]
theorem map_eraseIdx' {α β : Type} (f : α → β) : ∀ (l : List α) (i : Nat), (l.map f).eraseIdx i = (l.eraseIdx i).map f
  | [], _ => rfl
  | _ :: _, 0 => rfl
  | a :: l, i + 1 => by
    show f a :: (l.map f).eraseIdx i = f a :: (l.eraseIdx i).map f
    rw [map_eraseIdx' f l i]
theorem sIx_nat {n d i : Nat} {z : Int} (e : z = (i : Int)) (h : i ≤ n) : HT.sIx n d (some z) = i := by
  subst e
  rw [show HT.sIx n d (some (i : Int)) = (if (i : Int) < 0 then ((i : Int) + (n : Int)).toNat else min (i : Int).toNat n) from rfl, if_neg (by omega)]
  omega
theorem cut_take {xs : List V} {i : Nat} {z : Int} (e : z = (i : Int)) (h : i ≤ xs.length) : cutV xs none (some z) = xs.take i := by
  unfold cutV
  rw [sIx_nat e h, show HT.sIx xs.length 0 none = 0 from rfl]
  simp
theorem cut_drop {xs : List V} {i : Nat} {z : Int} (e : z = (i : Int)) (h : i ≤ xs.length) : cutV xs (some z) none = xs.drop i := by
  unfold cutV
  rw [sIx_nat e h, show HT.sIx xs.length xs.length none = xs.length from rfl]
  rw [List.take_of_length_le (by simp)]
theorem vstr_eq {a b : Str} (h : decide (V.str a = V.str b) = true) : a = b := by
  have := of_decide_eq_true h
  injection this
theorem vstr_ne {a b : Str} (h : ¬ decide (V.str a = V.str b) = true) : ¬ a = b := fun e => h (by rw [e]; exact decide_eq_true rfl)
/-- the heap without some addresses (those that will be changed) -/
def Hid (A : List Addr) (H : Hp) : Hp := fun b => if b ∈ A then none else H b
theorem Hid.get {A : List Addr} {H : Hp} {b : Addr} {o : HO} (h : H b = some o) (n : b ∉ A) : Hid A H b = some o := by unfold Hid; rw [if_neg n]; exact h
theorem Hid.of {A : List Addr} {H : Hp} {b : Addr} {o : HO} (h : Hid A H b = some o) : H b = some o ∧ b ∉ A := by
  unfold Hid at h
  by_cases c : b ∈ A
  · rw [if_pos c] at h; cases h
  · rw [if_neg c] at h; exact ⟨h, c⟩
theorem Hid.sub {A : List Addr} {H : Hp} : Same (Hid A H) H := fun b o h => (Hid.of h).1
theorem Hid.keep {A : List Addr} {H H' : Hp} (k : ∀ b o, H b = some o → b ∉ A → H' b = some o) : Same (Hid A H) (Hid A H') := fun b o h => Hid.get (k b o (Hid.of h).1 (Hid.of h).2) (Hid.of h).2
theorem Hid.same {A : List Addr} {H H' : Hp} (e : Same H H') : Same (Hid A H) (Hid A H') := Hid.keep fun b o h _ => e b o h
theorem Hid.upd {A : List Addr} {H : Hp} {a : Addr} {o : HO} (ha : a ∈ A) : Same (Hid A H) (Hid A (upd H a o)) := Hid.keep fun b u h n => by
  have nb : b ≠ a := fun z => n (by rw [z]; exact ha)
  rw [upd_ne nb]; exact h
/-- behind a new object, the heap by a name -/
theorem gen_new {H Ha : Hp} {p : Addr} {o : HO} (e : L2.upd H p o = Ha) (hp : H p = none) : Same H Ha ∧ Ha p = some o := by subst e; exact ⟨same_new hp, upd_same⟩
theorem itT {b : Bool} {A B : Prop} (hb : b = true) (h : A) : if b = true then A else B := by rw [if_pos hb]; exact h
theorem itF {b : Bool} {A B : Prop} (hb : b = false) (h : B) : if b = true then A else B := by rw [hb]; exact iteF h
theorem yes_ {σ : St} {H : Hp} {A B : Hp → Prop} (h : A H) : tYes σ H fun b H3 => if b = true then A H3 else B H3 := by
  show if true = true then A H else B H
  exact iteT h
/-! ### comprehensions that only read: the list is xs.filterMap f -/
section
variable {K : PySem.W.Frag} {a : Addr} {xs : List V} {g : TG} {tt : TT} {te : TE} {vs : List Nat} {σ : St} {H1 : Hp} {D : Addr} {Qd : Hp → Prop}
theorem filterMap_take {α β : Type} (f : α → Option β) {xs : List α} {i : Nat} {x : α} (h : xs[i]? = some x) : (xs.take (i + 1)).filterMap f = (xs.take i).filterMap f ++ (f x).toList := by
  have hi := (List.getElem?_eq_some_iff.mp h).1
  have hx : xs[i] = x := (List.getElem?_eq_some_iff.mp h).2
  rw [List.take_succ_eq_append_getElem hi, List.filterMap_append, hx]
  cases e : f x with
  | none => simp [e]
  | some y => simp [e]
theorem lc_pureT (f : V → Option V) (hD : H1 D = none) (ha : SqT K H1 a xs) (hz : xs.length < sizeLine)
    (hs : ∀ (i : Nat) x H (R1 : Hp → Prop) (R : V → Hp → Prop), xs[i]? = some x → Same H1 H → (f x = none → R1 H) → (∀ y, f x = some y → R y H) → g x (wipe σ vs) H fun σ2 H2 => wipe σ2 vs = wipe σ vs ∧ tt σ2 H2 fun b H3 => if b = true then te σ2 H3 R else R1 H3)
    (hd : Qd (upd H1 D (.lst (xs.filterMap f)))) :
    ∃ W : Nat → Nat → Hp → Prop, (∃ m, W 0 m (upd H1 D (.lst []))) ∧ ∀ i m H, W i m H →
      ((Itt K a).stop i H ∧ Qd H) ∨ ((Itt K a).go i H ∧ ∃ Nx : Hp → Prop, (∀ H', Nx H' → ∃ m', m' < m ∧ W (i + 1) m' H') ∧ ∀ x H', (Itt K a).yld i H x H' → g x (wipe σ vs) H' fun σ2 H2 => wipe σ2 vs = wipe σ vs ∧ tt σ2 H2 fun b H3 =>
        if b = true then te σ2 H3 fun y H4 => ∃ acc, H4 D = some (.lst acc) ∧ acc.length < sizeLine ∧ Nx (upd H4 D (.lst (acc ++ [y]))) else Nx H3) := by
  have sm : ∀ o, Same H1 (upd H1 D o) := fun o b u e => by rw [upd_ne (ne_of_none e hD)]; exact e
  refine lc_tup (xs := xs) (fun i H => H = upd H1 D (.lst ((xs.take i).filterMap f))) ?_ ?_ ?_ ?_
  · simp
  · rintro i H _ rfl; exact SqT.same (sm _) ha
  · rintro i x H hx rfl
    refine hs i x _ _ _ hx (sm _) (fun e => ?_) fun y e => ?_
    · rw [filterMap_take f hx, e]; simp
    · refine ⟨_, upd_same, ?_, ?_⟩
      · refine Nat.lt_of_le_of_lt (List.length_filterMap_le _ _) ?_
        rw [List.length_take]
        omega
      · rw [filterMap_take f hx, e, upd_upd]; rfl
  · rintro H rfl
    rw [List.take_length]; exact hd
theorem lc_pureL (f : V → Option V) (hD : H1 D = none) (ha : SqL K H1 a xs) (hz : xs.length < sizeLine)
    (hs : ∀ (i : Nat) x H (R1 : Hp → Prop) (R : V → Hp → Prop), xs[i]? = some x → Same H1 H → (f x = none → R1 H) → (∀ y, f x = some y → R y H) → g x (wipe σ vs) H fun σ2 H2 => wipe σ2 vs = wipe σ vs ∧ tt σ2 H2 fun b H3 => if b = true then te σ2 H3 R else R1 H3)
    (hd : Qd (upd H1 D (.lst (xs.filterMap f)))) :
    ∃ W : Nat → Nat → Hp → Prop, (∃ m, W 0 m (upd H1 D (.lst []))) ∧ ∀ i m H, W i m H →
      ((Itl K a).stop i H ∧ Qd H) ∨ ((Itl K a).go i H ∧ ∃ Nx : Hp → Prop, (∀ H', Nx H' → ∃ m', m' < m ∧ W (i + 1) m' H') ∧ ∀ x H', (Itl K a).yld i H x H' → g x (wipe σ vs) H' fun σ2 H2 => wipe σ2 vs = wipe σ vs ∧ tt σ2 H2 fun b H3 =>
        if b = true then te σ2 H3 fun y H4 => ∃ acc, H4 D = some (.lst acc) ∧ acc.length < sizeLine ∧ Nx (upd H4 D (.lst (acc ++ [y]))) else Nx H3) := by
  have sm : ∀ o, Same H1 (upd H1 D o) := fun o b u e => by rw [upd_ne (ne_of_none e hD)]; exact e
  refine lc_list (xs := xs) (fun i H => H = upd H1 D (.lst ((xs.take i).filterMap f))) ?_ ?_ ?_ ?_
  · simp
  · rintro i H _ rfl; exact Same.seq (sm _) ha
  · rintro i x H hx rfl
    refine hs i x _ _ _ hx (sm _) (fun e => ?_) fun y e => ?_
    · rw [filterMap_take f hx, e]; simp
    · refine ⟨_, upd_same, ?_, ?_⟩
      · refine Nat.lt_of_le_of_lt (List.length_filterMap_le _ _) ?_
        rw [List.length_take]
        omega
      · rw [filterMap_take f hx, e, upd_upd]; rfl
  · rintro H rfl
    rw [List.take_length]; exact hd
/-- .. the list after i turns is acc i -/
theorem lc_accT (acc : Nat → List V) (hD : H1 D = none) (ha : SqT K H1 a xs) (h0 : acc 0 = []) (hz : ∀ i, i < xs.length → (acc i).length < sizeLine)
    (hs : ∀ (i : Nat) x H (R1 : Hp → Prop) (R : V → Hp → Prop), xs[i]? = some x → Same H1 H → (acc (i + 1) = acc i → R1 H) → (∀ y, acc (i + 1) = acc i ++ [y] → R y H) → g x (wipe σ vs) H fun σ2 H2 => wipe σ2 vs = wipe σ vs ∧ tt σ2 H2 fun b H3 => if b = true then te σ2 H3 R else R1 H3)
    (hd : Qd (upd H1 D (.lst (acc xs.length)))) :
    ∃ W : Nat → Nat → Hp → Prop, (∃ m, W 0 m (upd H1 D (.lst []))) ∧ ∀ i m H, W i m H →
      ((Itt K a).stop i H ∧ Qd H) ∨ ((Itt K a).go i H ∧ ∃ Nx : Hp → Prop, (∀ H', Nx H' → ∃ m', m' < m ∧ W (i + 1) m' H') ∧ ∀ x H', (Itt K a).yld i H x H' → g x (wipe σ vs) H' fun σ2 H2 => wipe σ2 vs = wipe σ vs ∧ tt σ2 H2 fun b H3 =>
        if b = true then te σ2 H3 fun y H4 => ∃ acc, H4 D = some (.lst acc) ∧ acc.length < sizeLine ∧ Nx (upd H4 D (.lst (acc ++ [y]))) else Nx H3) := by
  have sm : ∀ o, Same H1 (upd H1 D o) := fun o b u e => by rw [upd_ne (ne_of_none e hD)]; exact e
  refine lc_tup (xs := xs) (fun i H => H = upd H1 D (.lst (acc i))) ?_ ?_ ?_ ?_
  · rw [h0]
  · rintro i H _ rfl; exact SqT.same (sm _) ha
  · rintro i x H hx rfl
    refine hs i x _ _ _ hx (sm _) (fun e => by rw [e]) fun y e => ?_
    exact ⟨_, upd_same, hz i (List.getElem?_eq_some_iff.mp hx).1, by rw [e, upd_upd]⟩
  · rintro H rfl
    exact hd
theorem lc_accL (acc : Nat → List V) (hD : H1 D = none) (ha : SqL K H1 a xs) (h0 : acc 0 = []) (hz : ∀ i, i < xs.length → (acc i).length < sizeLine)
    (hs : ∀ (i : Nat) x H (R1 : Hp → Prop) (R : V → Hp → Prop), xs[i]? = some x → Same H1 H → (acc (i + 1) = acc i → R1 H) → (∀ y, acc (i + 1) = acc i ++ [y] → R y H) → g x (wipe σ vs) H fun σ2 H2 => wipe σ2 vs = wipe σ vs ∧ tt σ2 H2 fun b H3 => if b = true then te σ2 H3 R else R1 H3)
    (hd : Qd (upd H1 D (.lst (acc xs.length)))) :
    ∃ W : Nat → Nat → Hp → Prop, (∃ m, W 0 m (upd H1 D (.lst []))) ∧ ∀ i m H, W i m H →
      ((Itl K a).stop i H ∧ Qd H) ∨ ((Itl K a).go i H ∧ ∃ Nx : Hp → Prop, (∀ H', Nx H' → ∃ m', m' < m ∧ W (i + 1) m' H') ∧ ∀ x H', (Itl K a).yld i H x H' → g x (wipe σ vs) H' fun σ2 H2 => wipe σ2 vs = wipe σ vs ∧ tt σ2 H2 fun b H3 =>
        if b = true then te σ2 H3 fun y H4 => ∃ acc, H4 D = some (.lst acc) ∧ acc.length < sizeLine ∧ Nx (upd H4 D (.lst (acc ++ [y]))) else Nx H3) := by
  have sm : ∀ o, Same H1 (upd H1 D o) := fun o b u e => by rw [upd_ne (ne_of_none e hD)]; exact e
  refine lc_list (xs := xs) (fun i H => H = upd H1 D (.lst (acc i))) ?_ ?_ ?_ ?_
  · rw [h0]
  · rintro i H _ rfl; exact Same.seq (sm _) ha
  · rintro i x H hx rfl
    refine hs i x _ _ _ hx (sm _) (fun e => by rw [e]) fun y e => ?_
    exact ⟨_, upd_same, hz i (List.getElem?_eq_some_iff.mp hx).1, by rw [e, upd_upd]⟩
  · rintro H rfl
    exact hd
/-- over a range -/
theorem lc_accR {lo : Int} {n : Nat} (acc : Nat → List V) (hD : H1 D = none) (h0 : acc 0 = []) (hz : ∀ i, i < n → (acc i).length < sizeLine)
    (hs : ∀ (i : Nat) H (R1 : Hp → Prop) (R : V → Hp → Prop), i < n → Same H1 H → (acc (i + 1) = acc i → R1 H) → (∀ y, acc (i + 1) = acc i ++ [y] → R y H) → g (.int (lo + i)) (wipe σ vs) H fun σ2 H2 => wipe σ2 vs = wipe σ vs ∧ tt σ2 H2 fun b H3 => if b = true then te σ2 H3 R else R1 H3)
    (hd : Qd (upd H1 D (.lst (acc n)))) :
    ∃ W : Nat → Nat → Hp → Prop, (∃ m, W 0 m (upd H1 D (.lst []))) ∧ ∀ i m H, W i m H →
      ((Itr lo n).stop i H ∧ Qd H) ∨ ((Itr lo n).go i H ∧ ∃ Nx : Hp → Prop, (∀ H', Nx H' → ∃ m', m' < m ∧ W (i + 1) m' H') ∧ ∀ x H', (Itr lo n).yld i H x H' → g x (wipe σ vs) H' fun σ2 H2 => wipe σ2 vs = wipe σ vs ∧ tt σ2 H2 fun b H3 =>
        if b = true then te σ2 H3 fun y H4 => ∃ acc, H4 D = some (.lst acc) ∧ acc.length < sizeLine ∧ Nx (upd H4 D (.lst (acc ++ [y]))) else Nx H3) := by
  have sm : ∀ o, Same H1 (upd H1 D o) := fun o b u e => by rw [upd_ne (ne_of_none e hD)]; exact e
  refine lc_range (fun i H => H = upd H1 D (.lst (acc i))) ?_ ?_ ?_
  · rw [h0]
  · rintro i H hi rfl
    refine hs i _ _ _ hi (sm _) (fun e => by rw [e]) fun y e => ?_
    exact ⟨_, upd_same, hz i hi, by rw [e, upd_upd]⟩
  · rintro H rfl
    exact hd
end
/-! ### data of a bounded depth -/
structure Lay (n : Nat) (d : PyData) : Prop where
  can : d.canLay0 = true
  dep : d.depth ≤ n
theorem Lay.mono {m n : Nat} {d : PyData} (h : Lay m d) (k : m ≤ n) : Lay n d := ⟨h.can, Nat.le_trans h.dep k⟩
theorem Lay.non (n : Nat) : Lay n .none := ⟨by simp [PyData.canLay0], by simp [PyData.depth]⟩
theorem Lay.bl (n : Nat) (b : Bool) : Lay n (.bool b) := ⟨by simp [PyData.canLay0], by simp [PyData.depth]⟩
theorem Lay.int (n : Nat) (i : Int) : Lay n (.int i) := ⟨by simp [PyData.canLay0], by simp [PyData.depth]⟩
theorem Lay.str (n : Nat) {x : Str} (h : PyData.strOk x = true) : Lay n (.str x) := ⟨by simpa [PyData.canLay0] using h, by simp [PyData.depth]⟩
theorem lay_all {n : Nat} : ∀ {ds : List PyData}, (∀ d ∈ ds, Lay n d) → PyData.canLayAll0 ds = true ∧ PyData.depthAll ds ≤ n
  | [], _ => ⟨by simp [PyData.canLayAll0], by simp [PyData.depthAll]⟩
  | d :: ds, h => by
    obtain ⟨h1, h2⟩ := lay_all (ds := ds) fun e he => h e (by simp [he])
    have h3 := h d (by simp)
    refine ⟨by rw [PyData.canLayAll0, h3.can, h1]; rfl, ?_⟩
    rw [PyData.depthAll]
    have := h3.dep
    omega
theorem Lay.tup {n : Nat} {ds : List PyData} (h : ∀ d ∈ ds, Lay n d) : Lay (n + 1) (.tuple ds) := by
  obtain ⟨h1, h2⟩ := lay_all h
  refine ⟨by rw [PyData.canLay0]; exact h1, ?_⟩
  rw [PyData.depth]; omega
theorem Lay.lst {n : Nat} {ds : List PyData} (h : ∀ d ∈ ds, Lay n d) : Lay (n + 1) (.list ds) := by
  obtain ⟨h1, h2⟩ := lay_all h
  refine ⟨by rw [PyData.canLay0]; exact h1, ?_⟩
  rw [PyData.depth]; omega
theorem Lay.shaped {n : Nat} {d : PyData} (h : Lay n d) (k : n ≤ 64 := by decide) : SeqAt.shaped d = true := by
  have := h.dep
  unfold SeqAt.shaped
  rw [h.can, decide_eq_true (show d.depth ≤ 64 by omega)]; rfl
theorem Lay.ints (n : Nat) (l : List Int) : ∀ d ∈ l.map PyData.int, Lay n d := fun d hd => by
  obtain ⟨i, _, rfl⟩ := List.mem_map.mp hd
  exact .int n i
/-! ### equality of data -/
mutual
theorem eqv_refl : ∀ (d : PyData), nl d = true → PyData.eqv d d = true
  | .none, _ => by simp [PyData.eqv]
  | .bool _, _ => by simp [PyData.eqv]
  | .int _, _ => by simp [PyData.eqv]
  | .str _, _ => by simp [PyData.eqv]
  | .list _, n => by simp [nl] at n
  | .dict _, n => by simp [nl] at n
  | .tuple ds, n => by
    rw [nl] at n
    rw [PyData.eqv]
    exact eqvAll_refl ds n
theorem eqvAll_refl : ∀ (ds : List PyData), nlAll ds = true → PyData.eqvAll ds ds = true
  | [], _ => by simp [PyData.eqvAll]
  | d :: ds, n => by
    rw [nlAll, Bool.and_eq_true] at n
    rw [PyData.eqvAll, eqv_refl d n.1, eqvAll_refl ds n.2]; rfl
end
end Kn

set_option Elab.async false
set_option maxRecDepth 100000
set_option linter.all false
namespace Kn
open PySem L2
section
open PySem.Spec PyProof.Rows
variable {prog : Program} {w : World} {A : Around} {E : Value → Shared → Prop} {s : Shared}
theorem sliceApplied_rev {sl : Addr} {vk : Value} {n : Nat} {Q : Int × Int × Nat → Shared → Prop} (hs : s.heap.IsSliceOf sl .none .none vk) (pk : IsPart vk (some (-1)))
    (h : Q ((n : Int) - 1, -1, n) s) : wpAny (model prog w) A (Builtin.Slice.sliceApplied (.ref sl) (pure (n : Int))) Q E s := by
  obtain ⟨os, hos, hcs, hds⟩ := id hs
  unfold Builtin.Slice.sliceApplied Builtin.Slice.sliceFields
  refine wpAny_bind (wpAny_bind (wpAny_field hos hds (x := .none) rfl (wpAny_bind (wpAny_field hos hds (x := .none) rfl (wpAny_bind (wpAny_field hos hds (x := vk) rfl (wpAny_pure ?_)))))))
  refine wpAny_bind (HT.slicePart_ pk ?_)
  show wpAny _ _ (if ((-1 : Int) == 0) = true then _ else _) _ _ s
  rw [if_neg (by decide)]
  refine wpAny_bind (HT.slicePart_ .none (wpAny_bind (HT.slicePart_ .none (wpAny_bind (wpAny_pure ?_)))))
  show wpAny _ _ (pure ((n : Int) - 1, (-1 : Int), Builtin.Slice.slicePlaces ((n : Int) - 1) (-1) (-1))) _ _ s
  have e : Builtin.Slice.slicePlaces ((n : Int) - 1) (-1) (-1) = n := by
    unfold Builtin.Slice.slicePlaces
    have h1 : ¬ ((-1 : Int) > 0) := by omega
    rw [if_neg h1]
    split
    · rw [show -(-1 : Int) = 1 from rfl, Int.ediv_one]; omega
    · omega
  rw [e]
  exact wpAny_pure h
theorem pick_rev (xs : Array Value) : ((List.range xs.size).filterMap fun (m : Nat) => xs[(((xs.size : Int) - 1) + (m : Int) * (-1)).toNat]?).toArray = xs.toList.reverse.toArray := by
  have e : (fun (m : Nat) => xs[(((xs.size : Int) - 1) + (m : Int) * (-1)).toNat]?) = (fun m => xs[m]?) ∘ (fun m => xs.size - 1 - m) := by
    funext m
    have : (((xs.size : Int) - 1) + (m : Int) * (-1)).toNat = xs.size - 1 - m := by omega
    rw [this]; rfl
  rw [e, ← List.filterMap_map, PySem.W.krv_range, List.filterMap_reverse, PySem.W.krv_all]
theorem getItem_tuple_rev {t sl : Addr} {items : Array Value} {vk : Value} {Q : Value → Shared → Prop} (ht : IsTup s.heap t items) (hs : s.heap.IsSliceOf sl .none .none vk) (pk : IsPart vk (some (-1)))
    (h : Q (.ref s.heap.objs.size) { s with heap := s.heap.push { cls := .type "tuple", data := .seq items.toList.reverse.toArray } })
    (hsz : items.size ≤ sizeLine) : wpAny (model prog w) A (getItem (.ref t) (.ref sl)) Q E s := by
  have htake : sizeOk (.seq items.toList.reverse.toArray) := by
    show items.toList.reverse.toArray.size ≤ sizeLine
    rw [List.size_toArray, List.length_reverse, Array.length_toList]
    exact hsz
  obtain ⟨os, hos, hcs, hds⟩ := id hs
  have hTs : s.TypeIs (.ref sl) "slice" := ⟨os, hos, hcs⟩
  unfold getItem
  try with_reducible refine wpAny_holding ?_
  first | refine wpAny_bind (wpAny_pure ?_) | skip
  refine wpAny_bind (wpAny_sequenceKey ht.typeIs (by decide) ?_)
  refine wpAny_bind (wpAny_callSpecial?_slot (name := Str.ofString "__getitem__") ht.typeIs PyProof.Rows.slot_tuple_getitem
    (wpAny_call_entry PyProof.Rows.slot_tuple_getitem ht.typeIs entry_tuple_getitem ?_ (args_tuple_getitem _ _)))
  show wpAny _ _ (Builtin.Tuple.tupleItemsOf (.ref t) >>= _) _ _ s
  refine wpAny_bind (tupleItemsOf_ ht ?_)
  refine wpAny_bind (wpAny_typeOf hTs ?_)
  rw [if_pos (by decide)]
  refine wpAny_bind (sliceApplied_rev hs pk ?_)
  have hno : ¬ ((((items.size : Int) - 1) == 0 && (-1 : Int) == 1 && items.size == items.size) = true) := by simp
  show wpAny _ _ (if ((((items.size : Int) - 1) == 0 && (-1 : Int) == 1 && items.size == items.size) = true) then _ else _) _ _ s
  rw [if_neg hno, pick_rev]
  first
    | exact wpAny_bind (m := Builtin.Tuple.tupleExact _) (wpAny_newObj_type (wpAny_pure ⟨_, rfl, wpAny_pure h⟩) htake)
    | exact wpAny_bind (m := Builtin.Tuple.tupleExact _) (wpAny_newObj_type (wpAny_bind (wpAny_pure (wpAny_pure ⟨_, rfl, wpAny_pure h⟩))) htake)
    | exact wpAny_bind (wpAny_bind (m := Builtin.Tuple.tupleExact _) (wpAny_newObj_type (wpAny_pure (wpAny_pure ⟨_, rfl, wpAny_pure h⟩)) htake))
    | exact wpAny_bind (wpAny_bind (m := Builtin.Tuple.tupleExact _) (wpAny_newObj_type (wpAny_pure ⟨_, rfl, wpAny_pure h⟩) htake))
end
theorem vals_reverse : ∀ {xs : List V} {us : List Value}, Vals xs us → Vals xs.reverse us.reverse
  | _, _, .nil => .nil
  | _, _, .cons r t => by
    rw [List.reverse_cons, List.reverse_cons]
    exact Vals.append (vals_reverse t) (.cons r .nil)
section
open PySem.Spec
variable {X : Cx} {e k : Expr} {te : TE} {tk : TO} {pos p2 : Pos}
def tRevT (K : PySem.W.Frag) (te : TE) (tk : TO) : TE := fun σ H Q => te σ H fun x H1 => tk σ H1 fun o H2 => o = some (-1) ∧ ∃ a xs, x = .ref a ∧ SqT K H2 a xs ∧ ∀ p, H2 p = none → Q (.ref p) (upd H2 p (.tup xs.reverse))
/-- t[::-1] of a tuple -/
theorem pe_revT (K : PySem.W.Frag) (he : PE X e te) (hk : PO X (some k) tk) (hK : X.K = K := by rfl) : PE X (.Subscript e (.Slice none none (some k) p2) pos) (tRevT K te tk) := by
  subst hK
  refine ⟨fun pins s σ H Q I h => ?_⟩
  refine PyProof.Rows.Subscript_ (thn (he.run pins s σ H _ I h) fun v s1 ⟨x, H1, I1, r1, q1⟩ => ?_)
  refine wpAny_Slice ?_
  rw [evalPart_none]
  refine wpAny_pure (wpAny_pure (thn (hk.run pins s1 σ H1 _ I1 q1) fun vk s3 ⟨o, H3, I3, pk, q3⟩ => ?_))
  obtain ⟨rfl, a, xs, rfl, hx, q⟩ := q3
  cases r1
  have I4 : Inv X pins σ H3 { s3 with heap := s3.heap.push { cls := .type "slice", data := .fields #[.none, .none, vk] } } := I3.kept (t' := s3.toks) fun b ob q => Heap.get?_push_of_some _ q
  obtain ⟨its, r, ht, hz⟩ := I4.tuple hx
  show wpAny (model X.prog X.w) X.A (PyProof.Rows.subscriptTail e (.Slice none none (some k) p2) (.ref a) (.ref s3.heap.objs.size)) (EP X pins σ Q) X.xe { s3 with heap := s3.heap.push { cls := .type "slice", data := .fields #[.none, .none, vk] } }
  have hlen : its.toArray.size = xs.length := by rw [List.size_toArray]; exact r.length.symm
  refine PyProof.Rows.tail_any (ops := [.ref a, .ref s3.heap.objs.size]) ht.typeIs PyProof.Rows.slot_tuple_getitem.lookup (getItem_tuple_rev ht (Heap.IsSliceOf.new ..) pk ?_ (by rw [hlen]; exact hz)) (by with_unfolding_all rfl)
  refine ⟨.ref _, _, I4.laid (t' := s3.toks) (o := .tup xs.reverse) (fun b ob q => Heap.get?_push_of_some _ q) (Nat.le_refl _) ?_, rfl, q _ (I4.hok.fresh (Nat.le_refl _))⟩
  exact ⟨by rw [List.length_reverse]; exact hz, _, vals_reverse r, PyProof.Rows.IsTup.new _ _⟩
def tRevL (K : PySem.W.Frag) (te : TE) (tk : TO) : TE := fun σ H Q => te σ H fun x H1 => tk σ H1 fun o H2 => o = some (-1) ∧ ∃ a xs, x = .ref a ∧ SqL K H2 a xs ∧ ∀ p, H2 p = none → Q (.ref p) (upd H2 p (.lst xs.reverse))
/-- l[::-1] of a list -/
theorem pe_revL (K : PySem.W.Frag) (he : PE X e te) (hk : PO X (some k) tk) (hK : X.K = K := by rfl) : PE X (.Subscript e (.Slice none none (some k) p2) pos) (tRevL K te tk) := by
  subst hK
  refine ⟨fun pins s σ H Q I h => ?_⟩
  refine PyProof.Rows.Subscript_ (thn (he.run pins s σ H _ I h) fun v s1 ⟨x, H1, I1, r1, q1⟩ => ?_)
  refine wpAny_Slice ?_
  rw [evalPart_none]
  refine wpAny_pure (wpAny_pure (thn (hk.run pins s1 σ H1 _ I1 q1) fun vk s3 ⟨o, H3, I3, pk, q3⟩ => ?_))
  obtain ⟨rfl, a, xs, rfl, hx, q⟩ := q3
  cases r1
  have I4 : Inv X pins σ H3 { s3 with heap := s3.heap.push { cls := .type "slice", data := .fields #[.none, .none, vk] } } := I3.kept (t' := s3.toks) fun b ob q => Heap.get?_push_of_some _ q
  obtain ⟨its, r, ht, hz⟩ := I4.list hx
  show wpAny (model X.prog X.w) X.A (PyProof.Rows.subscriptTail e (.Slice none none (some k) p2) (.ref a) (.ref s3.heap.objs.size)) (EP X pins σ Q) X.xe { s3 with heap := s3.heap.push { cls := .type "slice", data := .fields #[.none, .none, vk] } }
  have hlen := r.length
  refine PyProof.Rows.tail_any (ops := [.ref a, .ref s3.heap.objs.size]) ht.isList.typeIs slot_list_getitem.lookup (wpAny_getItem_list_slice ht.isList (Heap.IsSliceOf.new ..) .none .none pk (by simp) ?_ (by rw [List.size_toArray] <;> omega)) (by with_unfolding_all rfl)
  rw [PySem.W.krv_pick]
  refine ⟨.ref _, _, I4.laid (t' := s3.toks) (o := .lst xs.reverse) (fun b ob q => Heap.get?_push_of_some _ q) (Nat.le_refl _) ?_, rfl, q _ (I4.hok.fresh (Nat.le_refl _))⟩
  exact ⟨by rw [List.length_reverse]; exact hz, _, 0, vals_reverse r, Heap.get?_push_size _ rfl⟩
end
end Kn

set_option Elab.async false
set_option maxRecDepth 100000
set_option linter.all false
namespace Kn
open PySem L2
/-! ### a list or a tuple is walked -/
def SqS (K : PySem.W.Frag) (H : Hp) (a : Addr) (xs : List V) : Prop := SqL K H a xs ∨ SqT K H a xs
theorem SqS.same {K : PySem.W.Frag} {H H' : Hp} {a : Addr} {xs : List V} (e : Same H H') (h : SqS K H a xs) : SqS K H' a xs := by
  rcases h with h | h
  · exact .inl (Same.seq e h)
  · exact .inr (SqT.same e h)
def iSeq (K : PySem.W.Frag) (tl : TE) : TI := fun σ H R => tl σ H fun x H1 => ∃ a, x = .ref a ∧ (((∃ xs, SqL K H1 a xs) ∧ R (Itl K a) H1) ∨ ((∃ xs, SqT K H1 a xs) ∧ R (Itt K a) H1))
section
variable {X : Cx} {tg l : Expr} {tl : TE}
theorem pi_seqK (K : PySem.W.Frag) (hl : PE X l tl) (hK : X.K = K := by rfl) : PI X tg l (iSeq K tl) := by
  subst hK
  refine ⟨fun pins s σ H R I hw => ?_⟩
  refine thn (hl.run pins s σ H _ I hw) fun v s1 ⟨x, H1, J, r1, q1⟩ => ?_
  obtain ⟨a, rfl, ⟨⟨xs, hx⟩, q⟩ | ⟨⟨xs, hx⟩, q⟩⟩ := q1
  · cases r1
    have fp : ∀ b ∈ [s1.heap.objs.size], FpOk X pins H1 b := fun b hb => by
      rw [List.mem_singleton.mp hb]
      exact J.fpOk (Nat.le_refl _) (J.hok.fresh (Nat.le_refl _))
    obtain ⟨its, _, p, _⟩ := J.list hx
    exact wpAny_pyIter_list p.isList ⟨_, _, _, _, H1, rfl, J.kept (t' := s1.toks) fun _ _ e => Heap.get?_push_of_some _ e, turn_list a _, ⟨_, Heap.get?_push_size _ rfl, rfl, rfl⟩, fp, q⟩
  · cases r1
    have fp : ∀ b ∈ [s1.heap.objs.size], FpOk X pins H1 b := fun b hb => by
      rw [List.mem_singleton.mp hb]
      exact J.fpOk (Nat.le_refl _) (J.hok.fresh (Nat.le_refl _))
    obtain ⟨its, _, p, _⟩ := J.tuple hx
    exact wpAny_pyIter_tuple (show s1.heap.IsTuple a its.toArray from p) ⟨_, _, _, _, H1, rfl, J.kept (t' := s1.toks) fun _ _ e => Heap.get?_push_of_some _ e, turn_tuple a _, ⟨_, Heap.get?_push_size _ rfl, rfl, rfl⟩, fp, q⟩
end
/-- what a for asks of an iterator -/
abbrev ForR (g : TG) (tb : TS) (D : Ends) (σ : St) (J : It) (H1 : Hp) : Prop := ∃ W : Nat → Nat → St → Hp → Prop, (∃ m, W 0 m σ H1) ∧ ∀ i m σ H, W i m σ H →
  (J.stop i H ∧ D.nx σ H) ∨ (J.go i H ∧ ∃ N : St → Hp → Prop, (∀ σ' H', N σ' H' → ∃ m', m' < m ∧ W (i + 1) m' σ' H') ∧ ∀ x H', J.yld i H x H' → g x σ H' fun σ2 H2 => tb { D with nx := N, ct := N, bk := D.nx } σ2 H2)
theorem for_seq {K : PySem.W.Frag} {a : Addr} {xs : List V} {g : TG} {tb : TS} {D : Ends} {σ : St} {H : Hp} (hq : SqS K H a xs) (Pv : Nat → St → Hp → Prop) (h0 : Pv 0 σ H) (hl : ∀ i σ H2, Pv i σ H2 → Same H H2)
    (hs : ∀ (i : Nat) x σ H, xs[i]? = some x → Pv i σ H → g x σ H fun σ2 H2 => tb { D with nx := Pv (i + 1), ct := Pv (i + 1), bk := D.nx } σ2 H2) (hd : ∀ σ H, Pv xs.length σ H → D.nx σ H) :
    ((∃ xs, SqL K H a xs) ∧ ForR g tb D σ (Itl K a) H) ∨ ((∃ xs, SqT K H a xs) ∧ ForR g tb D σ (Itt K a) H) := by
  rcases hq with hq | hq
  · exact .inl ⟨⟨_, hq⟩, for_list (xs := xs) Pv h0 (fun i σ H2 _ p => Same.seq (hl i σ H2 p) hq) hs hd⟩
  · exact .inr ⟨⟨_, hq⟩, for_tup (xs := xs) Pv h0 (fun i σ H2 _ p => SqT.same (hl i σ H2 p) hq) hs hd⟩
abbrev LcR (g : TG) (tt : TT) (te : TE) (vs : List Nat) (σ : St) (D : Addr) (Qd : Hp → Prop) (J : It) (H1 : Hp) : Prop := ∃ W : Nat → Nat → Hp → Prop, (∃ m, W 0 m (upd H1 D (.lst []))) ∧ ∀ i m H, W i m H →
  (J.stop i H ∧ Qd H) ∨ (J.go i H ∧ ∃ Nx : Hp → Prop, (∀ H', Nx H' → ∃ m', m' < m ∧ W (i + 1) m' H') ∧ ∀ x H', J.yld i H x H' → g x (wipe σ vs) H' fun σ2 H2 => wipe σ2 vs = wipe σ vs ∧ tt σ2 H2 fun b H3 =>
    if b = true then te σ2 H3 fun y H4 => ∃ acc, H4 D = some (.lst acc) ∧ acc.length < sizeLine ∧ Nx (upd H4 D (.lst (acc ++ [y]))) else Nx H3)
/-- a comprehension over a list or a tuple that only reads -/
theorem lc_accS {K : PySem.W.Frag} {a : Addr} {xs : List V} {g : TG} {tt : TT} {te : TE} {vs : List Nat} {σ : St} {H1 : Hp} {Q : Addr → Hp → Prop} (hq : SqS K H1 a xs) (acc : Nat → List V) (h0 : acc 0 = []) (hz : ∀ i, i < xs.length → (acc i).length < sizeLine)
    (hs : ∀ (i : Nat) x H (R1 : Hp → Prop) (R : V → Hp → Prop), xs[i]? = some x → Same H1 H → (acc (i + 1) = acc i → R1 H) → (∀ y, acc (i + 1) = acc i ++ [y] → R y H) → g x (wipe σ vs) H fun σ2 H2 => wipe σ2 vs = wipe σ vs ∧ tt σ2 H2 fun b H3 => if b = true then te σ2 H3 R else R1 H3)
    (hd : ∀ D, H1 D = none → Q D (upd H1 D (.lst (acc xs.length)))) :
    ((∃ xs, SqL K H1 a xs) ∧ ∀ D, H1 D = none → LcR g tt te vs σ D (fun H => Q D H) (Itl K a) H1) ∨ ((∃ xs, SqT K H1 a xs) ∧ ∀ D, H1 D = none → LcR g tt te vs σ D (fun H => Q D H) (Itt K a) H1) := by
  rcases hq with hq | hq
  · exact .inl ⟨⟨_, hq⟩, fun D hD => lc_accL acc hD hq h0 hz hs (hd D hD)⟩
  · exact .inr ⟨⟨_, hq⟩, fun D hD => lc_accT acc hD hq h0 hz hs (hd D hD)⟩
/-! ### comprehensions whose turns make new objects -/
theorem lc_growT {K : PySem.W.Frag} {a : Addr} {xs : List V} {g : TG} {tt : TT} {te : TE} {vs : List Nat} {σ : St} {H1 : Hp} {D : Addr} {Qd : Hp → Prop} (acc : Nat → List V) (hD : H1 D = none) (ha : SqT K H1 a xs) (h0 : acc 0 = []) (hz : ∀ i, i < xs.length → (acc i).length < sizeLine)
    (hs : ∀ (i : Nat) x H (R1 : Hp → Prop) (R : V → Hp → Prop), xs[i]? = some x → Same H1 H → (∀ H', Same H H' → acc (i + 1) = acc i → R1 H') → (∀ y H', Same H H' → acc (i + 1) = acc i ++ [y] → R y H') → g x (wipe σ vs) H fun σ2 H2 => wipe σ2 vs = wipe σ vs ∧ tt σ2 H2 fun b H3 => if b = true then te σ2 H3 R else R1 H3)
    (hd : ∀ H, Same H1 H → H D = some (.lst (acc xs.length)) → Qd H) : LcR g tt te vs σ D Qd (Itt K a) H1 := by
  refine lc_tup (xs := xs) (fun i H => Same H1 H ∧ H D = some (.lst (acc i))) ⟨fun b u e => by rw [upd_ne (ne_of_none e hD)]; exact e, by rw [h0]; exact upd_same⟩ (fun i H _ ⟨sm, _⟩ => SqT.same sm ha) ?_ fun H ⟨sm, e⟩ => hd H sm e
  rintro i x H hx ⟨sm, e⟩
  refine hs i x _ _ _ hx sm (fun H' sm' z => ⟨Same.trans sm sm', by rw [z]; exact sm' _ _ e⟩) fun y H' sm' z => ?_
  exact ⟨_, sm' _ _ e, hz i (List.getElem?_eq_some_iff.mp hx).1, fun b u q => by rw [upd_ne (ne_of_none q hD)]; exact sm' _ _ (sm _ _ q), by rw [z]; exact upd_same⟩
theorem lc_growL {K : PySem.W.Frag} {a : Addr} {xs : List V} {g : TG} {tt : TT} {te : TE} {vs : List Nat} {σ : St} {H1 : Hp} {D : Addr} {Qd : Hp → Prop} (acc : Nat → List V) (hD : H1 D = none) (ha : SqL K H1 a xs) (h0 : acc 0 = []) (hz : ∀ i, i < xs.length → (acc i).length < sizeLine)
    (hs : ∀ (i : Nat) x H (R1 : Hp → Prop) (R : V → Hp → Prop), xs[i]? = some x → Same H1 H → (∀ H', Same H H' → acc (i + 1) = acc i → R1 H') → (∀ y H', Same H H' → acc (i + 1) = acc i ++ [y] → R y H') → g x (wipe σ vs) H fun σ2 H2 => wipe σ2 vs = wipe σ vs ∧ tt σ2 H2 fun b H3 => if b = true then te σ2 H3 R else R1 H3)
    (hd : ∀ H, Same H1 H → H D = some (.lst (acc xs.length)) → Qd H) : LcR g tt te vs σ D Qd (Itl K a) H1 := by
  refine lc_list (xs := xs) (fun i H => Same H1 H ∧ H D = some (.lst (acc i))) ⟨fun b u e => by rw [upd_ne (ne_of_none e hD)]; exact e, by rw [h0]; exact upd_same⟩ (fun i H _ ⟨sm, _⟩ => Same.seq sm ha) ?_ fun H ⟨sm, e⟩ => hd H sm e
  rintro i x H hx ⟨sm, e⟩
  refine hs i x _ _ _ hx sm (fun H' sm' z => ⟨Same.trans sm sm', by rw [z]; exact sm' _ _ e⟩) fun y H' sm' z => ?_
  exact ⟨_, sm' _ _ e, hz i (List.getElem?_eq_some_iff.mp hx).1, fun b u q => by rw [upd_ne (ne_of_none q hD)]; exact sm' _ _ (sm _ _ q), by rw [z]; exact upd_same⟩
theorem lc_growR {lo : Int} {n : Nat} {g : TG} {tt : TT} {te : TE} {vs : List Nat} {σ : St} {H1 : Hp} {D : Addr} {Qd : Hp → Prop} (acc : Nat → List V) (hD : H1 D = none) (h0 : acc 0 = []) (hz : ∀ i, i < n → (acc i).length < sizeLine)
    (hs : ∀ (i : Nat) H (R1 : Hp → Prop) (R : V → Hp → Prop), i < n → Same H1 H → (∀ H', Same H H' → acc (i + 1) = acc i → R1 H') → (∀ y H', Same H H' → acc (i + 1) = acc i ++ [y] → R y H') → g (.int (lo + i)) (wipe σ vs) H fun σ2 H2 => wipe σ2 vs = wipe σ vs ∧ tt σ2 H2 fun b H3 => if b = true then te σ2 H3 R else R1 H3)
    (hd : ∀ H, Same H1 H → H D = some (.lst (acc n)) → Qd H) : LcR g tt te vs σ D Qd (Itr lo n) H1 := by
  refine lc_range (fun i H => Same H1 H ∧ H D = some (.lst (acc i))) ⟨fun b u e => by rw [upd_ne (ne_of_none e hD)]; exact e, by rw [h0]; exact upd_same⟩ ?_ fun H ⟨sm, e⟩ => hd H sm e
  rintro i H hi ⟨sm, e⟩
  refine hs i _ _ _ hi sm (fun H' sm' z => ⟨Same.trans sm sm', by rw [z]; exact sm' _ _ e⟩) fun y H' sm' z => ?_
  exact ⟨_, sm' _ _ e, hz i hi, fun b u q => by rw [upd_ne (ne_of_none q hD)]; exact sm' _ _ (sm _ _ q), by rw [z]; exact upd_same⟩
/-! ### over the signs of a text -/
theorem lc_accStr {x : Str} {g : TG} {tt : TT} {te : TE} {vs : List Nat} {σ : St} {H1 : Hp} {D : Addr} {Qd : Hp → Prop} (acc : Nat → List V) (hD : H1 D = none) (h0 : acc 0 = []) (hz : ∀ i, i < x.length → (acc i).length < sizeLine)
    (hs : ∀ (i : Nat) (c : Nat) H (R1 : Hp → Prop) (R : V → Hp → Prop), x.cps.toList[i]? = some c → Same H1 H → (acc (i + 1) = acc i → R1 H) → (∀ y, acc (i + 1) = acc i ++ [y] → R y H) → g (.str ⟨#[c]⟩) (wipe σ vs) H fun σ2 H2 => wipe σ2 vs = wipe σ vs ∧ tt σ2 H2 fun b H3 => if b = true then te σ2 H3 R else R1 H3)
    (hd : Qd (upd H1 D (.lst (acc x.length)))) : LcR g tt te vs σ D Qd (Its x) H1 := by
  have sm : ∀ o, Same H1 (upd H1 D o) := fun o b u e => by rw [upd_ne (ne_of_none e hD)]; exact e
  refine ⟨fun i m H => m = x.length - i ∧ i ≤ x.length ∧ H = upd H1 D (.lst (acc i)), ⟨x.length, by simp, Nat.zero_le _, by rw [h0]⟩, ?_⟩
  rintro i m H ⟨rfl, hi, rfl⟩
  by_cases hlt : i < x.length
  · refine .inr ⟨hlt, fun H' => H' = upd H1 D (.lst (acc (i + 1))), fun H' e => ⟨x.length - (i + 1), by omega, rfl, by omega, e⟩, ?_⟩
    rintro v H' ⟨rfl, c, hc, rfl⟩
    refine hs i c _ _ _ (by rw [Array.getElem?_toList]; exact hc) (sm _) (fun e => by rw [e]) fun y e => ?_
    exact ⟨_, upd_same, hz i hlt, by rw [e, upd_upd]⟩
  · have e : i = x.length := by omega
    subst e
    exact .inl ⟨Nat.le_refl _, hd⟩
/-! ### f-strings -/
def tJoined (ts : List TE) : TE := fun σ H Q => tJs ts Str.empty σ H fun out H1 => Q (.str out) H1
theorem pe_joinedN {X : Cx} {v1 v2 : Expr} {rest : List Expr} {ts : List TE} {pos : Pos} (h : PJ X (v1 :: v2 :: rest) ts) : PE X (.JoinedStr (v1 :: v2 :: rest) pos) (tJoined ts) := pe_joined h
/-! ### a call by keywords alone -/
section
variable {X : Cx} {CX : CXT} {k : Nat} {f : Addr} {fd : FuncData} {ps ks : List Str} {sp : Sp} {E : XK} {x : Str} {p pos : Pos} {kws : List Keyword} {tk : TA} {g : List Value → List Value → List Value} {gV : List V → List V → List V}
theorem pe_callN0 (F : FnOk X.prog X.w X.K X.mg X.base CX k f fd ps sp) (hr : Room k X.A) (hg : Gl X x) (hm : X.mg x = some (.ref f)) (hk : PySem.W.keepIn X.K (.ref f) = true) (hb : KBn X.K fd ps 0 ks g gV) (hx : Passes CX X E) (hkw : PK X kws tk)
    (hall : (backToKw pos (keywordEach kws X.env)).all (·.1.isSome) = true := by rfl) (hks : (backToKw pos (keywordEach kws X.env)).filterMap (·.1) = ks := by rfl) (hdb : (x == ("__debug__" : Str)) = false := by decide)
    (hpl : ((backTo pos (starEach [] X.env)).any (·.1) || (backToKw pos (keywordEach kws X.env)).any (·.1.isNone)) = false := by rfl) : PE X (.Call (.Name x p) [] kws pos) (tCallN 0 ks.length sp gV E tNil tk) := by
  refine ⟨fun pins s σ H Q I h => wpAny_Call_Name_kw (ld_glob I hg hm ?_ hdb)⟩
  refine PySem.W.callWith_KW0 (h₀ := X.base) I.ok.mod.kin hk hall (thn (hkw.run pos pins s σ H _ I h) fun ws s2 ⟨zs, H2, J, rz, _, l2, q⟩ => ⟨J.kIn, ?_⟩) hpl
  rw [hks]
  exact run_fnN (us := []) (vs := []) F hr hb hx J .nil rz rfl l2 q
end
end Kn

set_option Elab.async false
set_option maxRecDepth 100000
set_option linter.all false
namespace Kn
open PySem L2
/-- where the class of that name stands -/
def clsA (mg : Str → Option Value) (x : Str) : Addr := match mg x with
  | some (.ref a) => a
  | _ => 0
theorem clsA_of {mg : Str → Option Value} {x : Str} {a : Addr} (h : mg x = some (.ref a)) : clsA mg x = a := by unfold clsA; rw [h]
/-- an exception class of the text over ValueError, without an __init__ -/
structure ExcF (K : PySem.W.Frag) (mg : Str → Option Value) (x : Str) : Prop where
  g : mg x = some (.ref (clsA mg x))
  ex : PySem.W.excIn K (clsA mg x) [.type "ValueError", .type "Exception", .type "BaseException", .type "object"] "ValueError.__new__" = true
  k : PySem.W.keepIn K (.ref (clsA mg x)) = true
  b : PySem.W.subIn K (.ref (clsA mg x)) (.type "BaseException") = some true
  t : PySem.W.typeIn K (.ref (clsA mg x)) = some (.type "type")
theorem Fz.okX {P : Program} {w : World} {K : PySem.W.Frag} {mg : Str → Option Value} {base : Heap} {x : Str} {st : Stmt} {ps N : List Str} {k : Nat} {sp : Sp} (F : Fz K mg x st ps) (S : FnScope N ps (defScope st)) (len : ∀ vs H Q E, sp vs H Q E → vs.length = ps.length)
    (hbody : ∀ (f : Addr) (cdv : Value) (A : Around) (outer : List Env) (s : Shared) (H : Hp) (vs : List V) (Q : VK) (E : XK), Room k (A.deeper (PyProof.Rows.envOfC x (defScope st) s.heap.objs.size f cdv)) → sp vs H Q E →
      ∃ t, PSs (cxOf (L2.CX P w) P w K mg base N x (defScope st) f cdv A outer s H E) (defBody st) t ∧ t { nx := fun _ H' => Q .non H', rt := Q } (start N vs) H) : Fx P w K mg base (L2.CX P w) x (k + 1) ps sp := by
  obtain ⟨f, fd, F1, m, b⟩ := F.ex
  exact ⟨f, fd, F1.okX S len (hbody f), m, F1.kp, b⟩
/-- a def whose arguments bind as B says -/
structure FzB (K : PySem.W.Frag) (mg : Str → Option Value) (x : Str) (st : Stmt) (B : FuncData → Prop) : Prop where
  ex : ∃ (f : Addr) (fd : FuncData), Fun K x x st f fd ∧ mg x = some (.ref f) ∧ B fd
structure FxB (P : Program) (w : World) (K : PySem.W.Frag) (mg : Str → Option Value) (base : Heap) (CX : CXT) (x : Str) (k : Nat) (ps : List Str) (sp : Sp) (B : FuncData → Prop) : Prop where
  ex : ∃ (f : Addr) (fd : FuncData), FnOk P w K mg base CX k f fd ps sp ∧ mg x = some (.ref f) ∧ PySem.W.keepIn K (.ref f) = true ∧ B fd
theorem FzB.okX {P : Program} {w : World} {K : PySem.W.Frag} {mg : Str → Option Value} {base : Heap} {x : Str} {st : Stmt} {ps N : List Str} {k : Nat} {sp : Sp} {B : FuncData → Prop} (F : FzB K mg x st B) (S : FnScope N ps (defScope st)) (len : ∀ vs H Q E, sp vs H Q E → vs.length = ps.length)
    (hbody : ∀ (f : Addr) (cdv : Value) (A : Around) (outer : List Env) (s : Shared) (H : Hp) (vs : List V) (Q : VK) (E : XK), Room k (A.deeper (PyProof.Rows.envOfC x (defScope st) s.heap.objs.size f cdv)) → sp vs H Q E →
      ∃ t, PSs (cxOf (L2.CX P w) P w K mg base N x (defScope st) f cdv A outer s H E) (defBody st) t ∧ t { nx := fun _ H' => Q .non H', rt := Q } (start N vs) H) : FxB P w K mg base (L2.CX P w) x (k + 1) ps sp B := by
  obtain ⟨f, fd, F1, m, b⟩ := F.ex
  exact ⟨f, fd, F1.okX S len (hbody f), m, F1.kp, b⟩
section
variable {X : Cx} {k : Nat} {ps ks : List Str} {sp : Sp} {x : Str} {p pos : Pos} {kws : List Keyword} {tk : TA} {B : FuncData → Prop} {gV : List V → List V → List V} {CX : CXT} {E : XK}
/-- f(k = v, ..) -/
theorem kcall (F : FxB X.prog X.w X.K X.mg X.base CX x k ps sp B) (hB : ∀ fd, B fd → ∃ g, KBn X.K fd ps 0 ks g gV) (hr : Room k X.A) (hg : Gl X x) (hx : Passes CX X E) (hkw : PK X kws tk)
    (hall : (backToKw pos (keywordEach kws X.env)).all (·.1.isSome) = true := by rfl) (hks : (backToKw pos (keywordEach kws X.env)).filterMap (·.1) = ks := by rfl) (hdb : (x == ("__debug__" : Str)) = false := by decide)
    (hpl : ((backTo pos (starEach [] X.env)).any (·.1) || (backToKw pos (keywordEach kws X.env)).any (·.1.isNone)) = false := by rfl) : PE X (.Call (.Name x p) [] kws pos) (tCallN 0 ks.length sp gV E tNil tk) := by
  obtain ⟨f, fd, F1, m, kp, b⟩ := F.ex
  obtain ⟨g, hb⟩ := hB fd b
  exact pe_callN0 F1 hr hg m kp hb hx hkw hall hks hdb hpl
end
section
variable {X : Cx} {k : Nat} {ps : List Str} {sp : Sp} {E : XK} {x : Str} {p pos : Pos} {e : Expr} {es : List Expr} {t : TA}
/-- a call of a def that may raise, where it does not -/
theorem fcall0 (F : Fx X.prog X.w X.K X.mg X.base (L2.CX X.prog X.w) x k ps sp) (hr : Room k X.A) (hg : Gl X x) (ha : PA X (e :: es) t)
    (hdb : (x == ("__debug__" : Str)) = false := by decide) (he : starEach (e :: es) X.env = (false, eval e X.env) :: starEach es X.env := by rfl) (hpl : (backTo pos (starEach es X.env)).any (·.1) = false := by rfl) :
    PE X (.Call (.Name x p) (e :: es) [] pos) (tCall sp [] E0 t) := by
  obtain ⟨f, fd, F1, m, kp, b⟩ := F.ex
  exact pe_call F1 hr hg m kp b .nil passL ha hdb he hpl
/-- .. where what it raises leaves this def too -/
theorem fcallX {W : WX} (tk : Takes X W) (F : Fx X.prog X.w X.K X.mg X.base (L2.CX X.prog X.w) x k ps sp) (hr : Room k X.A) (hg : Gl X x) (ha : PA X (e :: es) t)
    (hdb : (x == ("__debug__" : Str)) = false := by decide) (he : starEach (e :: es) X.env = (false, eval e X.env) :: starEach es X.env := by rfl) (hpl : (backTo pos (starEach es X.env)).any (·.1) = false := by rfl) :
    PE X (.Call (.Name x p) (e :: es) [] pos) (tCallS sp (WE W) t) := by
  obtain ⟨f, fd, F1, m, kp, b⟩ := F.ex
  exact pe_callS F1 hr hg m kp b (fun σ => passAt tk σ) ha hdb he hpl
end
section
variable {X : Cx} {k n : Nat} {f : Addr} {fd : FuncData} {ps ks : List Str} {sp : Sp} {E : St → XK} {x : Str} {p pos : Pos} {kws : List Keyword} {tk : TA} {B : FuncData → Prop} {g : List Value → List Value → List Value} {gV : List V → List V → List V} {CX : CXT}
theorem run_kS {pins : List (Addr × Obj)} {σ : St} {H : Hp} {s : Shared} {Q : VK} {us ws : List Value} {vs zs : List V} (F : FnOk X.prog X.w X.K X.mg X.base CX k f fd ps sp) (hr : Room k X.A) (hb : KBn X.K fd ps n ks g gV) (hx : PassesAt CX X σ (E σ))
    (J : Inv X pins σ H s) (r : Vals vs us) (rz : Vals zs ws) (l1 : vs.length = n) (l2 : zs.length = ks.length) (h : sp (gV vs zs) H Q (E σ)) : wpAny (model X.prog X.w) X.A (call (.ref f) us (ks.zip ws)) (EP X pins σ Q) X.xe s := by
  have r2 := hb.rel r rz
  have bt := hb.to s us ws J.kIn (r.length.symm.trans l1) (rz.length.symm.trans l2)
  refine wpAny_call (codeAny_mono (F.run X.A X.stack s H ⟨us, ks.zip ws⟩ (g us ws) (gV vs zs) Q (E σ) hr J.env0 bt r2 h) fun fl s' hq => ?_)
  match fl, hq with
  | .error e, hq => exact hx pins H s e s' J hq
  | .ok (.ret u), hq => exact J.after hq
  | .ok .next, hq => exact hq.elim
  | .ok .brk, hq => exact hq.elim
  | .ok .cont, hq => exact hq.elim
def tCallNS (m : Nat) (sp : Sp) (gV : List V → List V → List V) (E : St → XK) (tk : TA) : TE := fun σ H Q => tk σ H fun zs H2 => zs.length = m ∧ sp (gV [] zs) H2 Q (E σ)
/-- f(k = v, ..) of a def that may raise, within a try -/
theorem kcallS {W : WX} (tkk : Takes X W) (F : FxB X.prog X.w X.K X.mg X.base (L2.CX X.prog X.w) x k ps sp B) (hB : ∀ fd, B fd → ∃ g, KBn X.K fd ps 0 ks g gV) (hr : Room k X.A) (hg : Gl X x) (hkw : PK X kws tk)
    (hall : (backToKw pos (keywordEach kws X.env)).all (·.1.isSome) = true := by rfl) (hks : (backToKw pos (keywordEach kws X.env)).filterMap (·.1) = ks := by rfl) (hdb : (x == ("__debug__" : Str)) = false := by decide)
    (hpl : ((backTo pos (starEach [] X.env)).any (·.1) || (backToKw pos (keywordEach kws X.env)).any (·.1.isNone)) = false := by rfl) : PE X (.Call (.Name x p) [] kws pos) (tCallNS ks.length sp gV (WE W) tk) := by
  obtain ⟨f, fd, F1, m, kp, b⟩ := F.ex
  obtain ⟨g, hb⟩ := hB fd b
  refine ⟨fun pins s σ H Q I h => wpAny_Call_Name_kw (ld_glob I hg m ?_ hdb)⟩
  refine PySem.W.callWith_KW0 (h₀ := X.base) I.ok.mod.kin kp hall (thn (hkw.run pos pins s σ H _ I h) fun ws s2 ⟨zs, H2, J, rz, l2, q⟩ => ⟨J.kIn, ?_⟩) hpl
  rw [hks]
  exact run_kS (us := []) (vs := []) (E := WE W) F1 hr hb (passAt tkk σ) J .nil rz rfl l2 q
end
/-- isinstance(e, c) in an except suite, e of a class without fields -/
def rIsX (K : PySem.W.Frag) (cls : Value) (d : Option Addr) (a : Addr) : List V → Hp → VK → Prop := fun xs H Q => ∃ (D : Addr) (c : V) (cv : Value) (b : Bool), cls = .ref D ∧ d = none ∧ ExcC K D ∧ xs = [.ref a, c] ∧ (∀ u, RelV c u → u = cv) ∧ PySem.W.kitOne K (.ref D) cv = some b ∧ Q (.bl b) H
theorem call_isX {X : Cx} {a : Addr} {cls : Value} {d : Option Addr} {oe : Obj} {pn : List (Addr × Obj)} (K : PySem.W.Frag) (hz : Zc cls d oe) (hf : ∃ vs, oe.data = .fields vs) (hK : X.K = K := by rfl) : CallR (X.suite a ((a, oe) :: pn)) (.builtin "isinstance") (rIsX K cls d a) := by
  subst hK
  intro pins s σ H xs us Q I r h
  obtain ⟨D, c, cv, b, rfl, rfl, C, e, hcv, k, q⟩ := h
  exact call_isE C hz hf pins s σ H xs us Q I r ⟨c, cv, b, e, hcv, k, q⟩
end Kn

set_option Elab.async false
set_option maxRecDepth 100000
set_option linter.all false
namespace Kn
open PySem L2
def top (i : Nat) : Stmt := PySem.Challenge.pw_kindnotes_k09_ways_are_made.main.body.getD i (.Pass ⟨0, 0, 0, 0⟩)
structure Txt (K : PySem.W.Frag) (mg : Str → Option Value) : Prop where
  b_all : mg "all" = none
  b_bool : mg "bool" = none
  b_int : mg "int" = none
  b_isinstance : mg "isinstance" = none
  b_len : mg "len" = none
  b_list : mg "list" = none
  b_range : mg "range" = none
  b_sorted : mg "sorted" = none
  b_tuple : mg "tuple" = none
  c_FOUND : ∃ u, mg "FOUND" = some u ∧ RelV (.str "found") u
  c_MOST_PLACES : ∃ u, mg "MOST_PLACES" = some u ∧ RelV (.int 3) u
  c_TOLD : ∃ u, mg "TOLD" = some u ∧ RelV (.str "told") u
  e_BadWay : ExcF K mg "BadWay"
  g_BadWay : mg "BadWay" = some (.ref (clsA mg "BadWay"))
  g_NotesError : mg "NotesError" = some (.ref (clsA mg "NotesError"))
  g_BadKind : mg "BadKind" = some (.ref (clsA mg "BadKind"))
  exm_BadWay_NotesError : PySem.W.exmOne K (.ref (clsA mg "BadWay")) (.ref (clsA mg "NotesError")) = some true
  kit_BadWay_BadWay : PySem.W.kitOne K (.ref (clsA mg "BadWay")) (.ref (clsA mg "BadWay")) = some true
  kit_BadWay_BadKind : PySem.W.kitOne K (.ref (clsA mg "BadWay")) (.ref (clsA mg "BadKind")) = some false
  q_BadWay : ExcC K (clsA mg "BadWay")
end Kn

set_option Elab.async false
set_option maxRecDepth 100000
set_option linter.all false
namespace Kn
open PySem L2
local macro_rules | `(tactic| walk_at "wk") => `(tactic| repeat (first
  | refine ⟨_, rfl, ?_⟩
  | refine ⟨_, _, rfl, rfl, ?_⟩
  | refine ⟨⟨by decide, by decide⟩, ?_⟩
  | refine ⟨(by show (0 : Int) < _; decide), ?_⟩
  | refine ⟨Or.inl ⟨by omega, by omega⟩, ?_⟩
  | refine Or.inl ⟨_, rfl, ?_⟩
  | fail))
variable {P : Program} {w : World} {K : PySem.W.Frag} {mg : Str → Option Value} {base : Heap}
abbrev s__law_take : Stmt := top 16
abbrev N__law_take : List Str := ["_law_tape_here", "_law_many"]
abbrev P__law_take : List Str := ["_law_tape_here", "_law_many"]
theorem sc__law_take : FnScope N__law_take P__law_take (defScope s__law_take) := ⟨rfl, rfl, rfl, by decide +kernel, rfl, by decide +kernel, by decide +kernel⟩
theorem ok__law_take (F : Fz K mg "_law_take" s__law_take P__law_take) (T : Txt K mg) : Fx P w K mg base CX0 "_law_take" 1 P__law_take spTake := by
  refine F.ok sc__law_take (fun vs H Q E h => ?_) (fun f cdv A outer s H vs Q E hr h => ?_)
  · obtain ⟨t, m, rfl, _⟩ := h
    rfl
  · obtain ⟨t, m, rfl, ⟨ns, ht⟩, hm, k⟩ := h
    refine ⟨_, (pss_cons (ps_if (pt_cmpR op_eq (pe_callB (call_len_seqK K) (by rfl) T.b_len PySem.boot_len (pa_cons (pv 0) pa_nil)) pe_int (nomark _)) (pss_one (ps_ret pe_int)) pss_nil)
      (pss_one (ps_ret (pe_op op_mod (pe_callTy call_int1 (by rfl) T.b_int (by decide +kernel) (pa_cons (pe_bmK K PySem.F.plainAttrs_list PySem.F.slot_list_pop PySem.F.type_list_pop mt_popAt (pv 0) (pa_cons pe_int pa_nil)) pa_nil)) (pv 1))))), ?_⟩
    refine ⟨_, rfl, t, _, rfl, .inl (SqL.of ht), rfl, _, rfl, ?_⟩
    refine ite2 (fun c => ?_) (fun c => ?_)
    · exact k 0 H (Int.le_refl _) hm (Dr.refl ⟨ns, ht⟩)
    · cases ns with
      | nil => exact (c rfl).elim
      | cons n ns =>
        refine ⟨_, rfl, .inl ⟨rfl, _, SqL.of ht⟩, t, _, 0, 0, _, rfl, rfl, ht, by decide, by decide, by simp [seqIndex?], rfl, .inl ⟨n, rfl, ?_⟩⟩
        refine ⟨_, rfl, n, m, rfl, rfl, hm, ?_⟩
        exact k (n % m) _ (Int.emod_nonneg _ (by omega)) (Int.emod_lt_of_pos _ hm) (Dr.put ns)

abbrev s__law_cell : Stmt := top 14
abbrev N__law_cell : List Str := ["_law_script", "_law_k"]
abbrev P__law_cell : List Str := ["_law_script", "_law_k"]
theorem sc__law_cell : FnScope N__law_cell P__law_cell (defScope s__law_cell) := ⟨rfl, rfl, rfl, by decide +kernel, rfl, by decide +kernel, by decide +kernel⟩
def spCell (K : PySem.W.Frag) : Sp := fun vs H Q _ => ∃ (a : Addr) (k : Int) (ns : List Int), vs = [.ref a, .int k] ∧ SqL K H a (ns.map V.int) ∧ 0 ≤ k ∧ ∀ z, Q (.int z) H
theorem ok__law_cell (F : Fz K mg "_law_cell" s__law_cell P__law_cell) (T : Txt K mg) : Fx P w K mg base CX0 "_law_cell" 1 P__law_cell (spCell K) := by
  refine F.ok sc__law_cell (fun vs H Q E h => ?_) (fun f cdv A outer s H vs Q E hr h => ?_)
  · obtain ⟨a, i, ns, rfl, _⟩ := h
    rfl
  · obtain ⟨a, i, ns, rfl, hs, hi, k⟩ := h
    refine ⟨_, (pss_cons (ps_if (pt_cmpR op_lt (pv 1) (pe_callB (call_len_seqK K) (by rfl) T.b_len PySem.boot_len (pa_cons (pv 0) pa_nil)) (nomark _)) (pss_one (ps_ret (pe_ix (ix_listK K) (pv 0) (pv 1) (fun _ _ => rfl)))) pss_nil)
      (pss_one (ps_ret pe_int))), ?_⟩
    refine ⟨_, rfl, _, rfl, a, _, rfl, .inl hs, _, _, rfl, rfl, _, rfl, ?_⟩
    refine ite2 (fun c => ?_) (fun c => ?_)
    · have c := of_decide_eq_true c
      rw [List.length_map] at c
      have hj : i.toNat < ns.length := by omega
      refine ⟨_, rfl, _, rfl, a, _, i, V.int ns[i.toNat], rfl, rfl, hs, at_of (j := i.toNat) (by omega) (by simp [hj]), k _⟩
    · exact k _

abbrev s__law_tape : Stmt := top 15
abbrev N__law_tape : List Str := ["_law_script", "_law_k", "_law_size", "_law_cell_here", "_law_left", "_law_tape_here", "_law_j", "_law_mixed"]
abbrev P__law_tape : List Str := ["_law_script", "_law_k", "_law_size"]
theorem sc__law_tape : FnScope N__law_tape P__law_tape (defScope s__law_tape) := ⟨rfl, rfl, rfl, by decide +kernel, rfl, by decide +kernel, by decide +kernel⟩
def spTape (K : PySem.W.Frag) : Sp := fun vs H Q _ => ∃ (a : Addr) (k n : Int) (ns : List Int), vs = [.ref a, .int k, .int n] ∧ SqL K H a (ns.map V.int) ∧ 0 ≤ k ∧ 0 ≤ n ∧ n ≤ 1000 ∧
  ∀ (t : Addr) (H' : Hp), H t = none → Same H H' → Tape H' t → Q (.ref t) H'
theorem ok__law_tape (F : Fz K mg "_law_tape" s__law_tape P__law_tape) (T : Txt K mg) (G__law_cell : Fx P w K mg base CX0 "_law_cell" 1 P__law_cell (spCell K)) : Fx P w K mg base CX0 "_law_tape" 2 P__law_tape (spTape K) := by
  refine F.ok sc__law_tape (fun vs H Q E h => ?_) (fun f cdv A outer s H vs Q E hr h => ?_)
  · obtain ⟨a, i, n, ns, rfl, _⟩ := h
    rfl
  · obtain ⟨a, i, n, ns, rfl, hs, hi, hn0, hn, k⟩ := h
    refine ⟨_, (pss_cons (ps_set (i := 3) sc__law_tape.nd rfl (Or.inl rfl) (fcall G__law_cell (hr.mono (by decide)) (by rfl) (pa_cons (pv 0) (pa_cons (pv 1) pa_nil))))
      (pss_cons (ps_set (i := 4) sc__law_tape.nd rfl (Or.inl rfl) (pv 3))
      (pss_cons (ps_set (i := 5) sc__law_tape.nd rfl (Or.inl rfl) (pe_lst pa_nil))
      (pss_cons (ps_for PassesOwn.never rfl (pi_range1 (by rfl) T.b_range (pa_cons (pv 2) pa_nil)) (pg_name (i := 6) sc__law_tape.nd rfl (Or.inl rfl)) (pss_one (ps_if (PW.pt (pw_and (pt_cmpR op_ge (pv 3) (pe_op op_pow pe_int pe_int) (nomark _)) (pw_and1 (pt_cmpR op_gt (pv 4) pe_int (nomark _))))) (pss_cons (ps_expr (pe_bmK K PySem.F.plainAttrs_list PySem.F.slot_list_append PySem.F.type_list_append mt_append (pv 5) (pa_cons (pe_op op_mod (pe_callTy call_int1 (by rfl) T.b_int (by decide +kernel) (pa_cons (pv 4) pa_nil)) pe_int) pa_nil)))
      (pss_one (ps_set (i := 4) sc__law_tape.nd rfl (Or.inl rfl) (pe_op op_fdiv (pv 4) pe_int)))) (pss_cons (ps_set (i := 7) sc__law_tape.nd rfl (Or.inl rfl) (pe_op op_mod (pe_callTy call_int1 (by rfl) T.b_int (by decide +kernel) (pa_cons (pe_op op_add (pe_op op_mul (pe_op op_mod (pe_callTy call_int1 (by rfl) T.b_int (by decide +kernel) (pa_cons (pv 3) pa_nil)) pe_int) (pe_op op_add pe_int (pe_op op_mul pe_int (pv 6)))) (pe_op op_mul pe_int (pv 6))) pa_nil)) pe_int))
      (pss_one (ps_expr (pe_bmK K PySem.F.plainAttrs_list PySem.F.slot_list_append PySem.F.type_list_append mt_append (pv 5) (pa_cons (pe_op op_add (pv 7) (pe_op op_fdiv (pv 7) pe_int)) pa_nil))))))))
      (pss_one (ps_ret (pv 5))))))), ?_⟩
    refine ⟨_, rfl, _, rfl, a, i, ns, rfl, hs, hi, fun z => ?_⟩
    refine ⟨_, rfl, (by show 0 ≤ sizeLine; decide), fun t ht => ?_⟩
    refine ⟨_, rfl, n, rfl, by omega, by omega, ?_⟩
    refine for_range (n := n.toNat) (fun j σ H2 => ∃ (l : Int) (v6 v7 : Option V) (ms : List Int), σ = [some (.ref a), some (.int i), some (.int n), some (.int z), some (.int l), some (.ref t), v6, v7] ∧ H2 t = some (.lst (ms.map V.int)) ∧ ms.length = j ∧ ∀ b o, H b = some o → H2 b = some o) ?_ ?_ ?_
    · exact ⟨z, _, _, [], rfl, upd_same, rfl, fun b o e => by rw [upd_ne (ne_of_none e ht)]; exact e⟩
    · rintro j σ H2 hj ⟨l, v6, v7, ms, rfl, h2, hl, kp⟩
      have step : ∀ (x : Int) (l' : Int) (v6' v7' : Option V), ∃ (l : Int) (v6 v7 : Option V) (ms' : List Int), [some (V.ref a), some (V.int i), some (V.int n), some (V.int z), some (V.int l'), some (V.ref t), v6', v7'] = [some (V.ref a), some (.int i), some (.int n), some (.int z), some (.int l), some (.ref t), v6, v7] ∧ (upd H2 t (.lst (ms.map V.int ++ [V.int x]))) t = some (.lst (ms'.map V.int)) ∧ ms'.length = j + 1 ∧ ∀ b o, H b = some o → (upd H2 t (.lst (ms.map V.int ++ [V.int x]))) b = some o := fun x l' v6' v7' =>
        ⟨l', v6', v7', ms ++ [x], rfl, by rw [upd_same]; simp, by simp [hl], fun b o e => by rw [upd_ne (ne_of_none e ht)]; exact kp b o e⟩
      have hp : (10 : Int) ^ (18 : Int).toNat = 1000000000000000000 := by decide
      have app : ∀ (x : Int) (l' : Int) (v6' v7' : Option V), (ms.map V.int).length < sizeLine := fun _ _ _ _ => small1000 (by rw [List.length_map]; omega)
      have hm : 0 ≤ z % 9973 ∧ z % 9973 < 9973 := ⟨Int.emod_nonneg _ (by decide), Int.emod_lt_of_pos _ (by decide)⟩
      refine ⟨_, rfl, _, _, rfl, rfl, ⟨by decide, by decide, by decide⟩, _, _, rfl, rfl, _, rfl, ?_⟩
      refine ite2 (fun c => ?_) (fun c => ?_)
      · refine ⟨_, rfl, _, _, rfl, rfl, _, rfl, ?_⟩
        refine ite2 (fun c2 => ?_) (fun c2 => ?_)
        · refine ⟨_, rfl, .inl ⟨rfl, _, SqL.of h2⟩, _, rfl, .inl ⟨l, rfl, ?_⟩⟩
          refine ⟨_, _, rfl, rfl, (by show (0 : Int) < 5040; decide), t, _, _, rfl, rfl, h2, app 0 0 none none, ?_⟩
          refine ⟨_, rfl, _, _, rfl, rfl, ⟨by decide, by decide⟩, ?_⟩
          exact step _ _ _ _
        · walk_at "wk"
          refine ⟨.inl ⟨rfl, _, SqL.of h2⟩, ?_⟩
          walk_at "wk"
          exact ⟨t, _, _, rfl, rfl, h2, app 0 0 none none, step _ _ _ _⟩
      · walk_at "wk"
        refine ⟨.inl ⟨rfl, _, SqL.of h2⟩, ?_⟩
        walk_at "wk"
        exact ⟨t, _, _, rfl, rfl, h2, app 0 0 none none, step _ _ _ _⟩
    · rintro σ H2 ⟨l, v6, v7, ms, rfl, h2, hl, kp⟩
      exact ⟨_, rfl, k t H2 ht kp ⟨ms, h2⟩⟩

end Kn

set_option Elab.async false
set_option maxRecDepth 100000
set_option linter.all false
namespace Kn
open PySem L2
local macro_rules | `(tactic| walk_at "wk") => `(tactic| repeat (first
  | refine ⟨_, rfl, ?_⟩
  | refine ⟨_, _, rfl, rfl, ?_⟩
  | refine ⟨⟨by decide, by decide⟩, ?_⟩
  | refine ⟨(by show (0 : Int) < _; decide), ?_⟩
  | refine ⟨Or.inl ⟨by omega, by omega⟩, ?_⟩
  | refine Or.inl ⟨_, rfl, ?_⟩
  | fail))
variable {P : Program} {w : World} {K : PySem.W.Frag} {mg : Str → Option Value} {base : Heap}
/-! ### ways -/
structure Way where
  whole : Str
  steps : List (Int × Str)
  noted : List Int
  deriving DecidableEq
def stepD (p : Int × Str) : PyData := .tuple [.int p.1, .str p.2]
def Way.d (w : Way) : PyData := .tuple [.str w.whole, .tuple (w.steps.map stepD), .tuple (w.noted.map .int)]
theorem way_inv {K : PySem.W.Frag} {H : Hp} {v : V} {w : Way} (h : Dp K H v w.d) : ∃ p s n sx, v = .ref p ∧ SqT K H p [.str w.whole, .ref s, .ref n] ∧ SqT K H s sx ∧ DpAll K H sx (w.steps.map stepD) ∧ SqT K H n (w.noted.map V.int) := by
  obtain ⟨p, xs, rfl, hp, hx⟩ := h.tup_inv
  cases hx with
  | cons h1 hx => cases hx with
    | cons h2 hx => cases hx with
      | cons h3 hx =>
        cases hx
        cases h1
        obtain ⟨s, sx, rfl, hs, hsx⟩ := h2.tup_inv
        obtain ⟨n, nx, rfl, hn, hnx⟩ := h3.tup_inv
        rw [hnx.ints_inv] at hn
        exact ⟨p, s, n, sx, rfl, hp, hs, hsx, hn⟩
theorem step_inv {K : PySem.W.Frag} {H : Hp} {v : V} {p : Int × Str} (h : Dp K H v (stepD p)) : ∃ a, v = .ref a ∧ SqT K H a [.int p.1, .str p.2] := by
  obtain ⟨a, xs, rfl, ha, hx⟩ := h.tup_inv
  cases hx with
  | cons g1 hx => cases hx with
    | cons g2 hx =>
      cases hx; cases g1; cases g2
      exact ⟨a, rfl, ha⟩
theorem nl_step (p : Int × Str) : nl (stepD p) = true := by simp [stepD, nl, nlAll]
theorem nl_steps (l : List (Int × Str)) : nlAll (l.map stepD) = true := nlAll_mem fun d hd => by
  obtain ⟨p, _, rfl⟩ := List.mem_map.mp hd
  exact nl_step p
theorem nl_ints (l : List Int) : nlAll (l.map PyData.int) = true := nlAll_mem fun d hd => by
  obtain ⟨p, _, rfl⟩ := List.mem_map.mp hd
  simp [nl]
theorem nl_way (y : Way) : nl y.d = true := by
  unfold Way.d
  simp [nl, nlAll, nl_steps, nl_ints]
theorem nl_ways (ws : List Way) : nlAll (ws.map Way.d) = true := nlAll_mem fun d hd => by
  obtain ⟨y, _, rfl⟩ := List.mem_map.mp hd
  exact nl_way y
theorem DpAll.getMap {α : Type} {K : PySem.W.Frag} {H : Hp} {f : α → PyData} {l : List α} {vs : List V} {i : Nat} {v : V} (a : DpAll K H vs (l.map f)) (e : vs[i]? = some v) : ∃ y, l[i]? = some y ∧ Dp K H v (f y) := by
  obtain ⟨d, hd, h⟩ := a.get e
  rw [List.getElem?_map] at hd
  obtain ⟨y, hy, rfl⟩ := Option.map_eq_some_iff.mp hd
  exact ⟨y, hy, h⟩
theorem take_succ_get {α : Type} {l : List α} {i : Nat} {y : α} (h : l[i]? = some y) : l.take (i + 1) = l.take i ++ [y] := by
  obtain ⟨hi, e⟩ := List.getElem?_eq_some_iff.mp h
  rw [List.take_succ_eq_append_getElem hi, e]
theorem DpAll.take_len {α : Type} {K : PySem.W.Frag} {H : Hp} {f : α → PyData} {l : List α} {vs : List V} (a : DpAll K H vs (l.map f)) : l.take vs.length = l := by
  have := a.len
  rw [List.length_map] at this
  rw [this, List.take_length]
theorem isi {K : PySem.W.Frag} {a b : String} {r : Bool} (h : kitB a b = some r) : PySem.W.kitOne K (.type a) (.type b) = some r := kit_ty h
theorem kit_int_int : kitB "int" "int" = some true := by decide +kernel
theorem kit_int_bool : kitB "int" "bool" = some false := by decide +kernel
theorem kit_str_int : kitB "str" "int" = some false := by decide +kernel
theorem kit_tup_tup : kitB "tuple" "tuple" = some true := by decide +kernel
theorem kit_str_str : kitB "str" "str" = some true := by decide +kernel
theorem kit_tup_str : kitB "tuple" "str" = some false := by decide +kernel
theorem kit_str_tup : kitB "str" "tuple" = some false := by decide +kernel
theorem kit_lst_lst : kitB "list" "list" = some true := by decide +kernel

abbrev s_are_integers : Stmt := top 9
abbrev N_are_integers : List Str := ["numbers", "number"]
abbrev P_are_integers : List Str := ["numbers"]
theorem sc_are_integers : FnScope N_are_integers P_are_integers (defScope s_are_integers) := ⟨rfl, rfl, rfl, by decide +kernel, rfl, by decide +kernel, by decide +kernel⟩
/-- numbers: a list or a tuple of ints -/
def spInts (K : PySem.W.Frag) : Sp := fun vs H Q _ => ∃ (a : Addr) (ns : List Int), vs = [.ref a] ∧ SqS K H a (ns.map V.int) ∧ ns.length ≤ 1000 ∧ ∀ H', Same H H' → Q (.bl true) H'
theorem ok_are_integers (F : Fz K mg "are_integers" s_are_integers P_are_integers) (T : Txt K mg) : Fx P w K mg base CX0 "are_integers" 1 P_are_integers (spInts K) := by
  refine F.ok sc_are_integers (fun vs H Q E h => ?_) (fun f cdv A outer s H vs Q E hr h => ?_)
  · obtain ⟨a, ns, rfl, _⟩ := h
    rfl
  · obtain ⟨a, ns, rfl, ha, hn, k⟩ := h
    refine ⟨_, (pss_one (ps_ret (pe_callB (cr_allK K rfl) (by rfl) T.b_all (by decide +kernel) (pa_cons (pe_lc (own := [("number", 1)]) (g := (gName 1)) (tt := tYes) rfl sc_are_integers.nd (pi_seqK K (pv 0)) (blkOk_by (own := [("number", 1)]) (N := N_are_integers) (sc := defScope s_are_integers) (by decide +kernel)) (fun _ _ _ _ _ => (pg_name (i := 1) sc_are_integers.nd rfl (Or.inl rfl))) (fun _ _ _ _ _ => pts_nil) (fun _ _ _ _ _ => (pe_and (pe_callB (call_isi1K K) (by rfl) T.b_isinstance (by decide +kernel) (pa_cons (pv 1) (pa_cons (pe_bltn (v := .ty "int") (by rfl) T.b_int (by decide +kernel) rfl) pa_nil))) (pe_one (pe_not (pe_callB (call_isi1K K) (by rfl) T.b_isinstance (by decide +kernel) (pa_cons (pv 1) (pa_cons (pe_bltn (v := .ty "bool") (by rfl) T.b_bool (by decide +kernel) rfl) pa_nil)))))))) pa_nil)))), ?_⟩
    refine ⟨_, rfl, a, rfl, lc_accS ha (fun i => (List.replicate i true).map V.bl) rfl (fun i hi => small1000 (by simp at *; omega)) ?_ ?_⟩
    · intro i x H1 R1 R hx sm h1 h2
      rw [List.getElem?_map] at hx
      obtain ⟨n, _, rfl⟩ := Option.map_eq_some_iff.mp hx
      refine ⟨rfl, yes_ ⟨_, rfl, _, _, _, _, _, rfl, .ty _, .base (.int _), isi kit_int_int, _, rfl, iteT ?_⟩⟩
      refine ⟨_, rfl, _, _, _, _, _, rfl, .ty _, .base (.int _), isi kit_int_bool, _, rfl, h2 _ ?_⟩
      rw [List.replicate_succ', List.map_append]; rfl
    · intro D hD
      refine ⟨D, List.replicate _ true, rfl, SqL.of upd_same, ?_⟩
      rw [show (List.replicate (ns.map V.int).length true).all id = true by simp]
      exact k _ fun b o e => by rw [upd_ne (ne_of_none e hD)]; exact e

abbrev s_ascending : Stmt := top 10
abbrev N_ascending : List Str := ["numbers", "number"]
abbrev P_ascending : List Str := ["numbers"]
theorem sc_ascending : FnScope N_ascending P_ascending (defScope s_ascending) := ⟨rfl, rfl, rfl, by decide +kernel, rfl, by decide +kernel, by decide +kernel⟩
def spAsc (K : PySem.W.Frag) : Sp := fun vs H Q _ => ∃ (a : Addr) (ns : List Int), vs = [.ref a] ∧ SqS K H a (ns.map V.int) ∧ ns.length < 64 ∧
  ∀ (ns' : List Int) (p : Addr) (H' : Hp), ns'.Perm ns → ns'.Pairwise (· ≤ ·) → Same H H' → H' p = some (.tup (ns'.map V.int)) → Q (.ref p) H'
theorem ok_ascending (F : Fz K mg "ascending" s_ascending P_ascending) (T : Txt K mg) : Fx P w K mg base CX0 "ascending" 1 P_ascending (spAsc K) := by
  refine F.ok sc_ascending (fun vs H Q E h => ?_) (fun f cdv A outer s H vs Q E hr h => ?_)
  · obtain ⟨a, ns, rfl, _⟩ := h
    rfl
  · obtain ⟨a, ns, rfl, ha, hn, k⟩ := h
    refine ⟨_, (pss_one (ps_ret (pe_callTy (call_tuple_ofK K) (by rfl) T.b_tuple (by decide +kernel) (pa_cons (pe_callB (cr_sortedK K) (by rfl) T.b_sorted (by decide +kernel) (pa_cons (pe_lc (own := [("number", 1)]) (g := (gName 1)) (tt := tYes) rfl sc_ascending.nd (pi_seqK K (pv 0)) (blkOk_by (own := [("number", 1)]) (N := N_ascending) (sc := defScope s_ascending) (by decide +kernel)) (fun _ _ _ _ _ => (pg_name (i := 1) sc_ascending.nd rfl (Or.inl rfl))) (fun _ _ _ _ _ => pts_nil) (fun _ _ _ _ _ => (pe_callTy call_int1 (by rfl) T.b_int (by decide +kernel) (pa_cons (pv 1) pa_nil)))) pa_nil)) pa_nil)))), ?_⟩
    refine ⟨_, rfl, a, rfl, lc_accS ha (fun i => (ns.take i).map V.int) (by simp) (fun i hi => small1000 (by simp at *; omega)) ?_ ?_⟩
    · intro i x H1 R1 R hx sm h1 h2
      rw [List.getElem?_map] at hx
      obtain ⟨n, hn, rfl⟩ := Option.map_eq_some_iff.mp hx
      refine ⟨rfl, yes_ ⟨_, rfl, .inl ⟨n, rfl, h2 _ ?_⟩⟩⟩
      rw [take_succ_get hn, List.map_append]; rfl
    · intro D hD
      rw [List.length_map, List.take_length]
      refine ⟨D, ns, rfl, SqL.of upd_same, hn, fun ns' q hp hs hq => ?_⟩
      refine ⟨q, _, rfl, .inl ⟨SqL.of upd_same, fun p hp' => ?_⟩⟩
      refine k ns' p _ hp hs (fun b o e => ?_) upd_same
      have e1 : (upd H D (.lst (ns.map V.int))) b = some o := by rw [upd_ne (ne_of_none e hD)]; exact e
      have e2 : (upd (upd H D (.lst (ns.map V.int))) q (.lst (ns'.map V.int))) b = some o := by rw [upd_ne (ne_of_none e1 hq)]; exact e1
      rw [upd_ne (ne_of_none e2 hp')]; exact e2

abbrev s_are_steps : Stmt := top 8
abbrev N_are_steps : List Str := ["steps", "step"]
abbrev P_are_steps : List Str := ["steps"]
theorem sc_are_steps : FnScope N_are_steps P_are_steps (defScope s_are_steps) := ⟨rfl, rfl, rfl, by decide +kernel, rfl, by decide +kernel, by decide +kernel⟩
/-- steps: a list or a tuple of pairs of an int and a text -/
def spSteps (K : PySem.W.Frag) : Sp := fun vs H Q _ => ∃ (a : Addr) (xs : List V) (l : List (Int × Str)), vs = [.ref a] ∧ SqS K H a xs ∧ DpAll K H xs (l.map stepD) ∧ ∀ H', Same H H' → Q (.bl true) H'
theorem ok_are_steps (F : Fz K mg "are_steps" s_are_steps P_are_steps) (T : Txt K mg) (G_are_integers : Fx P w K mg base CX0 "are_integers" 1 P_are_integers (spInts K)) : Fx P w K mg base CX0 "are_steps" 2 P_are_steps (spSteps K) := by
  refine F.ok sc_are_steps (fun vs H Q E h => ?_) (fun f cdv A outer s H vs Q E hr h => ?_)
  · obtain ⟨a, xs, l, rfl, _⟩ := h
    rfl
  · obtain ⟨a, xs, l, rfl, ha, hx, k⟩ := h
    refine ⟨_, (pss_cons (ps_for PassesOwn.never rfl (pi_seqK K (pv 0)) (pg_name (i := 1) sc_are_steps.nd rfl (Or.inl rfl)) (pss_one (ps_if (PW.pt (pw_or (pt_not (pt_val (pe_callB (call_isiTK K) (by rfl) T.b_isinstance (by decide +kernel) (pa_cons (pv 1) (pa_cons (pe_tup (pa_cons (pe_bltn (v := .ty "tuple") (by rfl) T.b_tuple (by decide +kernel) rfl) (pa_cons (pe_bltn (v := .ty "list") (by rfl) T.b_list (by decide +kernel) rfl) pa_nil))) pa_nil))))) (pw_or (pt_cmpR op_ne (pe_callB (call_len_seqK K) (by rfl) T.b_len PySem.boot_len (pa_cons (pv 1) pa_nil)) pe_int (nomark _)) (pw_or1 (pt_not (pt_val (fcall G_are_integers (hr.mono (by decide)) (by rfl) (pa_cons (pe_slice (sl_tupAK K) (pv 1) po_none (po_some pe_int)) pa_nil)))))))) (pss_one (ps_ret pe_bl)) pss_nil)))
      (pss_one (ps_ret pe_bl))), ?_⟩
    refine ⟨_, rfl, a, rfl, for_seq ha (fun i σ H2 => ∃ v1, σ = [some (.ref a), v1] ∧ Same H H2) ⟨_, rfl, Same.refl H⟩ (fun i σ H2 ⟨_, _, sm⟩ => sm) ?_ ?_⟩
    · rintro i x σ H2 hi ⟨v1, rfl, sm⟩
      obtain ⟨p, hp, hd⟩ := DpAll.getMap hx hi
      obtain ⟨b, rfl, hb⟩ := step_inv (Dp.same sm _ hd)
      refine ⟨_, rfl, (by show 2 ≤ sizeLine; decide), fun q hq => ?_⟩
      have sm3 : Same H2 (upd H2 q (.tup [.ty "tuple", .ty "list"])) := fun c u e => by rw [upd_ne (ne_of_none e hq)]; exact e
      have hb3 := SqT.same sm3 hb
      have ty3 : TyX K (upd H2 q (.tup [.ty "tuple", .ty "list"])) (.ref b) (.type "tuple") := by
        rcases hb3 with (h | ⟨o, h⟩) | ⟨o, its, n, h, c, _⟩
        · exact .base (.tup h)
        · exact .fTuple h
        · exact .kTuple h c
      refine ⟨_, q, _, _, _, true, rfl, upd_same, .cons (.ty _) (.cons (.ty _) .nil), ty3, kitAny_cons (isi kit_tup_tup) (fun z => nomatch z) (fun _ => rfl), _, rfl, iteF ?_⟩
      refine ⟨_, rfl, b, _, rfl, .inr hb3, rfl, _, rfl, iteF ?_⟩
      refine ⟨_, rfl, 1, rfl, b, _, rfl, hb3, ?_, ?_⟩
      · intro z; simp [HT.sIx] at z
      · intro _ r hr
        have sm4 : Same (upd H2 q (.tup [.ty "tuple", .ty "list"])) (upd (upd H2 q (.tup [.ty "tuple", .ty "list"])) r (.tup [.int p.1])) := fun c u e => by rw [upd_ne (ne_of_none e hr)]; exact e
        refine ⟨r, [p.1], rfl, .inr (SqT.of upd_same), by simp, fun H5 sm5 => ?_⟩
        refine ⟨_, rfl, iteF ?_⟩
        exact ⟨_, rfl, Same.trans sm (Same.trans sm3 (Same.trans sm4 sm5))⟩
    · rintro σ H2 ⟨v1, rfl, sm⟩
      exact k H2 sm

end Kn

set_option Elab.async false
set_option maxRecDepth 100000
set_option linter.all false
namespace Kn
open PySem L2
local macro_rules | `(tactic| walk_at "wk") => `(tactic| repeat (first
  | refine ⟨_, rfl, ?_⟩
  | refine ⟨_, _, rfl, rfl, ?_⟩
  | refine ⟨⟨by decide, by decide⟩, ?_⟩
  | refine ⟨(by show (0 : Int) < _; decide), ?_⟩
  | refine ⟨Or.inl ⟨by omega, by omega⟩, ?_⟩
  | refine Or.inl ⟨_, rfl, ?_⟩
  | fail))
variable {P : Program} {w : World} {K : PySem.W.Frag} {mg : Str → Option Value} {base : Heap}
abbrev s_is_way : Stmt := top 11
abbrev N_is_way : List Str := ["whole", "steps", "noted", "k", "place", "mode"]
abbrev P_is_way : List Str := ["whole", "steps", "noted"]
theorem sc_is_way : FnScope N_is_way P_is_way (defScope s_is_way) := ⟨rfl, rfl, rfl, by decide +kernel, rfl, by decide +kernel, by decide +kernel⟩
def isDir (x : Str) : Bool := decide (x = "told") || decide (x = "found")
def rgI (n : Nat) : List Int := (List.range n).map fun (i : Nat) => (i : Int)
def noteOk (n : Nat) (l : List Int) (k : Nat) : Bool := !decide (l.getD k 0 < 0) && !decide ((n : Int) ≤ l.getD k 0) && !(l.take k).contains (l.getD k 0)
def isWayB (y : Way) : Bool := isDir y.whole && decide (y.steps.length ≤ 3) && y.steps.all (fun s => isDir s.2) && decide ((y.steps.map (·.1)).Perm (rgI y.steps.length)) && (List.range y.noted.length).all (noteOk y.steps.length y.noted)
def spIsWay (K : PySem.W.Frag) : Sp := fun vs H Q _ => ∃ (whole : Str) (a b : Addr) (xs : List V) (y : Way), vs = [.str whole, .ref a, .ref b] ∧ y.whole = whole ∧ SqT K H a xs ∧ DpAll K H xs (y.steps.map stepD) ∧ SqT K H b (y.noted.map V.int) ∧ y.steps.length ≤ 20 ∧ y.noted.length ≤ 20 ∧
  ∀ H', Same H H' → Q (.bl (isWayB y)) H'
theorem inV_dirs (x : Str) : inV (.str x) [.str "told", .str "found"] = isDir x := by
  unfold inV isDir
  simp only [List.any_cons, List.any_nil, eqV, Bool.or_false]
  congr 1
  · by_cases e : x = "told"
    · subst e; simp
    · have : ¬ (("told" : Str) = x) := fun z => e z.symm
      simp [e, this]
  · by_cases e : x = "found"
    · subst e; simp
    · have : ¬ (("found" : Str) = x) := fun z => e z.symm
      simp [e, this]
theorem rgV_rgI (n : Nat) : rgV 0 (n : Int) = (rgI n).map V.int := by
  unfold rgV rgI
  rw [List.map_map]
  simp
theorem rgI_sorted (n : Nat) : (rgI n).Pairwise (· ≤ ·) := by
  unfold rgI
  rw [List.pairwise_map]
  exact List.pairwise_lt_range.imp fun h => by omega
theorem eqv_tupInts (l m : List Int) : PyData.eqv (.tuple (l.map .int)) (.tuple (m.map .int)) = decide (l = m) := by
  rw [PyData.eqv]
  induction l generalizing m with
  | nil => cases m with
    | nil => rfl
    | cons b m => rfl
  | cons a l ih => cases m with
    | nil => rfl
    | cons b m =>
      show PyData.eqvAll (.int a :: l.map .int) (.int b :: m.map .int) = _
      rw [PyData.eqvAll, ih m, PyData.eqv]
      by_cases c : a = b
      · subst c; simp
      · simp [c]
theorem ok_is_way (F : Fz K mg "is_way" s_is_way P_is_way) (T : Txt K mg) (G_ascending : Fx P w K mg base CX0 "ascending" 1 P_ascending (spAsc K)) : Fx P w K mg base CX0 "is_way" 2 P_is_way (spIsWay K) := by
  refine F.ok sc_is_way (fun vs H Q E h => ?_) (fun f cdv A outer s H vs Q E hr h => ?_)
  · obtain ⟨whole, a, b, xs, y, rfl, _⟩ := h
    rfl
  · obtain ⟨whole, a, b, xs, y, rfl, rfl, ha, hx, hb, hs20, hn20, k⟩ := h
    have hlen : xs.length = y.steps.length := by rw [hx.len, List.length_map]
    refine ⟨_, (pss_cons (ps_if (PW.pt (pw_or (pt_cmpR (op_notIn_seqK K) (pv 0) (pe_tup (pa_cons (pglob rfl T.c_TOLD) (pa_cons (pglob rfl T.c_FOUND) pa_nil))) (by rfl)) (pw_or1 (pt_cmpR op_gt (pe_callB (call_len_seqK K) (by rfl) T.b_len PySem.boot_len (pa_cons (pv 1) pa_nil)) (pglob rfl T.c_MOST_PLACES) (nomark _))))) (pss_one (ps_ret pe_bl)) pss_nil)
      (pss_cons (ps_if (pt_not (pt_val (pe_callB (cr_allK K rfl) (by rfl) T.b_all (by decide +kernel) (pa_cons (pe_lc (own := [("place", 4), ("mode", 5)]) (g := (gTup K 2 (gCons (gName 4) (gCons (gName 5) gNil)))) (tt := tYes) rfl sc_is_way.nd (pi_tupK K (pv 1)) (blkOk_by (own := [("place", 4), ("mode", 5)]) (N := N_is_way) (sc := defScope s_is_way) (by decide +kernel)) (fun _ _ _ _ _ => (pg_tup rfl (pgs_cons (pg_name (i := 4) sc_is_way.nd rfl (Or.inl rfl)) (pgs_cons (pg_name (i := 5) sc_is_way.nd rfl (Or.inl rfl)) pgs_nil)))) (fun _ _ _ _ _ => pts_nil) (fun _ _ _ _ _ => (pe_cmpR (op_in_seqK K) (pv 5) (pe_tup (pa_cons (pglob rfl T.c_TOLD) (pa_cons (pglob rfl T.c_FOUND) pa_nil))) (by rfl)))) pa_nil)))) (pss_one (ps_ret pe_bl)) pss_nil)
      (pss_cons (ps_if (pt_cmpR (op_neDK K hr.units) (fcall G_ascending (hr.mono (by decide)) (by rfl) (pa_cons (pe_lc (own := [("place", 4), ("mode", 5)]) (g := (gTup K 2 (gCons (gName 4) (gCons (gName 5) gNil)))) (tt := tYes) rfl sc_is_way.nd (pi_tupK K (pv 1)) (blkOk_by (own := [("place", 4), ("mode", 5)]) (N := N_is_way) (sc := defScope s_is_way) (by decide +kernel)) (fun _ _ _ _ _ => (pg_tup rfl (pgs_cons (pg_name (i := 4) sc_is_way.nd rfl (Or.inl rfl)) (pgs_cons (pg_name (i := 5) sc_is_way.nd rfl (Or.inl rfl)) pgs_nil)))) (fun _ _ _ _ _ => pts_nil) (fun _ _ _ _ _ => (pv 4))) pa_nil)) (pe_tupRg rfl (by rfl) T.b_tuple (prg_1 (by rfl) T.b_range (pe_callB (call_len_seqK K) (by rfl) T.b_len PySem.boot_len (pa_cons (pv 1) pa_nil)))) (nomark _)) (pss_one (ps_ret pe_bl)) pss_nil)
      (pss_cons (ps_for PassesOwn.never rfl (pi_range1 (by rfl) T.b_range (pa_cons (pe_callB (call_len_seqK K) (by rfl) T.b_len PySem.boot_len (pa_cons (pv 2) pa_nil)) pa_nil)) (pg_name (i := 3) sc_is_way.nd rfl (Or.inl rfl)) (pss_one (ps_if (PW.pt (pw_or (pt_cmpR op_lt (pe_ix (ix_tupK K) (pv 2) (pv 3) (fun _ _ => rfl)) pe_int (nomark _)) (pw_or (pt_cmpR op_ge (pe_ix (ix_tupK K) (pv 2) (pv 3) (fun _ _ => rfl)) (pe_callB (call_len_seqK K) (by rfl) T.b_len PySem.boot_len (pa_cons (pv 1) pa_nil)) (nomark _)) (pw_or1 (pt_cmpR (op_in_seqK K) (pe_ix (ix_tupK K) (pv 2) (pv 3) (fun _ _ => rfl)) (pe_slice (sl_tupAK K) (pv 2) po_none (po_some (pv 3))) (by rfl)))))) (pss_one (ps_ret pe_bl)) pss_nil)))
      (pss_one (ps_ret pe_bl)))))), ?_⟩
    refine ⟨_, rfl, (by show 2 ≤ sizeLine; decide), fun q1 h1 => ⟨q1, _, rfl, .inr (SqT.of upd_same), rfl, rfl, _, rfl, ?_⟩⟩
    simp only [if_true]
    rw [inV_dirs]
    have sm1 : Same H (upd H q1 (.tup [.str "told", .str "found"])) := fun c u e => by rw [upd_ne (ne_of_none e h1)]; exact e
    generalize hH1 : upd H q1 (HO.tup [.str "told", .str "found"]) = H1 at sm1 ⊢
    cases c1 : isDir y.whole with
    | false =>
      refine itT rfl ?_
      have e : isWayB y = false := by simp [isWayB, c1]
      rw [e] at k
      exact k _ sm1
    | true =>
      refine iteF ⟨_, rfl, a, _, rfl, .inr (SqT.same sm1 ha), _, _, rfl, rfl, _, rfl, ?_⟩
      refine ite2 (fun c2 => ?_) (fun c2 => ?_)
      · have c2 := of_decide_eq_true c2
        have e : isWayB y = false := by
          have : ¬ y.steps.length ≤ 3 := by omega
          simp [isWayB, this]
        rw [e] at k
        exact k _ sm1
      · have c2 : y.steps.length ≤ 3 := by
          have c2 : ¬ (3 : Int) < (xs.length : Int) := fun z => c2 (decide_eq_true z)
          omega
        refine ⟨_, rfl, a, rfl, ⟨_, SqT.same sm1 ha⟩, fun D hD => ?_⟩
        refine lc_growT (fun i => ((y.steps.take i).map fun s => isDir s.2).map V.bl) hD (SqT.same sm1 ha) (by simp) (fun i hi => small1000 (by simp; omega)) ?_ ?_
        · intro i x H2 R1 R hxi sm2 g1 g2
          obtain ⟨p, hp, hd⟩ := DpAll.getMap hx hxi
          obtain ⟨t, rfl, ht⟩ := step_inv (Dp.same sm2 _ (Dp.same sm1 _ hd))
          refine ⟨t, _, rfl, ht, rfl, _, _, rfl, _, _, rfl, rfl, rfl, yes_ ?_⟩
          refine ⟨_, rfl, (by show 2 ≤ sizeLine; decide), fun q h2 => ⟨q, _, rfl, .inr (SqT.of upd_same), rfl, rfl, ?_⟩⟩
          refine g2 _ _ (same_new h2) ?_
          rw [inV_dirs, take_succ_get hp, List.map_append, List.map_append]; rfl
        · intro H2 sm2 eD
          refine ⟨D, _, rfl, SqL.of eD, _, rfl, ?_⟩
          rw [hlen, List.take_length]
          have eall : (y.steps.map fun s => isDir s.2).all id = y.steps.all fun s => isDir s.2 := by rw [List.all_map]; rfl
          rw [eall]
          have sm12 := Same.trans sm1 sm2
          cases c3 : y.steps.all (fun s => isDir s.2) with
          | false =>
            refine iteT ?_
            have e : isWayB y = false := by simp only [isWayB, c3, Bool.and_false, Bool.false_and]
            rw [e] at k
            exact k _ sm12
          | true =>
            refine iteF ?_
            refine ⟨_, rfl, a, rfl, ⟨_, SqT.same sm12 ha⟩, fun D2 hD2 => ?_⟩
            refine lc_accT (fun i => ((y.steps.take i).map (·.1)).map V.int) hD2 (SqT.same sm12 ha) (by simp) (fun i hi => small1000 (by simp; omega)) ?_ ?_
            · intro i x H3 R1 R hxi sm3 g1 g2
              obtain ⟨p, hp, hd⟩ := DpAll.getMap hx hxi
              obtain ⟨t, rfl, ht⟩ := step_inv (Dp.same sm3 _ (Dp.same sm12 _ hd))
              refine ⟨t, _, rfl, ht, rfl, _, _, rfl, _, _, rfl, rfl, rfl, yes_ ⟨_, rfl, g2 _ ?_⟩⟩
              rw [take_succ_get hp, List.map_append, List.map_append]; rfl
            · rw [hlen, List.take_length]
              refine ⟨D2, _, rfl, .inl (SqL.of upd_same), by simp; omega, fun ns' p H4 hperm hsort sm4 hp => ?_⟩
              have sm24 := Same.trans (same_new hD2) sm4
              have sm14 := Same.trans sm12 sm24
              refine ⟨_, rfl, a, _, rfl, .inr (SqT.same sm14 ha), _, rfl, RgOk.of_le (by decide) (by rw [hlen]; omega) (by decide) (by omega), fun q hq => ?_⟩
              have sm5 := same_new (o := .tup (rgV 0 (xs.length : Int))) hq
              have sm15 := Same.trans sm14 sm5
              refine ⟨.tuple (ns'.map .int), .tuple ((rgI y.steps.length).map .int), .tup (SqT.of (sm5 _ _ hp)) (DpAll.ints _), .tup (SqT.of (by rw [upd_same, hlen, rgV_rgI])) (DpAll.ints _), (Lay.tup (Lay.ints 0 _)).shaped, (Lay.tup (Lay.ints 0 _)).shaped, _, rfl, ?_⟩
              rw [eqv_tupInts]
              have key : ns' = rgI y.steps.length ↔ (y.steps.map (·.1)).Perm (rgI y.steps.length) := by
                constructor
                · intro e; rw [← e]; exact hperm.symm
                · intro e; exact PySem.W.ksm_same (hperm.trans e) hsort (rgI_sorted _)
              by_cases c4 : ns' = rgI y.steps.length
              · rw [decide_eq_true c4]
                refine iteF ?_
                refine ⟨_, rfl, b, _, rfl, .inr (SqT.same sm15 hb), _, rfl, by omega, by simp; omega, ?_⟩
                have hnl : ((y.noted.map V.int).length : Int).toNat = y.noted.length := by simp
                refine for_range (n := ((y.noted.map V.int).length : Int).toNat) (fun i σ H6 => ∃ v3, σ = [some (.str y.whole), some (.ref a), some (.ref b), v3, none, none] ∧ Same H H6 ∧ (List.range i).all (noteOk y.steps.length y.noted) = true) ?_ ?_ ?_
                · exact ⟨_, rfl, sm15, rfl⟩
                · rintro i σ H6 hi ⟨v3, rfl, sm6, hall⟩
                  rw [hnl] at hi
                  have hb6 := SqT.same sm6 hb
                  have hat : atI (y.noted.map V.int) (0 + (i : Int)) = some (.int (y.noted.getD i 0)) := at_of (j := i) (by omega) (by simp [hi, List.getD_eq_getElem?_getD])
                  have fin : noteOk y.steps.length y.noted i = false → ∀ H', Same H H' → Q (.bl false) H' := fun z H' sm => by
                    have e : isWayB y = false := by
                      have : (List.range y.noted.length).all (noteOk y.steps.length y.noted) = false := by
                        rw [List.all_eq_false]
                        exact ⟨i, List.mem_range.mpr hi, by rw [z]; simp⟩
                      simp only [isWayB, this, Bool.and_false]
                    rw [e] at k
                    exact k _ sm
                  generalize hz : y.noted.getD i 0 = z at hat
                  refine ⟨_, rfl, _, rfl, b, _, _, _, rfl, rfl, hb6, hat, _, _, rfl, rfl, _, rfl, ?_⟩
                  refine ite2 (fun d1 => ?_) (fun d1 => ?_)
                  · exact iteT (fin (by rw [noteOk, hz, d1]; rfl) _ sm6)
                  refine ⟨_, rfl, _, rfl, b, _, _, _, rfl, rfl, hb6, hat, _, rfl, a, _, rfl, .inr (SqT.same sm6 ha), _, _, rfl, rfl, _, rfl, ?_⟩
                  rw [hlen]
                  refine ite2 (fun d2 => ?_) (fun d2 => ?_)
                  · exact iteT (fin (by rw [noteOk, hz, d2]; simp) _ sm6)
                  have ecut : cutV (y.noted.map V.int) none (some (0 + (i : Int))) = (y.noted.take i).map V.int := by
                    rw [cut_take (i := i) (by omega) (by simp; omega), List.map_take]
                  have nx : (y.noted.take i).contains z = false → ∀ H7, Same H H7 → ∃ v3, [some (V.str y.whole), some (V.ref a), some (V.ref b), some (V.int (0 + (i : Int))), none, none] = [some (V.str y.whole), some (.ref a), some (.ref b), v3, none, none] ∧ Same H H7 ∧ (List.range (i + 1)).all (noteOk y.steps.length y.noted) = true := fun cz H7 sm => by
                    refine ⟨_, rfl, sm, ?_⟩
                    rw [List.range_succ, List.all_append, hall]
                    have d1 : decide (z < 0) = false := by simpa using d1
                    have d2 : decide ((y.steps.length : Int) ≤ z) = false := by simpa using d2
                    simp only [List.all_cons, List.all_nil, noteOk, hz, d1, d2, cz]
                    rfl
                  have bad : (y.noted.take i).contains z = true → ∀ H7, Same H H7 → Q (.bl false) H7 := fun cz H7 sm => fin (by rw [noteOk, hz, cz]; simp) _ sm
                  have two : ∀ (q : Addr) (H7 : Hp), Same H H7 → SqT K H7 q ((y.noted.take i).map V.int) → rIn K false (.int z) (.ref q) H7 (fun x H' => ∃ k, x = .bl k ∧ if k = true then Q (.bl false) H' else ∃ v3, [some (V.str y.whole), some (V.ref a), some (V.ref b), some (V.int (0 + (i : Int))), none, none] = [some (V.str y.whole), some (.ref a), some (.ref b), v3, none, none] ∧ Same H H' ∧ (List.range (i + 1)).all (noteOk y.steps.length y.noted) = true) := fun q H7 sm hq => by
                    refine ⟨q, _, rfl, .inr hq, rfl, flat_ints _, _, rfl, ?_⟩
                    show if ((if false = true then _ else inV (.int z) _) : Bool) = true then _ else _
                    rw [if_neg Bool.false_ne_true, inV_ints]
                    cases cz : (y.noted.take i).contains z with
                    | true => exact iteT (bad cz _ sm)
                    | false => exact iteF (nx cz _ sm)
                  refine ⟨_, rfl, _, rfl, b, _, _, _, rfl, rfl, hb6, hat, _, rfl, _, rfl, _, rfl, b, _, rfl, hb6, fun zz => ?_, fun _ q hq => ?_⟩
                  · rw [sIx_nat (i := i) (by omega) (by simp; omega)] at zz
                    have := zz.2
                    simp at this
                    omega
                  · have hq7 : SqT K (upd H6 q (.tup (cutV (y.noted.map V.int) none (some (0 + (i : Int)))))) q ((y.noted.take i).map V.int) := SqT.of (by rw [upd_same, ecut])
                    exact two q _ (Same.trans sm6 (same_new hq)) hq7
                · rintro σ H6 ⟨v3, rfl, sm6, hall⟩
                  rw [hnl] at hall
                  have e : isWayB y = true := by
                    simp only [isWayB, c1, decide_eq_true c2, c3, decide_eq_true (key.mp c4), hall, Bool.and_self]
                  rw [e] at k
                  exact k _ sm6
              · rw [decide_eq_false c4]
                refine iteT ?_
                have e : isWayB y = false := by
                  have : ¬ (y.steps.map (·.1)).Perm (rgI y.steps.length) := fun z => c4 (key.mpr z)
                  simp only [isWayB, decide_eq_false this, Bool.and_false, Bool.false_and]
                rw [e] at k
                exact k _ sm15

end Kn

set_option Elab.async false
set_option maxRecDepth 100000
set_option linter.all false
namespace Kn
open PySem L2
local macro_rules | `(tactic| walk_at "wk") => `(tactic| repeat (first
  | refine ⟨_, rfl, ?_⟩
  | refine ⟨_, _, rfl, rfl, ?_⟩
  | refine ⟨⟨by decide, by decide⟩, ?_⟩
  | refine ⟨(by show (0 : Int) < _; decide), ?_⟩
  | refine ⟨Or.inl ⟨by omega, by omega⟩, ?_⟩
  | refine Or.inl ⟨_, rfl, ?_⟩
  | fail))
variable {P : Program} {w : World} {K : PySem.W.Frag} {mg : Str → Option Value} {base : Heap}
abbrev s_way : Stmt := top 12
abbrev N_way : List Str := ["whole", "places", "noted", "row", "steps", "marked", "step"]
abbrev P_way : List Str := ["whole", "places", "noted"]
theorem sc_way : FnScope N_way P_way (defScope s_way) := ⟨rfl, rfl, rfl, by decide +kernel, rfl, by decide +kernel, by decide +kernel⟩
/-- the way that is made, or BadWay -/
def spWay (K : PySem.W.Frag) (mg : Str → Option Value) : Sp := fun vs H Q E => ∃ (whole : Str) (a b : Addr) (xs : List V) (l : List (Int × Str)) (ns : List Int), vs = [.str whole, .ref a, .ref b] ∧ SqS K H a xs ∧ DpAll K H xs (l.map stepD) ∧ SqS K H b (ns.map V.int) ∧ l.length ≤ 20 ∧ ns.length ≤ 20 ∧
  ∀ (ns' : List Int), ns'.Perm ns → ns'.Pairwise (· ≤ ·) → (isWayB ⟨whole, l, ns'⟩ = true → ∀ (p : Addr) (H' : Hp), Same H H' → Dp K H' (.ref p) (Way.d ⟨whole, l, ns'⟩) → Q (.ref p) H') ∧
    (isWayB ⟨whole, l, ns'⟩ = false → ∀ H', Same H H' → E (.ref (clsA mg "BadWay")) none H')
/-- by all three keywords, or by the first two: then noted is the tuple at e0 -/
def wayB (K : PySem.W.Frag) (e0 : Addr) (fd : FuncData) : Prop := KBn K fd P_way 0 P_way (fun _ ws => ws) (fun _ zs => zs) ∧ ∃ g, KBn K fd P_way 0 ["whole", "places"] g (fun _ zs => zs ++ [.ref e0])
theorem ok_way {e0 : Addr} (F : FzB K mg "way" s_way (wayB K e0)) (T : Txt K mg) (G_are_integers : Fx P w K mg base CX0 "are_integers" 1 P_are_integers (spInts K)) (G_are_steps : Fx P w K mg base CX0 "are_steps" 2 P_are_steps (spSteps K))
    (G_ascending : Fx P w K mg base CX0 "ascending" 1 P_ascending (spAsc K)) (G_is_way : Fx P w K mg base CX0 "is_way" 2 P_is_way (spIsWay K)) : FxB P w K mg base (L2.CX P w) "way" 3 P_way (spWay K mg) (wayB K e0) := by
  refine F.okX sc_way (fun vs H Q E h => ?_) (fun f cdv A outer s H vs Q E hr h => ?_)
  · obtain ⟨whole, a, b, xs, l, ns, rfl, _⟩ := h
    rfl
  · obtain ⟨whole, a, b, xs, l, ns, rfl, ha, hx, hb, hl20, hn20, k⟩ := h
    have hlen : xs.length = l.length := by rw [hx.len, List.length_map]
    refine ⟨_, (pss_cons (ps_set (i := 3) sc_way.nd rfl (Or.inl rfl) (pe_callTy (call_list_ofK K) (by rfl) T.b_list (by decide +kernel) (pa_cons (pv 1) pa_nil)))
      (pss_cons (ps_set (i := 2) sc_way.nd rfl (Or.inl rfl) (pe_callTy (call_list_ofK K) (by rfl) T.b_list (by decide +kernel) (pa_cons (pv 2) pa_nil)))
      (pss_cons (ps_if (PW.pt (pw_or (pt_not (pt_val (fcall G_are_steps (hr.mono (by decide)) (by rfl) (pa_cons (pv 3) pa_nil)))) (pw_or1 (pt_not (pt_val (fcall G_are_integers (hr.mono (by decide)) (by rfl) (pa_cons (pv 2) pa_nil))))))) (pss_one (ps_raise rfl (takes_of rfl rfl rfl rfl) (pmk_own PySem.F.excBase_ValueError T.e_BadWay.ex T.e_BadWay.g T.e_BadWay.k (raises_own T.e_BadWay.b T.e_BadWay.t) rfl))) pss_nil)
      (pss_cons (ps_set (i := 4) sc_way.nd rfl (Or.inl rfl) (pe_callTy (call_tuple_ofK K) (by rfl) T.b_tuple (by decide +kernel) (pa_cons (pe_lc (own := [("step", 6)]) (g := (gName 6)) (tt := tYes) rfl sc_way.nd (pi_listK K (pv 3)) (blkOk_by (own := [("step", 6)]) (N := N_way) (sc := defScope s_way) (by decide +kernel)) (fun _ _ _ _ _ => (pg_name (i := 6) sc_way.nd rfl (Or.inl rfl))) (fun _ _ _ _ _ => pts_nil) (fun _ _ _ _ _ => (pe_callTy (call_tuple_ofK K) (by rfl) T.b_tuple (by decide +kernel) (pa_cons (pv 6) pa_nil)))) pa_nil)))
      (pss_cons (ps_set (i := 5) sc_way.nd rfl (Or.inl rfl) (fcall G_ascending (hr.mono (by decide)) (by rfl) (pa_cons (pv 2) pa_nil)))
      (pss_cons (ps_if (pt_not (pt_val (fcall G_is_way (hr.mono (by decide)) (by rfl) (pa_cons (pv 0) (pa_cons (pv 4) (pa_cons (pv 5) pa_nil)))))) (pss_one (ps_raise rfl (takes_of rfl rfl rfl rfl) (pmk_own PySem.F.excBase_ValueError T.e_BadWay.ex T.e_BadWay.g T.e_BadWay.k (raises_own T.e_BadWay.b T.e_BadWay.t) rfl))) pss_nil)
      (pss_one (ps_ret (pe_tup (pa_cons (pv 0) (pa_cons (pv 4) (pa_cons (pv 5) pa_nil)))))))))))), ?_⟩
    refine ⟨_, rfl, a, _, rfl, ha, fun r hr1 => ?_⟩
    have sm1 := same_new (o := .lst xs) hr1
    refine ⟨_, rfl, b, _, rfl, SqS.same sm1 hb, fun n hn1 => ?_⟩
    have sm2 := same_new (o := .lst (ns.map V.int)) hn1
    have eR : (upd (upd H r (.lst xs)) n (.lst (ns.map V.int))) r = some (.lst xs) := sm2 _ _ upd_same
    have sm12 := Same.trans sm1 sm2
    have eN : (upd (upd H r (.lst xs)) n (.lst (ns.map V.int))) n = some (.lst (ns.map V.int)) := upd_same
    generalize upd (upd H r (.lst xs)) n (.lst (ns.map V.int)) = H2 at *
    refine ⟨_, rfl, r, xs, l, rfl, .inl (SqL.of eR), DpAll.same sm12 _ hx, fun H3 sm3 => ⟨_, rfl, iteF ?_⟩⟩
    refine ⟨_, rfl, n, ns, rfl, .inl (SqL.of (sm3 _ _ eN)), by omega, fun H4 sm4 => ⟨_, rfl, iteF ?_⟩⟩
    have sm24 := Same.trans sm3 sm4
    refine ⟨_, rfl, r, rfl, ⟨_, SqL.of (sm24 _ _ eR)⟩, fun D hD => ?_⟩
    refine lc_accL (fun i => xs.take i) hD (SqL.of (sm24 _ _ eR)) (by simp) (fun i hi => small1000 (by simp; omega)) ?_ ?_
    · intro i x H5 R1 R hxi sm5 g1 g2
      obtain ⟨p, hp, hd⟩ := DpAll.getMap hx hxi
      obtain ⟨t, rfl, ht⟩ := step_inv (Dp.same sm5 _ (Dp.same (Same.trans sm12 sm24) _ hd))
      refine ⟨rfl, yes_ ⟨_, rfl, t, _, rfl, .inr ⟨ht, g2 _ (take_succ_get hxi)⟩⟩⟩
    · rw [List.take_length]
      refine ⟨D, _, rfl, .inl ⟨SqL.of upd_same, fun S hS => ?_⟩⟩
      have sm5 := Same.trans (same_new (o := .lst xs) hD) (same_new (o := .tup xs) hS)
      have eS : (upd (upd H4 D (.lst xs)) S (.tup xs)) S = some (.tup xs) := upd_same
      generalize upd (upd H4 D (.lst xs)) S (.tup xs) = H5 at *
      have sm25 := Same.trans sm24 sm5
      refine ⟨_, rfl, n, ns, rfl, .inl (SqL.of (sm25 _ _ eN)), by omega, fun ns' p H6 hperm hsort sm6 hp => ?_⟩
      have sm6' := Same.trans sm12 (Same.trans sm25 sm6)
      have hx6 := DpAll.same sm6' _ hx
      have eS6 := sm6 _ _ eS
      have hln : ns'.length ≤ 20 := by rw [hperm.length_eq]; exact hn20
      obtain ⟨kg, kb⟩ := k ns' hperm hsort
      refine ⟨_, rfl, _, rfl, _, rfl, whole, S, p, xs, ⟨whole, l, ns'⟩, rfl, rfl, SqT.of eS6, hx6, SqT.of hp, hl20, hln, fun H7 sm7 => ⟨_, rfl, ?_⟩⟩
      have sm7' := Same.trans sm6' sm7
      cases c : isWayB ⟨whole, l, ns'⟩ with
      | false =>
        refine itT rfl ?_
        exact kb c H7 sm7'
      | true =>
        refine itF rfl ?_
        refine ⟨_, rfl, _, rfl, _, rfl, (by show 3 ≤ sizeLine; decide), fun q hq => ?_⟩
        have sm8 := same_new (o := .tup [.str whole, .ref S, .ref p]) hq
        refine kg c q _ (Same.trans sm7' sm8) (.tup (SqT.of upd_same) (.cons (.str _) (.cons (.tup (SqT.of (sm8 _ _ (sm7 _ _ eS6))) (DpAll.same (Same.trans sm7 sm8) _ hx6)) (.cons (.tup (SqT.of (sm8 _ _ (sm7 _ _ hp))) (DpAll.ints _)) .nil))))

end Kn

set_option Elab.async false
set_option maxRecDepth 100000
set_option linter.all false
namespace Kn
open PySem L2
local macro_rules | `(tactic| walk_at "wk") => `(tactic| repeat (first
  | refine ⟨_, rfl, ?_⟩
  | refine ⟨_, _, rfl, rfl, ?_⟩
  | refine ⟨⟨by decide, by decide⟩, ?_⟩
  | refine ⟨(by show (0 : Int) < _; decide), ?_⟩
  | refine ⟨Or.inl ⟨by omega, by omega⟩, ?_⟩
  | refine Or.inl ⟨_, rfl, ?_⟩
  | fail))
variable {P : Program} {w : World} {K : PySem.W.Frag} {mg : Str → Option Value} {base : Heap}
/-! ### the ways of at most three places, and their texts -/
def dirs : List Str := ["told", "found"]
def shufS (n : Nat) : Nat → List (List Int × List Int)
  | 0 => [([], rgI n)]
  | i + 1 => (shufS n i).flatMap fun s => (List.range s.2.length).map fun j => (s.1 ++ [s.2.getD j 0], s.2.eraseIdx j)
def permsI (n : Nat) : List (List Int) := (shufS n n).map (·.1)
def withModes : List Int → List (List (Int × Str))
  | [] => [[]]
  | p :: ps => (withModes ps).flatMap fun r => dirs.map fun m => (p, m) :: r
def subsI : Nat → List (List Int)
  | 0 => [[]]
  | i + 1 => subsI i ++ (subsI i).map fun l => l ++ [(i : Int)]
def stN (n : Nat) : List (List (Int × Str)) := (permsI n).flatMap withModes
/-- a way of at most three places -/
def InW (y : Way) : Prop := ∃ n, n ≤ 3 ∧ y.steps ∈ stN n ∧ y.noted ∈ subsI n ∧ y.whole ∈ dirs
def allSteps : List (Int × Str) := ([0, 1, 2] : List Int).flatMap fun p => dirs.map fun m => (p, m)
def numT (i : Int) : Str := Str.ofString (toString i)
def stepT (s : Int × Str) : Str := ((Str.empty ++ numT s.1) ++ " ") ++ s.2
def rowT0 (y : Way) : Str := Txt.join ", " (y.steps.map stepT)
def rowT (y : Way) : Str := if rowT0 y = "" then "-" else rowT0 y
def headT (y : Way) : Str := (y.whole ++ ": ") ++ rowT y
def tailT (y : Way) : Str := Txt.join ", " (y.noted.map numT)
def wayT (y : Way) : Str := if 0 < y.noted.length then headT y ++ ("; noted " ++ tailT y) else headT y
theorem steps_ok : ∀ s ∈ allSteps, s.1.natAbs.log2 < 1920 ∧ (numT s.1).length ≤ 5 ∧ s.2.length ≤ 5 := by decide +kernel
theorem num_ok : ∀ n ∈ ([0, 1, 2] : List Int), n.natAbs.log2 < 1920 ∧ (numT n).length ≤ 5 := by decide +kernel
def stCheck (n : Nat) (st : List (Int × Str)) : Bool := decide (st.length = n) && st.all (fun s => decide (s ∈ allSteps) && isDir s.2) && decide ((st.map (·.1)).Perm (rgI n))
def ntCheck (n : Nat) (nt : List Int) : Bool := decide (nt.length ≤ 3) && nt.all (fun m => decide (m ∈ ([0, 1, 2] : List Int))) && (List.range nt.length).all (noteOk n nt) && decide (nt.Pairwise (· ≤ ·)) && decide ((Txt.join ", " (nt.map numT)).length ≤ 50)
theorem st_check : ∀ n ∈ [0, 1, 2, 3], (stN n).all (stCheck n) = true := by decide +kernel
theorem nt_check : ∀ n ∈ [0, 1, 2, 3], (subsI n).all (ntCheck n) = true := by decide +kernel
theorem row_check : ∀ n ∈ [0, 1, 2, 3], (stN n).all (fun st => decide ((Txt.join ", " (st.map stepT)).length ≤ 50) && !(Txt.join ", " (st.map stepT)).cps.toList.contains 59 && (decide (Txt.join ", " (st.map stepT) = "") == st.isEmpty) && !decide (Txt.join ", " (st.map stepT) = "-")) = true := by decide +kernel
theorem step_sep : ∀ s ∈ allSteps, ¬ 44 ∈ (stepT s).cps.toList := by decide +kernel
theorem num_sep : ∀ n ∈ ([0, 1, 2] : List Int), ¬ 44 ∈ (numT n).cps.toList := by decide +kernel
theorem dir_sep : ∀ d ∈ dirs, ¬ 58 ∈ d.cps.toList ∧ ¬ 59 ∈ d.cps.toList ∧ d.length ≤ 5 ∧ isDir d = true := by decide +kernel
theorem step_inj : ∀ s ∈ allSteps, ∀ t ∈ allSteps, stepT s = stepT t → s = t := by decide +kernel
theorem num_inj : ∀ m ∈ ([0, 1, 2] : List Int), ∀ n ∈ ([0, 1, 2] : List Int), numT m = numT n → m = n := by decide +kernel
structure WF (y : Way) : Prop where
  sl : y.steps.length ≤ 3
  nl : y.noted.length ≤ 3
  st : ∀ s ∈ y.steps, s ∈ allSteps
  nt : ∀ n ∈ y.noted, n ∈ ([0, 1, 2] : List Int)
  isw : isWayB y = true
  srt : y.noted.Pairwise (· ≤ ·)
  rl : (rowT0 y).length ≤ 50
  tl : (tailT y).length ≤ 50
  wl : y.whole.length ≤ 5
  r59 : ¬ 59 ∈ (rowT0 y).cps.toList
  w58 : ¬ 58 ∈ y.whole.cps.toList
  w59 : ¬ 59 ∈ y.whole.cps.toList
  re : rowT0 y = "" ↔ y.steps = []
  rd : rowT0 y ≠ "-"
theorem mem4 {n : Nat} (h : n ≤ 3) : n ∈ [0, 1, 2, 3] := by
  have : n = 0 ∨ n = 1 ∨ n = 2 ∨ n = 3 := by omega
  rcases this with rfl | rfl | rfl | rfl <;> simp
theorem InW.wf {y : Way} (h : InW y) : WF y := by
  obtain ⟨n, hn, h1, h2, h3⟩ := h
  have c1 := List.all_eq_true.mp (st_check n (mem4 hn)) _ h1
  have c2 := List.all_eq_true.mp (nt_check n (mem4 hn)) _ h2
  have c3 := List.all_eq_true.mp (row_check n (mem4 hn)) _ h1
  obtain ⟨d1, d2, d3, d4⟩ := dir_sep _ h3
  simp only [stCheck, Bool.and_eq_true, decide_eq_true_eq, List.all_eq_true] at c1
  simp only [ntCheck, Bool.and_eq_true, decide_eq_true_eq, List.all_eq_true] at c2
  simp only [Bool.and_eq_true, decide_eq_true_eq, Bool.not_eq_true', beq_iff_eq] at c3
  obtain ⟨⟨a1, a2⟩, a3⟩ := c1
  obtain ⟨⟨⟨⟨b1, b2⟩, b3⟩, b4⟩, b5⟩ := c2
  obtain ⟨⟨⟨e1, e2⟩, e3⟩, e4⟩ := c3
  refine ⟨by omega, b1, fun s hs => (a2 s hs).1, b2, ?_, b4, e1, b5, d3, ?_, d1, d2, ?_, ?_⟩
  · unfold isWayB
    have t1 : y.steps.all (fun s => isDir s.2) = true := List.all_eq_true.mpr fun s hs => (a2 s hs).2
    have t2 : (List.range y.noted.length).all (noteOk y.steps.length y.noted) = true := by rw [a1]; exact List.all_eq_true.mpr b3
    rw [d4, t1, t2, a1, decide_eq_true a3, decide_eq_true hn]; rfl
  · intro z
    have e2 : (rowT0 y).cps.toList.contains 59 = false := e2
    rw [List.contains_iff_mem.mpr z] at e2
    exact Bool.noConfusion e2
  · rw [← decide_eq_true_iff (p := rowT0 y = ""), show decide (rowT0 y = "") = y.steps.isEmpty from e3]
    simp
  · exact of_decide_eq_false e4
theorem tl_of (x : Str) : TL.tl x = x.cps.toList := rfl
theorem part_head {y : Way} (h : WF y) : Txt.partition (headT y) ": " = (y.whole, (": " : Str), rowT y) := TL.partition_app (y := ": ") (s := 58) (S := [32]) (by decide +kernel) h.w58
theorem mem_app (a b : Str) (c : Nat) : c ∈ (a ++ b).cps.toList ↔ c ∈ a.cps.toList ∨ c ∈ b.cps.toList := by
  rw [Str.cps_append]; simp
theorem head59 {y : Way} (h : WF y) : ¬ 59 ∈ (headT y).cps.toList := by
  unfold headT rowT
  rw [mem_app, mem_app]
  rintro ((z | z) | z)
  · exact h.w59 z
  · revert z; decide +kernel
  · split at z
    · revert z; decide +kernel
    · exact h.r59 z
theorem part_way {y : Way} (h : WF y) : Txt.partition (wayT y) "; noted " = (headT y, if 0 < y.noted.length then ("; noted " : Str) else "", if 0 < y.noted.length then tailT y else "") := by
  unfold wayT
  by_cases c : 0 < y.noted.length
  · rw [if_pos c, if_pos c, if_pos c, ← Str.append_assoc]
    exact TL.partition_app (y := "; noted ") (s := 59) (S := [32, 110, 111, 116, 101, 100, 32]) (by decide +kernel) (head59 h)
  · rw [if_neg c, if_neg c, if_neg c]
    exact TL.partition_none (y := "; noted ") (s := 59) (S := [32, 110, 111, 116, 101, 100, 32]) (by decide +kernel) (head59 h)
theorem split_row {y : Way} (h : WF y) (hne : y.steps ≠ []) : Txt.split (rowT0 y) ", " = y.steps.map stepT :=
  TL.split_join (y := ", ") (s := 44) (S := [32]) (by decide +kernel) (by decide +kernel) (by simpa using hne) fun p hp => by
    obtain ⟨s, hs, rfl⟩ := List.mem_map.mp hp
    exact step_sep s (h.st s hs)
theorem split_tail {y : Way} (h : WF y) (hne : y.noted ≠ []) : Txt.split (tailT y) ", " = y.noted.map numT :=
  TL.split_join (y := ", ") (s := 44) (S := [32]) (by decide +kernel) (by decide +kernel) (by simpa using hne) fun p hp => by
    obtain ⟨s, hs, rfl⟩ := List.mem_map.mp hp
    exact num_sep s (h.nt s hs)
theorem fits100 {n : Nat} (h : n ≤ 1000) : n ≤ sizeLine := Nat.le_of_lt (small1000 h)
theorem stepT_len : ∀ s ∈ allSteps, (stepT s).length ≤ 20 := by decide +kernel
theorem row_len {y : Way} (h : WF y) : (rowT y).length ≤ 50 := by
  unfold rowT
  split
  · decide +kernel
  · exact h.rl
theorem head_len {y : Way} (h : WF y) : (headT y).length ≤ 60 := by
  unfold headT
  have h1 := row_len h
  have h2 := h.wl
  have h3 : ((": " : Str)).length = 2 := by decide +kernel
  rw [Str.length_append, Str.length_append, h3]; omega
theorem wayT_len {y : Way} (h : WF y) : (wayT y).length ≤ 200 := by
  unfold wayT
  have h1 := head_len h
  have h2 := h.tl
  have h3 : (("; noted " : Str)).length = 8 := by decide +kernel
  split
  · rw [Str.length_append, Str.length_append, h3]; omega
  · omega

end Kn

set_option Elab.async false
set_option maxRecDepth 100000
set_option linter.all false
namespace Kn
open PySem L2
local macro_rules | `(tactic| walk_at "wk") => `(tactic| repeat (first
  | refine ⟨_, rfl, ?_⟩
  | refine ⟨_, _, rfl, rfl, ?_⟩
  | refine ⟨⟨by decide, by decide⟩, ?_⟩
  | refine ⟨(by show (0 : Int) < _; decide), ?_⟩
  | refine ⟨Or.inl ⟨by omega, by omega⟩, ?_⟩
  | refine Or.inl ⟨_, rfl, ?_⟩
  | fail))
variable {P : Program} {w : World} {K : PySem.W.Frag} {mg : Str → Option Value} {base : Heap}
theorem steps_lt : ∀ t ∈ allSteps, 0 ≤ t.1 ∧ t.1 < 3 ∧ t.2 ∈ dirs := by decide +kernel

abbrev s__law_shuffled : Stmt := top 17
abbrev N__law_shuffled : List Str := ["_law_tape_here", "_law_many", "_law_left", "_law_row", "_law_k"]
abbrev P__law_shuffled : List Str := ["_law_tape_here", "_law_many"]
theorem sc__law_shuffled : FnScope N__law_shuffled P__law_shuffled (defScope s__law_shuffled) := ⟨rfl, rfl, rfl, by decide +kernel, rfl, by decide +kernel, by decide +kernel⟩
theorem shuf_len : ∀ n ∈ [0, 1, 2, 3], ∀ i ∈ [0, 1, 2, 3], (shufS n i).all (fun s => decide (i ≤ n → s.1.length = i ∧ s.2.length = n - i)) = true := by decide +kernel
def spShuf (K : PySem.W.Frag) : Sp := fun vs H Q _ => ∃ (t : Addr) (n : Nat), vs = [.ref t, .int n] ∧ Tape H t ∧ n ≤ 3 ∧ ∀ (l : Addr) (ps : List Int) (H' : Hp), H l = none → Dr t H H' → H' l = some (.lst (ps.map V.int)) → ps ∈ permsI n → ps.length = n → Q (.ref l) H'
theorem ok__law_shuffled (F : Fz K mg "_law_shuffled" s__law_shuffled P__law_shuffled) (T : Txt K mg) (G__law_take : Fx P w K mg base CX0 "_law_take" 1 P__law_take spTake) : Fx P w K mg base CX0 "_law_shuffled" 2 P__law_shuffled (spShuf K) := by
  refine F.ok sc__law_shuffled (fun vs H Q E h => ?_) (fun f cdv A outer s H vs Q E hr h => ?_)
  · obtain ⟨t, n, rfl, _⟩ := h
    rfl
  · obtain ⟨t, n, rfl, tp, hn, k⟩ := h
    refine ⟨_, (pss_cons (ps_setLc (i := 2) (own := [("_law_k", 4)]) (g := (gName 4)) (tt := tYes) rfl sc__law_shuffled.nd rfl rfl (sw_true rfl rfl rfl (by decide +kernel)) (pi_range1 (by rfl) T.b_range (pa_cons (pv 1) pa_nil)) (blkOk_by (own := [("_law_k", 4)]) (N := N__law_shuffled) (sc := defScope s__law_shuffled) (by decide +kernel)) (fun _ _ _ _ _ => (pg_name (i := 4) sc__law_shuffled.nd rfl (Or.inl rfl))) (fun _ _ _ _ _ => pts_nil) (fun _ _ _ _ _ => (pv 4)))
      (pss_cons (ps_set (i := 3) sc__law_shuffled.nd rfl (Or.inl rfl) (pe_lst pa_nil))
      (pss_cons (ps_for PassesOwn.never rfl (pi_range1 (by rfl) T.b_range (pa_cons (pv 1) pa_nil)) (pg_name (i := 4) sc__law_shuffled.nd rfl (Or.inl rfl)) (pss_one (ps_expr (pe_bmK K PySem.F.plainAttrs_list PySem.F.slot_list_append PySem.F.type_list_append mt_append (pv 3) (pa_cons (pe_bmK K PySem.F.plainAttrs_list PySem.F.slot_list_pop PySem.F.type_list_pop mt_popAt (pv 2) (pa_cons (fcall G__law_take (hr.mono (by decide)) (by rfl) (pa_cons (pv 0) (pa_cons (pe_callB (call_len_seqK K) (by rfl) T.b_len PySem.boot_len (pa_cons (pv 2) pa_nil)) pa_nil))) pa_nil)) pa_nil)))))
      (pss_one (ps_ret (pv 3)))))), ?_⟩
    refine ⟨_, rfl, _, rfl, by omega, by omega, fun l0 h0 => ?_⟩
    refine lc_accR (fun j => (rgI j).map V.int) h0 rfl (fun i hi => small1000 (by simp [rgI]; omega)) (fun i H1 R1 R hi sm g1 g2 => ⟨rfl, yes_ ⟨_, rfl, g2 _ (by simp [rgI, List.range_succ])⟩⟩) ?_
    refine ⟨(by show 0 ≤ sizeLine; decide), fun l1 h1 => ?_⟩
    have n10 : l0 ≠ l1 := ne_of_none upd_same h1
    have h1' : H l1 = none := by rw [← h1, upd_ne n10.symm]
    have nt0 := tp.ne h0
    have nt1 := tp.ne h1'
    refine ⟨_, rfl, _, rfl, by omega, by omega, ?_⟩
    refine for_range (n := ((n : Int)).toNat) (fun i σ H2 => ∃ (sp : List Int × List Int) (v4 : Option V), σ = [some (.ref t), some (.int n), some (.ref l0), some (.ref l1), v4] ∧ sp ∈ shufS n i ∧ H2 l0 = some (.lst (sp.2.map V.int)) ∧ H2 l1 = some (.lst (sp.1.map V.int)) ∧ Dr t H H2) ?_ ?_ ?_
    · refine ⟨([], rgI n), _, rfl, by simp [shufS], by rw [upd_ne n10]; exact upd_same, upd_same, ?_⟩
      have d1 : Dr t H (upd H l0 (.lst ((rgI ((n : Int)).toNat).map V.int))) := Dr.new tp h0
      exact d1.trans (Dr.new d1.tape h1)
    · rintro i σ H2 hi ⟨sp, v4, rfl, hsp, e0, e1, dr⟩
      have hi' : i < n := by omega
      have hl := List.all_eq_true.mp (shuf_len n (mem4 hn) i (mem4 (by omega))) sp hsp
      have hl := of_decide_eq_true hl (by omega)
      refine ⟨_, rfl, .inl ⟨rfl, _, SqL.of e1⟩, _, rfl, .inl ⟨rfl, _, SqL.of e0⟩, _, rfl, _, rfl, l0, _, rfl, .inl (SqL.of e0), t, _, rfl, dr.tape, (by rw [List.length_map, hl.2]; omega), fun r H4 r0 r1 d4 => ?_⟩
      rw [List.length_map] at r1
      have e0' := d4.keep _ _ e0 nt0.symm
      have e1' := d4.keep _ _ e1 nt1.symm
      have hr' : r.toNat < sp.2.length := by omega
      refine ⟨l0, _, r, r.toNat, V.int (sp.2.getD r.toNat 0), rfl, rfl, e0', by omega, by omega, seqIdx_nat r0 (by simpa using hr'), by simp [hr', List.getD_eq_getElem?_getD], ?_⟩
      refine ⟨l1, _, _, rfl, rfl, by rw [upd_ne n10.symm]; exact e1', small1000 (by rw [List.length_map, hl.1]; omega), ?_⟩
      refine ⟨(sp.1 ++ [sp.2.getD r.toNat 0], sp.2.eraseIdx r.toNat), _, rfl, ?_, by rw [upd_ne n10, upd_same, map_eraseIdx'], by rw [upd_same]; simp, Dr.upd (Dr.upd (dr.trans d4) nt0 h0) nt1 h1'⟩
      rw [shufS]
      exact List.mem_flatMap.mpr ⟨sp, hsp, List.mem_map.mpr ⟨r.toNat, List.mem_range.mpr hr', rfl⟩⟩
    · rintro σ H2 ⟨sp, v4, rfl, hsp, e0, e1, dr⟩
      have hsp : sp ∈ shufS n n := hsp
      have hl := List.all_eq_true.mp (shuf_len n (mem4 hn) n (mem4 hn)) sp hsp
      have hl := of_decide_eq_true hl (Nat.le_refl _)
      exact ⟨_, rfl, k l1 sp.1 H2 h1' dr e1 (List.mem_map.mpr ⟨sp, hsp, rfl⟩) hl.1⟩

end Kn

set_option Elab.async false
set_option maxRecDepth 100000
set_option linter.all false
namespace Kn
open PySem L2
local macro_rules | `(tactic| walk_at "wk") => `(tactic| repeat (first
  | refine ⟨_, rfl, ?_⟩
  | refine ⟨_, _, rfl, rfl, ?_⟩
  | refine ⟨⟨by decide, by decide⟩, ?_⟩
  | refine ⟨(by show (0 : Int) < _; decide), ?_⟩
  | refine ⟨Or.inl ⟨by omega, by omega⟩, ?_⟩
  | refine Or.inl ⟨_, rfl, ?_⟩
  | fail))
variable {P : Program} {w : World} {K : PySem.W.Frag} {mg : Str → Option Value} {base : Heap}
abbrev s__law_refused : Stmt := top 18
abbrev N__law_refused : List Str := ["_law_head", "_law_steps", "_law_marked", "e"]
abbrev P__law_refused : List Str := ["_law_head", "_law_steps", "_law_marked"]
theorem sc__law_refused : FnScope N__law_refused P__law_refused (defScope s__law_refused) := ⟨rfl, rfl, rfl, by decide +kernel, rfl, by decide +kernel, by decide +kernel⟩
/-- a way that is refused -/
def spRef (K : PySem.W.Frag) : Sp := fun vs H Q _ => ∃ (h : Str) (a b : Addr) (xs : List V) (l : List (Int × Str)) (ns : List Int), vs = [.str h, .ref a, .ref b] ∧ SqS K H a xs ∧ DpAll K H xs (l.map stepD) ∧ SqS K H b (ns.map V.int) ∧ l.length ≤ 20 ∧ ns.length ≤ 20 ∧
  (∀ ns' : List Int, ns'.Perm ns → isWayB ⟨h, l, ns'⟩ = false) ∧ ∀ H', Same H H' → Q (.bl true) H'
theorem ok__law_refused {e0 : Addr} (F : Fz K mg "_law_refused" s__law_refused P__law_refused) (T : Txt K mg) (G_way : FxB P w K mg base (L2.CX P w) "way" 3 P_way (spWay K mg) (wayB K e0)) : Fx P w K mg base CX0 "_law_refused" 4 P__law_refused (spRef K) := by
  refine F.ok sc__law_refused (fun vs H Q E h => ?_) (fun f cdv A outer s H vs Q E hr h => ?_)
  · obtain ⟨h, a, b, xs, l, ns, rfl, _⟩ := h
    rfl
  · obtain ⟨h, a, b, xs, l, ns, rfl, ha, hx, hb, hl, hn, bad, k⟩ := h
    refine ⟨_, (pss_cons (ps_try_as (i := 3) rfl rfl sc__law_refused.nd rfl rfl ⟨rfl, by decide, .inl T.g_NotesError⟩ takes0 (fun W pn xe tk _ => (pss_one (ps_expr (kcallS tk G_way (fun fd b => ⟨_, b.1⟩) (hr.mono (by decide)) (by rfl) (pk_cons (pv 0) (pk_cons (pv 1) (pk_cons (pv 2) pk_nil))))))) (fun a oe cls d pn hz hf => (pss_one (ps_ret (pe_and (pe_callB (call_isX K hz hf) (by rfl) T.b_isinstance (by decide +kernel) (pa_cons (pv 3) (pa_cons (pglob (v := .ref (clsA mg "BadWay")) rfl ⟨_, T.g_BadWay, rfl⟩) pa_nil))) (pe_one (pe_not (pe_callB (call_isX K hz hf) (by rfl) T.b_isinstance (by decide +kernel) (pa_cons (pv 3) (pa_cons (pglob (v := .ref (clsA mg "BadKind")) rfl ⟨_, T.g_BadKind, rfl⟩) pa_nil))))))))))
      (pss_one (ps_ret pe_bl))), ?_⟩
    refine ⟨_, rfl, _, rfl, _, rfl, rfl, h, a, b, xs, l, ns, rfl, ha, hx, hb, hl, hn, fun ns' hp hs => ⟨fun z => ?_, fun _ H' sm => ?_⟩⟩
    · rw [bad ns' hp] at z; cases z
    · refine ⟨true, T.exm_BadWay_NotesError, fun _ e he => ?_, fun z => nomatch z⟩
      refine ⟨_, rfl, _, _, _, _, rfl, rfl, T.q_BadWay, rfl, fun u r => r, T.kit_BadWay_BadWay, _, rfl, iteT ?_⟩
      exact ⟨_, rfl, _, _, _, _, rfl, rfl, T.q_BadWay, rfl, fun u r => r, T.kit_BadWay_BadKind, _, rfl, k _ sm⟩

end Kn

set_option Elab.async false
set_option maxRecDepth 100000
set_option linter.all false
namespace Kn
open PySem L2
local macro_rules | `(tactic| walk_at "wk") => `(tactic| repeat (first
  | refine ⟨_, rfl, ?_⟩
  | refine ⟨_, _, rfl, rfl, ?_⟩
  | refine ⟨⟨by decide, by decide⟩, ?_⟩
  | refine ⟨(by show (0 : Int) < _; decide), ?_⟩
  | refine ⟨Or.inl ⟨by omega, by omega⟩, ?_⟩
  | refine Or.inl ⟨_, rfl, ?_⟩
  | fail))
variable {P : Program} {w : World} {K : PySem.W.Frag} {mg : Str → Option Value} {base : Heap}
/-! ### ways that are none -/
theorem bad_whole {y : Way} (h : isDir y.whole = false) : isWayB y = false := by simp [isWayB, h]
theorem bad_len {y : Way} (h : 3 < y.steps.length) : isWayB y = false := by
  have : ¬ y.steps.length ≤ 3 := by omega
  simp [isWayB, this]
theorem bad_mode {y : Way} {s : Int × Str} (hs : s ∈ y.steps) (h : isDir s.2 = false) : isWayB y = false := by
  have : y.steps.all (fun s => isDir s.2) = false := List.all_eq_false.mpr ⟨s, hs, by rw [h]; simp⟩
  simp only [isWayB, this, Bool.and_false, Bool.false_and]
theorem bad_perm {y : Way} (h : ¬ (y.steps.map (·.1)).Perm (rgI y.steps.length)) : isWayB y = false := by
  simp only [isWayB, decide_eq_false h, Bool.and_false, Bool.false_and]
theorem mem_rgI {n : Nat} {x : Int} : x ∈ rgI n ↔ 0 ≤ x ∧ x < n := by
  unfold rgI
  constructor
  · intro h
    obtain ⟨i, hi, rfl⟩ := List.mem_map.mp h
    have := List.mem_range.mp hi
    omega
  · intro h
    exact List.mem_map.mpr ⟨x.toNat, List.mem_range.mpr (by omega), by omega⟩
theorem nodup_rgI (n : Nat) : (rgI n).Nodup := by
  unfold rgI
  rw [List.nodup_iff_pairwise_ne, List.pairwise_map]
  exact List.pairwise_lt_range.imp fun h => by omega
theorem bad_place {y : Way} {p : Int} (hp : p ∈ y.steps.map (·.1)) (h : p < 0 ∨ (y.steps.length : Int) ≤ p) : isWayB y = false :=
  bad_perm fun z => by
    have := mem_rgI.mp (z.mem_iff.mp hp)
    omega
theorem bad_twice {y : Way} (h : ¬ (y.steps.map (·.1)).Nodup) : isWayB y = false := bad_perm fun z => h (z.nodup_iff.mpr (nodup_rgI _))
theorem bad_miss {y : Way} {p : Int} (h0 : 0 ≤ p) (h1 : p < (y.steps.length : Int)) (h : p ∉ y.steps.map (·.1)) : isWayB y = false := bad_perm fun z => h (z.mem_iff.mpr (mem_rgI.mpr ⟨h0, h1⟩))
theorem noteOk_get {n : Nat} {l : List Int} (h : (List.range l.length).all (noteOk n l) = true) {k : Nat} {x : Int} (hx : l[k]? = some x) : 0 ≤ x ∧ x < n ∧ x ∉ l.take k := by
  have hk := (List.getElem?_eq_some_iff.mp hx).1
  have c := List.all_eq_true.mp h k (List.mem_range.mpr hk)
  have e : l.getD k 0 = x := by rw [List.getD_eq_getElem?_getD, hx]; rfl
  unfold noteOk at c
  rw [e] at c
  simp only [Bool.and_eq_true, Bool.not_eq_true', decide_eq_false_iff_not] at c
  refine ⟨by omega, by omega, fun z => ?_⟩
  rw [List.contains_iff_mem.mpr z] at c
  exact Bool.noConfusion c.2
theorem bad_noted {y : Way} {x : Int} (hx : x ∈ y.noted) (h : x < 0 ∨ (y.steps.length : Int) ≤ x) : isWayB y = false := by
  cases c : isWayB y with
  | false => rfl
  | true =>
    unfold isWayB at c
    rw [Bool.and_eq_true] at c
    obtain ⟨k, hk⟩ := List.mem_iff_getElem?.mp hx
    have := noteOk_get c.2 hk
    omega
theorem bad_again {y : Way} (h : ¬ y.noted.Nodup) : isWayB y = false := by
  cases c : isWayB y with
  | false => rfl
  | true =>
    exfalso
    apply h
    unfold isWayB at c
    rw [Bool.and_eq_true] at c
    rw [List.nodup_iff_pairwise_ne, List.pairwise_iff_getElem]
    intro i j hi hj hij e
    have := noteOk_get c.2 (List.getElem?_eq_getElem hj)
    refine this.2.2 ?_
    rw [← e]
    exact List.mem_take_iff_getElem.mpr ⟨i, by omega, rfl⟩
/-- a row that is refused -/
def BadRow (K : PySem.W.Frag) (H : Hp) (v : V) : Prop := ∃ (p : Addr) (h : Str) (s m : Addr) (xs : List V) (l : List (Int × Str)) (ns : List Int), v = .ref p ∧ SqT K H p [.str h, .ref s, .ref m] ∧ SqS K H s xs ∧ DpAll K H xs (l.map stepD) ∧ SqS K H m (ns.map V.int) ∧ l.length ≤ 20 ∧ ns.length ≤ 20 ∧
  ∀ ns' : List Int, ns'.Perm ns → isWayB ⟨h, l, ns'⟩ = false
theorem BadRow.same {K : PySem.W.Frag} {H H' : Hp} {v : V} (e : Same H H') (h : BadRow K H v) : BadRow K H' v := by
  obtain ⟨p, h, s, m, xs, l, ns, rfl, h1, h2, h3, h4, h5⟩ := h
  exact ⟨p, h, s, m, xs, l, ns, rfl, SqT.same e h1, SqS.same e h2, DpAll.same e _ h3, SqS.same e h4, h5⟩
structure FIn (K : PySem.W.Frag) (H0 : Hp) (t R S M : Addr) (xs : List V) (st : List (Int × Str)) (ms : List Int) (c : Nat) (H : Hp) : Prop where
  rows : ∃ vs, H R = some (.lst vs) ∧ vs.length ≤ c ∧ ∀ v ∈ vs, BadRow K (Hid [R, t] H) v
  sq : Hid [R, t] H S = some (.lst xs)
  dp : DpAll K (Hid [R, t] H) xs (st.map stepD)
  mq : Hid [R, t] H M = some (.lst (ms.map V.int))
  dr : Dr t H0 H
theorem FIn.app {K : PySem.W.Frag} {H0 H H' : Hp} {t R S M : Addr} {xs : List V} {st : List (Int × Str)} {ms : List Int} {c : Nat} {v : V} (F : FIn K H0 t R S M xs st ms c H) (nR : t ≠ R) (hR : H0 R = none) (e : Same H H') (b : BadRow K (Hid [R, t] H') v) (hc : c < 1000) :
    ∃ vs, H' R = some (.lst vs) ∧ vs.length < sizeLine ∧ FIn K H0 t R S M xs st ms (c + 1) (upd H' R (.lst (vs ++ [v]))) := by
  obtain ⟨⟨vs, h1, h2, h3⟩, st, dp, mk, dr⟩ := F
  have s1 : Same (Hid [R, t] H) (Hid [R, t] (upd H' R (.lst (vs ++ [v])))) := Same.trans (Hid.same e) (Hid.upd (by simp))
  refine ⟨vs, e _ _ h1, small1000 (by omega), ⟨vs ++ [v], upd_same, by simp; omega, fun z hz => ?_⟩, s1 _ _ st, DpAll.same s1 _ dp, s1 _ _ mk, ?_⟩
  · rcases List.mem_append.mp hz with hz | hz
    · exact BadRow.same s1 (h3 z hz)
    · rw [List.mem_singleton.mp hz]
      exact BadRow.same (Hid.upd (by simp)) b
  · have tp := dr.tape
    obtain ⟨ns, hns⟩ := tp
    refine ⟨⟨ns, by rw [upd_ne nR]; exact e _ _ hns⟩, fun b o hb nb => ?_⟩
    rw [upd_ne (ne_of_none hb hR)]
    exact e _ _ (dr.keep b o hb nb)
theorem FIn.R {K : PySem.W.Frag} {H0 H : Hp} {t R S M : Addr} {xs : List V} {st : List (Int × Str)} {ms : List Int} {c : Nat} (F : FIn K H0 t R S M xs st ms c H) : ∃ vs, H R = some (.lst vs) := by
  obtain ⟨vs, h, _⟩ := F.rows
  exact ⟨vs, h⟩
theorem FIn.new {K : PySem.W.Frag} {H0 H : Hp} {t R S M b : Addr} {xs : List V} {st : List (Int × Str)} {ms : List Int} {c : Nat} (F : FIn K H0 t R S M xs st ms c H) (hb : H b = none) : b ∉ [R, t] := by
  obtain ⟨vs, h⟩ := F.R
  obtain ⟨ns, h'⟩ := F.dr.tape
  intro z
  simp only [List.mem_cons, List.mem_nil_iff, or_false] at z
  rcases z with rfl | rfl
  · rw [hb] at h; cases h
  · rw [hb] at h'; cases h'
/-- a row is appended -/
theorem FIn.row {K : PySem.W.Frag} {H0 H H' : Hp} {t R S M p s m : Addr} {xs ys : List V} {st l : List (Int × Str)} {ms ns : List Int} {c : Nat} {h : Str} (F : FIn K H0 t R S M xs st ms c H) (nR : t ≠ R) (hR : H0 R = none) (e : Same H H') (hc : c < 1000)
    (hp : H' p = some (.tup [.str h, .ref s, .ref m])) (hs : H' s = some (.lst ys)) (ns' : s ∉ [R, t]) (hy : DpAll K H' ys (l.map stepD)) (hm : H' m = some (.lst (ns.map V.int))) (nm : m ∉ [R, t]) (h1 : l.length ≤ 20) (h2 : ns.length ≤ 20)
    (bad : ∀ zs : List Int, zs.Perm ns → isWayB ⟨h, l, zs⟩ = false) : ∃ vs, H' R = some (.lst vs) ∧ vs.length < sizeLine ∧ FIn K H0 t R S M xs st ms (c + 1) (upd H' R (.lst (vs ++ [.ref p]))) := by
  obtain ⟨vs, hv⟩ := F.R
  obtain ⟨tn, ht⟩ := F.dr.tape
  have hv' := e _ _ hv
  have ht' := e _ _ ht
  have nl' : ∀ {b o}, H' b = some o → (∀ l, o ≠ .lst l) → b ∉ [R, t] := fun {b o} q hl z => by
    simp only [List.mem_cons, List.mem_nil_iff, or_false] at z
    rcases z with rfl | rfl
    · rw [hv'] at q; cases q; exact hl _ rfl
    · rw [ht'] at q; cases q; exact hl _ rfl
  have tu : Tups H' (Hid [R, t] H') := fun b zs z => by
    rcases z with z | ⟨o, z⟩
    · exact .inl (Hid.get z (nl' z (by intro l q; cases q)))
    · exact .inr ⟨o, Hid.get z (nl' z (by intro l q; cases q))⟩
  exact F.app nR hR e ⟨p, h, s, m, ys, l, ns, rfl, SqT.of (Hid.get hp (nl' hp (by intro l q; cases q))), .inl (SqL.of (Hid.get hs ns')), DpAll.tups tu _ (nl_steps _) hy, .inl (SqL.of (Hid.get hm nm)), h1, h2, bad⟩ hc

end Kn

set_option Elab.async false
set_option maxRecDepth 100000
set_option linter.all false
namespace Kn
open PySem L2
local macro_rules | `(tactic| walk_at "wk") => `(tactic| repeat (first
  | refine ⟨_, rfl, ?_⟩
  | refine ⟨_, _, rfl, rfl, ?_⟩
  | refine ⟨⟨by decide, by decide⟩, ?_⟩
  | refine ⟨(by show (0 : Int) < _; decide), ?_⟩
  | refine ⟨Or.inl ⟨by omega, by omega⟩, ?_⟩
  | refine Or.inl ⟨_, rfl, ?_⟩
  | fail))
variable {P : Program} {w : World} {K : PySem.W.Frag} {mg : Str → Option Value} {base : Heap}
abbrev s__law_faults : Stmt := top 19
abbrev N__law_faults : List Str := ["_law_tape_here", "_law_head", "_law_steps", "_law_marked", "_law_many", "_law_word", "_law_rows", "_law_at", "_law_least", "_law_k", "_law_step"]
abbrev P__law_faults : List Str := ["_law_tape_here", "_law_head", "_law_steps", "_law_marked"]
theorem sc__law_faults : FnScope N__law_faults P__law_faults (defScope s__law_faults) := ⟨rfl, rfl, rfl, by decide +kernel, rfl, by decide +kernel, by decide +kernel⟩
def spFaults (K : PySem.W.Frag) : Sp := fun vs H Q _ => ∃ (t : Addr) (h : Str) (S M : Addr) (xs : List V) (st : List (Int × Str)) (ms : List Int), vs = [.ref t, .str h, .ref S, .ref M] ∧ Tape H t ∧ S ≠ t ∧ M ≠ t ∧ H S = some (.lst xs) ∧ DpAll K H xs (st.map stepD) ∧ H M = some (.lst (ms.map V.int)) ∧
  st.length ≤ 3 ∧ ms.length ≤ 3 ∧ (st.map (·.1)).Perm (rgI st.length) ∧ (∀ s ∈ st, s.2 ∈ dirs) ∧ h ∈ dirs ∧
  ∀ (R : Addr) (vs : List V) (H' : Hp), (∀ b o, H b = some o → b ≠ t → H' b = some o) → H' R = some (.lst vs) → (∀ v ∈ vs, BadRow K H' v) → Q (.ref R) H'
theorem words5 : ∀ x ∈ (["", "Told", "noted", "found ", "tell"] : List Str), isDir x = false ∧ PyData.strOk x = true := by decide +kernel
theorem dirs_ok : ∀ x ∈ dirs, PyData.strOk x = true := by decide +kernel
theorem mkRow {K : PySem.W.Frag} {H : Hp} {A : List Addr} {p s m : Addr} {h : Str} {xs : List V} {l : List (Int × Str)} {ns : List Int} (hp : H p = some (.tup [.str h, .ref s, .ref m])) (np : p ∉ A) (hs : Hid A H s = some (.lst xs)) (hx : DpAll K (Hid A H) xs (l.map stepD)) (hm : Hid A H m = some (.lst (ns.map V.int)))
    (h1 : l.length ≤ 20) (h2 : ns.length ≤ 20) (bad : ∀ ns' : List Int, ns'.Perm ns → isWayB ⟨h, l, ns'⟩ = false) : BadRow K (Hid A H) (.ref p) :=
  ⟨p, h, s, m, xs, l, ns, rfl, SqT.of (Hid.get hp np), .inl (SqL.of hs), hx, .inl (SqL.of hm), h1, h2, bad⟩
theorem notA {H : Hp} {R t p : Addr} {a b : HO} (hR : H R = some a) (ht : H t = some b) (hp : H p = none) : p ∉ [R, t] := by
  intro z
  simp only [List.mem_cons, List.mem_nil_iff, or_false] at z
  rcases z with rfl | rfl
  · rw [hp] at hR; cases hR
  · rw [hp] at ht; cases ht
theorem ok__law_faults (F : Fz K mg "_law_faults" s__law_faults P__law_faults) (T : Txt K mg) (G__law_take : Fx P w K mg base CX0 "_law_take" 1 P__law_take spTake) : Fx P w K mg base CX0 "_law_faults" 2 P__law_faults (spFaults K) := by
  refine F.ok sc__law_faults (fun vs H Q E h => ?_) (fun f cdv A outer s H vs Q E hr h => ?_)
  · obtain ⟨t, h, S, M, xs, st, ms, rfl, _⟩ := h
    rfl
  · obtain ⟨t, h, S, M, xs, st, ms, rfl, tp, nS, nM, eS, hx, eM, hn3, hm3, hperm, hdir, hh, k⟩ := h
    have hu65 : (cxOf CX0 P w K mg base N__law_faults "_law_faults" (defScope s__law_faults) f cdv A outer s H E).nox.A.units + 65 < cLine := by have := hr.un; show (A.deeper _).units + 65 < cLine; omega
    have hlen : xs.length = st.length := by rw [hx.len, List.length_map]
    refine ⟨_, (pss_cons (ps_set (i := 4) sc__law_faults.nd rfl (Or.inl rfl) (pe_callB (call_len_seqK K) (by rfl) T.b_len PySem.boot_len (pa_cons (pv 2) pa_nil)))
      (pss_cons (ps_set (i := 5) sc__law_faults.nd rfl (Or.inl rfl) (pe_ix (ix_listK K) (pe_lst (pa_cons pe_str (pa_cons pe_str (pa_cons pe_str (pa_cons pe_str (pa_cons pe_str pa_nil)))))) (fcall G__law_take (hr.mono (by decide)) (by rfl) (pa_cons (pv 0) (pa_cons pe_int pa_nil))) (fun _ _ => rfl)))
      (C8.pss_cut (ps_set (i := 6) sc__law_faults.nd rfl (Or.inl rfl) (pe_lst (pa_cons (pe_tup (pa_cons (pv 5) (pa_cons (pv 2) (pa_cons (pv 3) pa_nil)))) (pa_cons (pe_tup (pa_cons (pv 1) (pa_cons (pv 2) (pa_cons (pe_op op_cat (pv 3) (pe_lst (pa_cons (pv 4) pa_nil))) pa_nil)))) (pa_cons (pe_tup (pa_cons (pv 1) (pa_cons (pv 2) (pa_cons (pe_op op_cat (pv 3) (pe_lst (pa_cons (pe_un un_neg pe_int) pa_nil))) pa_nil)))) pa_nil)))))
      (C8.pss_cut (ps_expr (pe_bmK K PySem.F.plainAttrs_list PySem.F.slot_list_append PySem.F.type_list_append mt_append (pv 6) (pa_cons (pe_tup (pa_cons (pv 1) (pa_cons (pe_lc (own := [("_law_k", 9)]) (g := (gName 9)) (tt := tYes) rfl sc__law_faults.nd (pi_range1 (by rfl) T.b_range (pa_cons pe_int pa_nil)) (blkOk_by (own := [("_law_k", 9)]) (N := N__law_faults) (sc := defScope s__law_faults) (by decide +kernel)) (fun _ _ _ _ _ => (pg_name (i := 9) sc__law_faults.nd rfl (Or.inl rfl))) (fun _ _ _ _ _ => pts_nil) (fun _ _ _ _ _ => (pe_tup (pa_cons (pv 9) (pa_cons pe_str pa_nil))))) (pa_cons (pe_lst pa_nil) pa_nil)))) pa_nil)))
      (C8.pss_cut (ps_expr (pe_bmK K PySem.F.plainAttrs_list PySem.F.slot_list_append PySem.F.type_list_append mt_append (pv 6) (pa_cons (pe_tup (pa_cons (pv 1) (pa_cons (pe_op op_cat (pv 2) (pe_lst (pa_cons (pe_tup (pa_cons (pe_op op_add (pv 4) pe_int) (pa_cons pe_str pa_nil))) pa_nil))) (pa_cons (pe_lst pa_nil) pa_nil)))) pa_nil)))
      (C8.pss_cut (ps_expr (pe_bmK K PySem.F.plainAttrs_list PySem.F.slot_list_append PySem.F.type_list_append mt_append (pv 6) (pa_cons (pe_tup (pa_cons (pv 1) (pa_cons (pe_op op_cat (pe_lst (pa_cons (pe_tup (pa_cons (pe_un un_neg pe_int) (pa_cons pe_str pa_nil))) pa_nil)) (pv 2)) (pa_cons (pe_lst pa_nil) pa_nil)))) pa_nil)))
      (pss_cons (ps_if (pt_cmpR op_gt (pv 4) pe_int (nomark _)) (pss_cons (ps_set (i := 7) sc__law_faults.nd rfl (Or.inr rfl) (fcall G__law_take (hr.mono (by decide)) (by rfl) (pa_cons (pv 0) (pa_cons (pv 4) pa_nil))))
      (C8.pss_cut (ps_expr (pe_bmK K PySem.F.plainAttrs_list PySem.F.slot_list_append PySem.F.type_list_append mt_append (pv 6) (pa_cons (pe_tup (pa_cons (pv 1) (pa_cons (pe_op op_cat (pe_op op_cat (pe_slice (sl_listK K) (pv 2) po_none (po_some (pv 7))) (pe_lst (pa_cons (pe_tup (pa_cons (pe_ix (ix_tupK K) (pe_ix (ix_listK K) (pv 2) (pv 7) (fun _ _ => rfl)) pe_int (fun _ _ => rfl)) (pa_cons (pv 5) pa_nil))) pa_nil))) (pe_slice (sl_listK K) (pv 2) (po_some (pe_op op_add (pv 7) pe_int)) po_none)) (pa_cons (pv 3) pa_nil)))) pa_nil)))
      (C8.pss_cut (ps_expr (pe_bmK K PySem.F.plainAttrs_list PySem.F.slot_list_append PySem.F.type_list_append mt_append (pv 6) (pa_cons (pe_tup (pa_cons (pv 1) (pa_cons (pe_op op_cat (pv 2) (pe_lst (pa_cons (pe_ix (ix_listK K) (pv 2) (pv 7) (fun _ _ => rfl)) pa_nil))) (pa_cons (pv 3) pa_nil)))) pa_nil)))
      (C8.pss_cut (ps_expr (pe_bmK K PySem.F.plainAttrs_list PySem.F.slot_list_append PySem.F.type_list_append mt_append (pv 6) (pa_cons (pe_tup (pa_cons (pv 1) (pa_cons (pv 2) (pa_cons (pe_op op_cat (pe_op op_cat (pe_lst (pa_cons (pv 7) pa_nil)) (pe_lc (own := [("_law_k", 9)]) (g := (gName 9))  rfl sc__law_faults.nd (pi_listK K (pv 3)) (blkOk_by (own := [("_law_k", 9)]) (N := N__law_faults) (sc := defScope s__law_faults) (by decide +kernel)) (fun _ _ _ _ _ => (pg_name (i := 9) sc__law_faults.nd rfl (Or.inl rfl))) (fun _ _ _ _ _ => (pts_one (pt_cmpR op_ne (pv 9) (pv 7) (nomark _)))) (fun _ _ _ _ _ => (pv 9)))) (pe_lst (pa_cons (pv 7) pa_nil))) pa_nil)))) pa_nil)))
      (pss_cons (ps_set (i := 8) sc__law_faults.nd rfl (Or.inl rfl) (pe_bmK K PySem.F.plainAttrs_list PySem.F.slot_list_index PySem.F.type_list_index (mt_indexDK K hu65) (pv 2) (pa_cons (pe_tup (pa_cons pe_int (pa_cons (pe_ix (ix_listK K) (pe_lc (own := [("_law_step", 10)]) (g := (gName 10))  rfl sc__law_faults.nd (pi_listK K (pv 2)) (blkOk_by (own := [("_law_step", 10)]) (N := N__law_faults) (sc := defScope s__law_faults) (by decide +kernel)) (fun _ _ _ _ _ => (pg_name (i := 10) sc__law_faults.nd rfl (Or.inl rfl))) (fun _ _ _ _ _ => (pts_one (pt_cmpR op_eq (pe_ix (ix_tupK K) (pv 10) pe_int (fun _ _ => rfl)) pe_int (nomark _)))) (fun _ _ _ _ _ => (pe_ix (ix_tupK K) (pv 10) pe_int (fun _ _ => rfl)))) pe_int (fun _ _ => rfl)) pa_nil))) pa_nil)))
      (pss_one (ps_if (pt_cmpR op_gt (pv 4) pe_int (nomark _)) (pss_one (ps_expr (pe_bmK K PySem.F.plainAttrs_list PySem.F.slot_list_append PySem.F.type_list_append mt_append (pv 6) (pa_cons (pe_tup (pa_cons (pv 1) (pa_cons (pe_op op_cat (pe_slice (sl_listK K) (pv 2) po_none (po_some (pv 8))) (pe_slice (sl_listK K) (pv 2) (po_some (pe_op op_add (pv 8) pe_int)) po_none)) (pa_cons (pe_lst pa_nil) pa_nil)))) pa_nil)))) pss_nil))))))) pss_nil)
      (pss_one (ps_ret (pv 6)))))))))), ?_⟩
    refine ⟨_, rfl, S, _, rfl, .inl (SqL.of eS), ?_⟩
    refine ⟨(by show 5 ≤ sizeLine; decide), fun l0 h0 => ?_⟩
    have d0 := Dr.new (o := .lst [.str "", .str "Told", .str "noted", .str "found ", .str "tell"]) tp h0
    refine ⟨_, rfl, t, 5, rfl, d0.tape, by decide, fun r H1 r0 r1 d1 => ?_⟩
    have hw : ∃ x, atI [V.str "", V.str "Told", V.str "noted", V.str "found ", V.str "tell"] r = some (.str x) ∧ x ∈ (["", "Told", "noted", "found ", "tell"] : List Str) := by
      have : r = 0 ∨ r = 1 ∨ r = 2 ∨ r = 3 ∨ r = 4 := by omega
      rcases this with rfl | rfl | rfl | rfl | rfl <;> exact ⟨_, rfl, by simp⟩
    obtain ⟨x, hxa, hxm⟩ := hw
    obtain ⟨xd, xok⟩ := words5 x hxm
    refine ⟨l0, _, r, _, rfl, rfl, SqL.of (d1.keep _ _ upd_same (tp.ne h0).symm), hxa, ?_⟩
    have d1' := d0.trans d1
    have eS1 := d1'.keep _ _ eS nS
    have eM1 := d1'.keep _ _ eM nM
    have hx1 := DpAll.tups (d1'.tups tp) _ (nl_steps _) hx
    have hlm : st.length = (xs.length : Int).toNat := by omega
    -- the first three rows
    refine ⟨fun σ H2 => ∃ R, σ = [some (.ref t), some (.str h), some (.ref S), some (.ref M), some (.int xs.length), some (.str x), some (.ref R), none, none, none, none] ∧ t ≠ R ∧ H R = none ∧ FIn K H t R S M xs st ms 3 H2, ?_, ?_⟩
    · refine ⟨_, rfl, _, rfl, _, rfl, (by show 3 ≤ sizeLine; decide), fun p1 hp1 => ?_⟩
      generalize zzHa : upd _ p1 _ = Ha
      obtain ⟨s1, gp1⟩ := gen_new zzHa hp1
      refine ⟨_, rfl, _, rfl, _, rfl, _, rfl, (by show 1 ≤ sizeLine; decide), fun q1 hq1 => ?_⟩
      generalize zzHb : upd _ q1 _ = Hb
      obtain ⟨s2, gq1⟩ := gen_new zzHb hq1
      refine ⟨M, q1, _, _, rfl, rfl, s2 _ _ (s1 _ _ eM1), gq1, fits100 (by simp; omega), fun c1 hc1 => ?_⟩
      generalize zzHc : upd _ c1 _ = Hc
      obtain ⟨s3, gc1⟩ := gen_new zzHc hc1
      refine ⟨(by show 3 ≤ sizeLine; decide), fun p2 hp2 => ?_⟩
      generalize zzHd : upd _ p2 _ = Hd
      obtain ⟨s4, gp2⟩ := gen_new zzHd hp2
      have s14 := Same.trans s1 (Same.trans s2 (Same.trans s3 s4))
      refine ⟨_, rfl, _, rfl, _, rfl, _, rfl, (by show 1 ≤ sizeLine; decide), fun q2 hq2 => ?_⟩
      generalize zzHe : upd _ q2 _ = He
      obtain ⟨s5, gq2⟩ := gen_new zzHe hq2
      have s15 := Same.trans s14 s5
      refine ⟨M, q2, _, _, rfl, rfl, s15 _ _ eM1, gq2, fits100 (by simp; omega), fun c2 hc2 => ?_⟩
      generalize zzHf : upd _ c2 _ = Hf
      obtain ⟨s6, gc2⟩ := gen_new zzHf hc2
      refine ⟨(by show 3 ≤ sizeLine; decide), fun p3 hp3 => ?_⟩
      generalize zzH9 : upd _ p3 _ = H9
      obtain ⟨s7, gp3⟩ := gen_new zzH9 hp3
      refine ⟨(by show 3 ≤ sizeLine; decide), fun R hR => ?_⟩
      have s8 := same_new (o := .lst [.ref p1, .ref p2, .ref p3]) hR
      have s67 := Same.trans s6 s7
      have s57 := Same.trans s5 s67
      have s18 := Same.trans s14 s57
      -- where all of it stands
      have gc2 := s7 _ _ gc2
      have gp2 := s57 _ _ gp2
      have gc1 := Same.trans s4 s57 _ _ gc1
      have gp1 := Same.trans s2 (Same.trans s3 (Same.trans s4 s57)) _ _ gp1
      have gS := s18 _ _ eS1
      have gM := s18 _ _ eM1
      have gx := DpAll.same s18 _ hx1
      obtain ⟨tn, gt⟩ := d1'.tape
      have gt := s18 _ _ gt
      have nR : t ≠ R := ne_of_none gt hR
      have hR0 : H R = none := by
        cases z : H R with
        | none => rfl
        | some o =>
          have := s18 _ _ (d1'.keep _ _ z nR.symm)
          rw [hR] at this; cases this
      have here : ∀ {b o}, H9 b = some o → b ≠ t → Hid [R, t] (upd H9 R (.lst [.ref p1, .ref p2, .ref p3])) b = some o := fun {b o} e nb => Hid.get (s8 _ _ e) (by
        intro z
        simp only [List.mem_cons, List.mem_nil_iff, or_false] at z
        rcases z with rfl | rfl
        · rw [hR] at e; cases e
        · exact nb rfl)
      have tne : ∀ {b o}, H9 b = some o → (∀ l, o ≠ .lst l) → b ≠ t := fun {b o} e hl z => by subst z; rw [gt] at e; cases e; exact hl _ rfl
      have fresh : ∀ {b}, H1 b = none → b ≠ t := fun {b} e z => by
        subst z
        obtain ⟨q, hq⟩ := d1'.tape
        rw [hq] at e; cases e
      have nc1 : c1 ≠ t := fresh (by
        cases z : H1 c1 with
        | none => rfl
        | some o => rw [s2 _ _ (s1 _ _ z)] at hc1; cases hc1)
      have nc2 : c2 ≠ t := fresh (by
        cases z : H1 c2 with
        | none => rfl
        | some o => rw [s15 _ _ z] at hc2; cases hc2)
      have hS := here gS nS
      have hxx := DpAll.tups (H' := Hid [R, t] (upd H9 R (.lst [.ref p1, .ref p2, .ref p3]))) (fun b ys z => by
        rcases z with z | ⟨o, z⟩
        · exact .inl (here z (tne z (by intro l e; cases e)))
        · exact .inr ⟨o, here z (tne z (by intro l e; cases e))⟩) _ (nl_steps _) gx
      have e1 : ms.map V.int ++ [V.int xs.length] = (ms ++ [(xs.length : Int)]).map V.int := by simp
      have e2 : ms.map V.int ++ [V.int (-1)] = (ms ++ [-1]).map V.int := by simp
      refine ⟨R, rfl, nR, hR0, ⟨_, upd_same, by simp, fun v hv => ?_⟩, hS, hxx, here gM nM, ?_⟩
      · simp only [List.mem_cons, List.mem_nil_iff, or_false] at hv
        rcases hv with rfl | rfl | rfl
        · exact ⟨p1, x, S, M, xs, st, ms, rfl, SqT.of (here gp1 (tne gp1 (by intro l e; cases e))), .inl (SqL.of hS), hxx, .inl (SqL.of (here gM nM)), by omega, by omega, fun ns' _ => bad_whole xd⟩
        · refine ⟨p2, h, S, c1, xs, st, ms ++ [(xs.length : Int)], rfl, SqT.of (here gp2 (tne gp2 (by intro l e; cases e))), .inl (SqL.of hS), hxx, .inl (SqL.of (by rw [← e1]; exact here gc1 nc1)), by omega, by simp; omega, fun ns' hp => bad_noted (x := (xs.length : Int)) (hp.mem_iff.mpr (by simp)) (.inr (by show (st.length : Int) ≤ _; omega))⟩
        · refine ⟨p3, h, S, c2, xs, st, ms ++ [-1], rfl, SqT.of (here gp3 (tne gp3 (by intro l e; cases e))), .inl (SqL.of hS), hxx, .inl (SqL.of (by rw [← e2]; exact here gc2 nc2)), by omega, by simp; omega, fun ns' hp => bad_noted (x := -1) (hp.mem_iff.mpr (by simp)) (.inl (by decide))⟩
      · refine ⟨⟨tn, by rw [upd_ne nR]; exact gt⟩, fun b o hb nb => ?_⟩
        rw [upd_ne (ne_of_none hb hR0)]
        exact s18 _ _ (d1'.keep b o hb nb)
    · rintro σ H2 ⟨R, rfl, nR, hR, I2⟩
      -- four steps
      refine ⟨fun σ H3 => σ = [some (.ref t), some (.str h), some (.ref S), some (.ref M), some (.int xs.length), some (.str x), some (.ref R), none, none, none, none] ∧ FIn K H t R S M xs st ms 4 H3, ?_, ?_⟩
      · obtain ⟨vs0, e0⟩ := I2.R
        refine ⟨_, rfl, .inl ⟨rfl, _, SqL.of e0⟩, _, rfl, 4, rfl, by decide, by decide, fun D hD => ?_⟩
        refine lc_range (lo := 0) (n := 4) (fun i H3 => ∃ vs, H3 D = some (.lst vs) ∧ DpAll K H3 vs (((rgI i).map fun z => (z, ("told" : Str))).map stepD) ∧ Same H2 H3) ?_ ?_ ?_
        · exact ⟨[], upd_same, .nil, same_new hD⟩
        · rintro i H3 hi ⟨vs, eD, hv, sm⟩
          refine ⟨rfl, yes_ ⟨_, rfl, (by show 2 ≤ sizeLine; decide), fun q hq => ?_⟩⟩
          generalize zz : upd _ q _ = H4
          obtain ⟨s4, gq⟩ := gen_new zz hq
          have eD4 := s4 _ _ eD
          refine ⟨vs, eD4, small1000 (by rw [hv.len]; simp [rgI]; omega), vs ++ [.ref q], upd_same, ?_, fun b o z => by rw [upd_ne (ne_of_none z hD)]; exact s4 _ _ (sm _ _ z)⟩
          have er : rgI (i + 1) = rgI i ++ [(i : Int)] := by simp [rgI, List.range_succ]
          rw [er, List.map_append, List.map_append]
          refine DpAll.snoc (DpAll.tups ((Same.tups s4).trans (tups_upd eD4)) _ (nl_steps _) hv) (Dp.tups (tups_upd eD4) _ (nl_step _) ?_)
          refine .tup (SqT.of gq) (.cons ?_ (.cons (.str _) .nil))
          rw [Int.zero_add]
          exact .int _
        · rintro H3 ⟨vs, eD, hv, sm⟩
          refine ⟨(by show 0 ≤ sizeLine; decide), fun m hm => ?_⟩
          generalize zz : upd _ m _ = H4
          obtain ⟨s4, gm⟩ := gen_new zz hm
          refine ⟨(by show 3 ≤ sizeLine; decide), fun q hq => ?_⟩
          generalize zz5 : upd _ q _ = H5
          obtain ⟨s5, gq⟩ := gen_new zz5 hq
          have sA := Same.trans sm (Same.trans s4 s5)
          obtain ⟨vs1, e1, z1, I3⟩ := I2.row (ns := []) nR hR sA (by decide) gq (s5 _ _ (s4 _ _ eD)) (I2.new hD) (DpAll.same (Same.trans s4 s5) _ hv) (s5 _ _ gm) (I2.new (Same.free sm hm)) (by decide) (by decide) (fun zs _ => bad_len (by show 3 < 4; decide))
          exact ⟨R, _, _, rfl, rfl, e1, z1, rfl, I3⟩
      rintro σ H3 ⟨rfl, I3⟩
      refine ⟨fun σ H4 => σ = [some (.ref t), some (.str h), some (.ref S), some (.ref M), some (.int xs.length), some (.str x), some (.ref R), none, none, none, none] ∧ FIn K H t R S M xs st ms 5 H4, ?_, ?_⟩
      · obtain ⟨vs0, e0⟩ := I3.R
        have eS3 := (Hid.of I3.sq).1
        have hx3 := DpAll.same Hid.sub _ I3.dp
        refine ⟨_, rfl, .inl ⟨rfl, _, SqL.of e0⟩, _, rfl, _, rfl, _, rfl, _, _, rfl, rfl, (by show 2 ≤ sizeLine; decide), fun q1 hq1 => ?_⟩
        generalize zz4 : upd _ q1 _ = H4
        obtain ⟨s4, g1⟩ := gen_new zz4 hq1
        refine ⟨(by show 1 ≤ sizeLine; decide), fun q2 hq2 => ?_⟩
        generalize zz5 : upd _ q2 _ = H5
        obtain ⟨s5, g2⟩ := gen_new zz5 hq2
        have s35 := Same.trans s4 s5
        refine ⟨S, q2, _, _, rfl, rfl, s35 _ _ eS3, g2, fits100 (by simp; omega), fun q3 hq3 => ?_⟩
        generalize zz6 : upd _ q3 _ = H6
        obtain ⟨s6, g3⟩ := gen_new zz6 hq3
        refine ⟨(by show 0 ≤ sizeLine; decide), fun m hm => ?_⟩
        generalize zz7 : upd _ m _ = H7
        obtain ⟨s7, gm⟩ := gen_new zz7 hm
        refine ⟨(by show 3 ≤ sizeLine; decide), fun q hq => ?_⟩
        generalize zz8 : upd _ q _ = H8
        obtain ⟨s8, gq⟩ := gen_new zz8 hq
        have s68 := Same.trans s6 (Same.trans s7 s8)
        have s38 := Same.trans s35 s68
        have hd : DpAll K H8 (xs ++ [.ref q1]) ((st ++ [((xs.length : Int) + 1, ("found" : Str))]).map stepD) := by
          rw [List.map_append]
          exact DpAll.snoc (DpAll.same s38 _ hx3) (.tup (SqT.of (s68 _ _ (s5 _ _ g1))) (.cons (.int _) (.cons (.str _) .nil)))
        obtain ⟨vs1, e1, z1, I4⟩ := I3.row (ns := []) nR hR s38 (by decide) gq (s8 _ _ (s7 _ _ g3)) (I3.new (Same.free s35 hq3)) hd (s8 _ _ gm) (I3.new (Same.free (Same.trans s35 s6) hm)) (by simp; omega) (by decide)
          (fun zs _ => bad_place (p := (xs.length : Int) + 1) (by simp) (.inr (by simp; omega)))
        exact ⟨R, _, _, rfl, rfl, e1, z1, rfl, I4⟩
      rintro σ H4 ⟨rfl, I4⟩
      refine ⟨fun σ H5 => σ = [some (.ref t), some (.str h), some (.ref S), some (.ref M), some (.int xs.length), some (.str x), some (.ref R), none, none, none, none] ∧ FIn K H t R S M xs st ms 6 H5, ?_, ?_⟩
      · obtain ⟨vs0, e0⟩ := I4.R
        have eS3 := (Hid.of I4.sq).1
        have hx3 := DpAll.same Hid.sub _ I4.dp
        refine ⟨_, rfl, .inl ⟨rfl, _, SqL.of e0⟩, _, rfl, _, rfl, (by show 2 ≤ sizeLine; decide), fun q1 hq1 => ?_⟩
        generalize zz4 : upd _ q1 _ = H5
        obtain ⟨s4, g1⟩ := gen_new zz4 hq1
        refine ⟨(by show 1 ≤ sizeLine; decide), fun q2 hq2 => ?_⟩
        generalize zz5 : upd _ q2 _ = H6
        obtain ⟨s5, g2⟩ := gen_new zz5 hq2
        have s35 := Same.trans s4 s5
        refine ⟨_, rfl, q2, S, _, _, rfl, rfl, g2, s35 _ _ eS3, fits100 (by simp; omega), fun q3 hq3 => ?_⟩
        generalize zz6 : upd _ q3 _ = H7
        obtain ⟨s6, g3⟩ := gen_new zz6 hq3
        refine ⟨(by show 0 ≤ sizeLine; decide), fun m hm => ?_⟩
        generalize zz7 : upd _ m _ = H8
        obtain ⟨s7, gm⟩ := gen_new zz7 hm
        refine ⟨(by show 3 ≤ sizeLine; decide), fun q hq => ?_⟩
        generalize zz8 : upd _ q _ = H9
        obtain ⟨s8, gq⟩ := gen_new zz8 hq
        have s68 := Same.trans s6 (Same.trans s7 s8)
        have s38 := Same.trans s35 s68
        have hd : DpAll K H9 ([.ref q1] ++ xs) (([(-1, ("found" : Str))] ++ st).map stepD) := by
          rw [List.map_append]
          exact .cons (.tup (SqT.of (s68 _ _ (s5 _ _ g1))) (.cons (.int _) (.cons (.str _) .nil))) (DpAll.same s38 _ hx3)
        obtain ⟨vs1, e1, z1, I5⟩ := I4.row (ns := []) nR hR s38 (by decide) gq (s8 _ _ (s7 _ _ g3)) (I4.new (Same.free s35 hq3)) hd (s8 _ _ gm) (I4.new (Same.free (Same.trans s35 s6) hm)) (by simp; omega) (by decide)
          (fun zs _ => bad_place (p := -1) (by simp) (.inl (by decide)))
        exact ⟨R, _, _, rfl, rfl, e1, z1, rfl, I5⟩
      rintro σ H5 ⟨rfl, I5⟩
      have fin : ∀ (c : Nat) (H6 : Hp), FIn K H t R S M xs st ms c H6 → Q (.ref R) H6 := fun c H6 I => by
        obtain ⟨vs, h1, h2, h3⟩ := I.rows
        exact k R vs H6 I.dr.keep h1 fun v hv => BadRow.same Hid.sub (h3 v hv)
      refine ⟨_, rfl, _, _, rfl, rfl, _, rfl, ?_⟩
      refine ite2 (fun c => ?_) (fun c => ?_)
      · have c : 0 < xs.length := by have := of_decide_eq_true c; omega
        refine ⟨_, rfl, _, rfl, t, _, rfl, I5.dr.tape, by omega, fun at' H6 a0 a1 d6 => ?_⟩
        obtain ⟨j, rfl⟩ : ∃ j : Nat, at' = (j : Int) := ⟨at'.toNat, by omega⟩
        have hj : j < xs.length := by omega
        have hj' : j < st.length := by omega
        -- the tape has changed
        have I6 : FIn K H t R S M xs st ms 6 H6 := by
          obtain ⟨⟨vs, h1, h2, h3⟩, sq, dp, mq, dr⟩ := I5
          have sh : Same (Hid [R, t] H5) (Hid [R, t] H6) := Hid.keep fun b o e n => d6.keep b o e (by intro z; exact n (by simp [z]))
          exact ⟨⟨vs, d6.keep _ _ h1 nR.symm, h2, fun v hv => BadRow.same sh (h3 v hv)⟩, sh _ _ sq, DpAll.same sh _ dp, sh _ _ mq, dr.trans d6⟩
        refine ⟨fun σ H7 => σ = [some (.ref t), some (.str h), some (.ref S), some (.ref M), some (.int xs.length), some (.str x), some (.ref R), some (.int (j : Int)), none, none, none] ∧ FIn K H t R S M xs st ms 7 H7, ?_, ?_⟩
        · obtain ⟨vs0, e0⟩ := I6.R
          have eS3 := (Hid.of I6.sq).1
          have eM3 := (Hid.of I6.mq).1
          have hx3 := DpAll.same Hid.sub _ I6.dp
          obtain ⟨v, hv, hvd⟩ := DpAll.of_get hx3 (show (st.map stepD)[j]? = some (stepD st[j]) by simp [hj'])
          refine ⟨_, rfl, .inl ⟨rfl, _, SqL.of e0⟩, _, rfl, _, rfl, _, rfl, _, rfl, S, _, rfl, SqL.of eS3, fun a1 ha1 => ?_⟩
          rw [cut_take (i := j) rfl (by omega)]
          generalize zz1 : upd _ a1 _ = Ha
          obtain ⟨s1, g1⟩ := gen_new zz1 ha1
          obtain ⟨tv, rfl, htv⟩ := step_inv (Dp.same s1 _ hvd)
          refine ⟨_, rfl, _, rfl, S, _, _, _, rfl, rfl, SqL.of (s1 _ _ eS3), at_of (j := j) rfl hv, tv, _, 0, _, rfl, rfl, htv, at_of (j := 0) rfl rfl, _, rfl, (by show 2 ≤ sizeLine; decide), fun a2 ha2 => ?_⟩
          generalize zz2 : upd _ a2 _ = Hb
          obtain ⟨s2, g2⟩ := gen_new zz2 ha2
          refine ⟨(by show 1 ≤ sizeLine; decide), fun a3 ha3 => ?_⟩
          generalize zz3 : upd _ a3 _ = Hc
          obtain ⟨s3, g3⟩ := gen_new zz3 ha3
          refine ⟨a1, a3, _, _, rfl, rfl, s3 _ _ (s2 _ _ g1), g3, fits100 (by simp; omega), fun a4 ha4 => ?_⟩
          generalize zz4 : upd _ a4 _ = Hd
          obtain ⟨s4, g4⟩ := gen_new zz4 ha4
          have s14 := Same.trans s1 (Same.trans s2 (Same.trans s3 s4))
          refine ⟨_, rfl, _, rfl, _, _, rfl, rfl, _, rfl, S, _, rfl, SqL.of (s14 _ _ eS3), fun a5 ha5 => ?_⟩
          rw [cut_drop (i := j + 1) (by omega) (by omega)]
          generalize zz5 : upd _ a5 _ = He
          obtain ⟨s5, g5⟩ := gen_new zz5 ha5
          refine ⟨a4, a5, _, _, rfl, rfl, s5 _ _ g4, g5, fits100 (by simp; omega), fun a6 ha6 => ?_⟩
          generalize zz6 : upd _ a6 _ = Hf
          obtain ⟨s6, g6⟩ := gen_new zz6 ha6
          have s15 := Same.trans s14 s5
          refine ⟨_, rfl, (by show 3 ≤ sizeLine; decide), fun a7 ha7 => ?_⟩
          generalize zz7 : upd _ a7 _ = Hg
          obtain ⟨s7, g7⟩ := gen_new zz7 ha7
          have s17 := Same.trans s15 (Same.trans s6 s7)
          have hx7 := DpAll.same s17 _ hx3
          have hd : DpAll K Hg ((xs.take j ++ [.ref a2]) ++ xs.drop (j + 1)) (((st.take j ++ [(st[j].1, x)]) ++ st.drop (j + 1)).map stepD) := by
            rw [List.map_append, List.map_append, List.map_take, List.map_drop]
            exact DpAll.app (DpAll.snoc (DpAll.take j hx7) (.tup (SqT.of (Same.trans s3 (Same.trans s4 (Same.trans s5 (Same.trans s6 s7))) _ _ g2)) (.cons (.int _) (.cons (.str _) .nil)))) (DpAll.drop (j + 1) hx7)
          obtain ⟨vs1, e1, z1, I7⟩ := I6.row nR hR s17 (by decide) g7 (s7 _ _ g6) (I6.new (Same.free s15 ha6)) hd (s17 _ _ eM3) (Hid.of I6.mq).2 (by simp; omega) (by omega)
            (fun zs _ => bad_mode (s := (st[j].1, x)) (by simp) xd)
          exact ⟨R, _, _, rfl, rfl, e1, z1, rfl, I7⟩
        rintro σ H7 ⟨rfl, I7⟩
        refine ⟨fun σ H8 => σ = [some (.ref t), some (.str h), some (.ref S), some (.ref M), some (.int xs.length), some (.str x), some (.ref R), some (.int (j : Int)), none, none, none] ∧ FIn K H t R S M xs st ms 8 H8, ?_, ?_⟩
        · obtain ⟨vs0, e0⟩ := I7.R
          have eS3 := (Hid.of I7.sq).1
          have eM3 := (Hid.of I7.mq).1
          have hx3 := DpAll.same Hid.sub _ I7.dp
          obtain ⟨v, hv, hvd⟩ := DpAll.of_get hx3 (show (st.map stepD)[j]? = some (stepD st[j]) by simp [hj'])
          refine ⟨_, rfl, .inl ⟨rfl, _, SqL.of e0⟩, _, rfl, _, rfl, _, rfl, _, rfl, S, _, _, _, rfl, rfl, SqL.of eS3, at_of (j := j) rfl hv, (by show 1 ≤ sizeLine; decide), fun a1 ha1 => ?_⟩
          generalize zz1 : upd _ a1 _ = Ha
          obtain ⟨s1, g1⟩ := gen_new zz1 ha1
          refine ⟨S, a1, _, _, rfl, rfl, s1 _ _ eS3, g1, fits100 (by simp; omega), fun a2 ha2 => ?_⟩
          generalize zz2 : upd _ a2 _ = Hb
          obtain ⟨s2, g2⟩ := gen_new zz2 ha2
          refine ⟨_, rfl, (by show 3 ≤ sizeLine; decide), fun a3 ha3 => ?_⟩
          generalize zz3 : upd _ a3 _ = Hc
          obtain ⟨s3, g3⟩ := gen_new zz3 ha3
          have s13 := Same.trans s1 (Same.trans s2 s3)
          have hd : DpAll K Hc (xs ++ [v]) ((st ++ [st[j]]).map stepD) := by
            rw [List.map_append]
            exact DpAll.snoc (DpAll.same s13 _ hx3) (Dp.same s13 _ hvd)
          obtain ⟨vs1, e1, z1, I8⟩ := I7.row nR hR s13 (by decide) g3 (s3 _ _ g2) (I7.new (Same.free s1 ha2)) hd (s13 _ _ eM3) (Hid.of I7.mq).2 (by simp; omega) (by omega)
            (fun zs _ => bad_twice (by
              show ¬ ((st ++ [st[j]]).map (·.1)).Nodup
              rw [List.map_append, List.nodup_append]
              rintro ⟨_, _, z⟩
              exact z _ (List.mem_map.mpr ⟨st[j], List.getElem_mem _, rfl⟩) _ (by simp) rfl))
          exact ⟨R, _, _, rfl, rfl, e1, z1, rfl, I8⟩
        rintro σ H8 ⟨rfl, I8⟩
        refine ⟨fun σ H9 => σ = [some (.ref t), some (.str h), some (.ref S), some (.ref M), some (.int xs.length), some (.str x), some (.ref R), some (.int (j : Int)), none, none, none] ∧ FIn K H t R S M xs st ms 9 H9, ?_, ?_⟩
        · obtain ⟨vs0, e0⟩ := I8.R
          have eS3 := (Hid.of I8.sq).1
          have eM3 := (Hid.of I8.mq).1
          have hx3 := DpAll.same Hid.sub _ I8.dp
          refine ⟨_, rfl, .inl ⟨rfl, _, SqL.of e0⟩, _, rfl, _, rfl, _, rfl, (by show 1 ≤ sizeLine; decide), fun a1 ha1 => ?_⟩
          generalize zz1 : upd _ a1 _ = Ha
          obtain ⟨s1, g1⟩ := gen_new zz1 ha1
          refine ⟨_, rfl, M, rfl, ⟨_, SqL.of (s1 _ _ eM3)⟩, fun D hD => ?_⟩
          refine lc_accL (fun i => ((ms.take i).filter fun z => !decide (z = (j : Int))).map V.int) hD (SqL.of (s1 _ _ eM3)) (by simp) (fun i hi => small1000 ?_) ?_ ?_
          · rw [List.length_map]
            refine Nat.le_trans (List.length_filter_le _ _) ?_
            simp; omega
          · intro i y Hy R1 R2 hy sm g1 g2
            rw [List.getElem?_map] at hy
            obtain ⟨z, hz, rfl⟩ := Option.map_eq_some_iff.mp hy
            rw [take_succ_get hz, List.filter_append, List.map_append] at g1 g2
            refine ⟨rfl, _, rfl, _, rfl, rfl, _, rfl, ?_⟩
            by_cases cz : z = (j : Int)
            · refine itF (by simp [cz]) (g1 ?_)
              simp [cz]
            · refine itT (by simp [cz]) ⟨_, rfl, g2 _ ?_⟩
              simp [cz]
          · generalize zz2 : upd _ D _ = Hb
            obtain ⟨s2, g2⟩ := gen_new zz2 hD
            rw [List.length_map, List.take_length] at g2
            refine ⟨a1, D, _, _, rfl, rfl, s2 _ _ g1, g2, fits100 ?_, fun a3 ha3 => ?_⟩
            · rw [List.length_map]
              have := List.length_filter_le (fun z => !decide (z = (j : Int))) ms
              simp; omega
            generalize zz3 : upd _ a3 _ = Hc
            obtain ⟨s3, g3⟩ := gen_new zz3 ha3
            refine ⟨_, rfl, (by show 1 ≤ sizeLine; decide), fun a4 ha4 => ?_⟩
            generalize zz4 : upd _ a4 _ = Hd
            obtain ⟨s4, g4⟩ := gen_new zz4 ha4
            refine ⟨a3, a4, _, _, rfl, rfl, s4 _ _ g3, g4, fits100 ?_, fun a5 ha5 => ?_⟩
            · have := List.length_filter_le (fun z => !decide (z = (j : Int))) ms
              simp; omega
            generalize zz5 : upd _ a5 _ = He
            obtain ⟨s5, g5⟩ := gen_new zz5 ha5
            refine ⟨(by show 3 ≤ sizeLine; decide), fun a6 ha6 => ?_⟩
            generalize zz6 : upd _ a6 _ = Hf
            obtain ⟨s6, g6⟩ := gen_new zz6 ha6
            have s14 := Same.trans s1 (Same.trans s2 (Same.trans s3 s4))
            have s16 := Same.trans s14 (Same.trans s5 s6)
            have en : ([V.int (j : Int)] ++ (ms.filter fun z => !decide (z = (j : Int))).map V.int) ++ [V.int (j : Int)] = ([(j : Int)] ++ (ms.filter fun z => !decide (z = (j : Int))) ++ [(j : Int)]).map V.int := by simp
            rw [en] at g5
            obtain ⟨vs1, e1, z1, I9⟩ := I8.row nR hR s16 (by decide) g6 (s16 _ _ eS3) (Hid.of I8.sq).2 (DpAll.same s16 _ hx3) (s6 _ _ g5) (I8.new (Same.free s14 ha5)) (by omega) (by have := List.length_filter_le (fun z => !decide (z = (j : Int))) ms; simp; omega)
              (fun zs hp => bad_again (fun z => by
                have z : ([(j : Int)] ++ (ms.filter fun z => !decide (z = (j : Int))) ++ [(j : Int)]).Nodup := hp.nodup_iff.mp z
                rw [List.nodup_append] at z
                exact z.2.2 (j : Int) (by simp) (j : Int) (by simp) rfl))
            exact ⟨R, _, _, rfl, rfl, e1, z1, rfl, I9⟩
        rintro σ H9 ⟨rfl, I9⟩
        have eS3 := (Hid.of I9.sq).1
        have hx3 := DpAll.same Hid.sub _ I9.dp
        have hnd : (st.map (·.1)).Nodup := hperm.nodup_iff.mpr (nodup_rgI _)
        have h0m : (0 : Int) ∈ st.map (·.1) := hperm.mem_iff.mpr (mem_rgI.mpr ⟨by decide, by omega⟩)
        obtain ⟨s00, hs00, e00⟩ := List.mem_map.mp h0m
        have hne : (st.filter fun s => decide (s.1 = 0)) ≠ [] := fun z => by
          have : s00 ∈ st.filter fun s => decide (s.1 = 0) := List.mem_filter.mpr ⟨hs00, decide_eq_true e00⟩
          rw [z] at this; cases this
        obtain ⟨s0, rest, hf⟩ := List.exists_cons_of_ne_nil hne
        have hs0 : s0 ∈ st.filter fun s => decide (s.1 = 0) := by rw [hf]; simp
        have hs0st := (List.mem_filter.mp hs0).1
        have hs00' : s0.1 = 0 := of_decide_eq_true (List.mem_filter.mp hs0).2
        obtain ⟨j0, hj0⟩ := List.mem_iff_getElem?.mp hs0st
        have hj0l := (List.getElem?_eq_some_iff.mp hj0).1
        have hs02 := hdir s0 hs0st
        refine ⟨_, rfl, .inl ⟨rfl, _, SqL.of eS3⟩, _, rfl, S, rfl, ⟨_, SqL.of eS3⟩, fun D hD => ?_⟩
        refine lc_accL (fun i => ((st.take i).filter fun s => decide (s.1 = 0)).map fun s => V.str s.2) hD (SqL.of eS3) (by simp) (fun i hi => small1000 ?_) ?_ ?_
        · rw [List.length_map]
          refine Nat.le_trans (List.length_filter_le _ _) ?_
          simp; omega
        · intro i y Hy R1 R2 hy sm g1 g2
          obtain ⟨z, hz, hzd⟩ := DpAll.getMap hx3 hy
          obtain ⟨tz, rfl, htz⟩ := step_inv (Dp.same sm _ hzd)
          rw [take_succ_get hz, List.filter_append, List.map_append] at g1 g2
          refine ⟨rfl, _, rfl, tz, _, 0, _, rfl, rfl, htz, at_of (j := 0) rfl rfl, rfl, _, rfl, ?_⟩
          by_cases cz : z.1 = 0
          · refine itT (by simp [cz]) ⟨_, rfl, tz, _, 1, _, rfl, rfl, htz, at_of (j := 1) rfl rfl, g2 _ ?_⟩
            simp [cz]
          · refine itF (by simp [cz]) (g1 ?_)
            simp [cz]
        · generalize zz1 : upd _ D _ = Ha
          obtain ⟨s1, g1⟩ := gen_new zz1 hD
          rw [hlen, List.take_length, hf] at g1
          refine ⟨D, _, 0, V.str s0.2, rfl, rfl, SqL.of g1, at_of (j := 0) rfl rfl, (by show 2 ≤ sizeLine; decide), fun a2 ha2 => ?_⟩
          generalize zz2 : upd _ a2 _ = Hb
          obtain ⟨s2, g2⟩ := gen_new zz2 ha2
          have s12 := Same.trans s1 s2
          have eqS : ∀ (u v : Int × Str), PyData.eqv (stepD u) (stepD v) = (u.1 == v.1 && (u.2 == v.2 && true)) := fun u v => by
            unfold stepD
            rw [PyData.eqv, PyData.eqvAll, PyData.eqvAll, PyData.eqvAll, PyData.eqv, PyData.eqv]
          have layS : ∀ s ∈ st, Lay 1 (stepD s) := fun s hs => Lay.tup fun d hd => by
            simp only [List.mem_cons, List.mem_nil_iff, or_false] at hd
            rcases hd with rfl | rfl
            · exact Lay.int _ _
            · exact Lay.str _ (dirs_ok _ (hdir s hs))
          refine ⟨S, _, stepD (0, s0.2), st.map stepD, j0, stepD s0, rfl, rfl, .lst (SqL.of (s12 _ _ eS3)) (DpAll.same s12 _ hx3), .tup (SqT.of g2) (.cons (.int _) (.cons (.str _) .nil)), ?_, ?_, by rw [List.getElem?_map, hj0]; rfl, by rw [eqS, hs00']; simp, ?_, ?_⟩
          · refine (Lay.lst (n := 1) fun d hd => ?_).shaped
            obtain ⟨s, hs, rfl⟩ := List.mem_map.mp hd
            exact layS s hs
          · refine (Lay.tup (n := 0) fun d hd => ?_).shaped
            simp only [List.mem_cons, List.mem_nil_iff, or_false] at hd
            rcases hd with rfl | rfl
            · exact Lay.int _ _
            · exact Lay.str _ (dirs_ok _ hs02)
          · intro m z' hm hz'
            rw [List.getElem?_map] at hz'
            obtain ⟨s', hs', rfl⟩ := Option.map_eq_some_iff.mp hz'
            rw [eqS]
            have hne' : s'.1 ≠ 0 := fun z => by
              have hml := (List.getElem?_eq_some_iff.mp hs').1
              have := (List.pairwise_iff_getElem.mp (List.nodup_iff_pairwise_ne.mp hnd)) m j0 (by simpa using hml) (by simpa using hj0l) hm
              apply this
              simp only [List.getElem_map]
              rw [(List.getElem?_eq_some_iff.mp hs').2, (List.getElem?_eq_some_iff.mp hj0).2, z, hs00']
            simp [hne']
          refine ⟨_, rfl, _, _, rfl, rfl, _, rfl, ?_⟩
          have I10 : FIn K H t R S M xs st ms 9 Hb := by
            obtain ⟨⟨vs, h1, h2, h3⟩, sq, dp, mq, dr⟩ := I9
            have sh : Same (Hid [R, t] H9) (Hid [R, t] Hb) := Hid.same s12
            obtain ⟨tn, ht⟩ := dr.tape
            exact ⟨⟨vs, s12 _ _ h1, h2, fun v hv => BadRow.same sh (h3 v hv)⟩, sh _ _ sq, DpAll.same sh _ dp, sh _ _ mq, ⟨⟨tn, s12 _ _ ht⟩, fun b o e n => s12 _ _ (dr.keep b o e n)⟩⟩
          refine ite2 (fun c1 => ?_) (fun c1 => ?_)
          · have c1 : 1 < xs.length := by have := of_decide_eq_true c1; omega
            obtain ⟨vs0, e0⟩ := I10.R
            have eS4 := (Hid.of I10.sq).1
            have hx4 := DpAll.same Hid.sub _ I10.dp
            refine ⟨_, rfl, .inl ⟨rfl, _, SqL.of e0⟩, _, rfl, _, rfl, _, rfl, _, rfl, S, _, rfl, SqL.of eS4, fun b1 hb1 => ?_⟩
            rw [cut_take (i := j0) rfl (by omega)]
            generalize zz3 : upd _ b1 _ = Hc
            obtain ⟨s3, g3⟩ := gen_new zz3 hb1
            refine ⟨_, rfl, _, rfl, _, _, rfl, rfl, _, rfl, S, _, rfl, SqL.of (s3 _ _ eS4), fun b2 hb2 => ?_⟩
            rw [cut_drop (i := j0 + 1) (by omega) (by omega)]
            generalize zz4 : upd _ b2 _ = Hd
            obtain ⟨s4, g4⟩ := gen_new zz4 hb2
            refine ⟨b1, b2, _, _, rfl, rfl, s4 _ _ g3, g4, fits100 (by simp; omega), fun b3 hb3 => ?_⟩
            generalize zz5 : upd _ b3 _ = He
            obtain ⟨s5, g5⟩ := gen_new zz5 hb3
            refine ⟨(by show 0 ≤ sizeLine; decide), fun b4 hb4 => ?_⟩
            generalize zz6 : upd _ b4 _ = Hf
            obtain ⟨s6, g6⟩ := gen_new zz6 hb4
            refine ⟨(by show 3 ≤ sizeLine; decide), fun b5 hb5 => ?_⟩
            generalize zz7 : upd _ b5 _ = Hg
            obtain ⟨s7, g7⟩ := gen_new zz7 hb5
            have s34 := Same.trans s3 s4
            have s37 := Same.trans s34 (Same.trans s5 (Same.trans s6 s7))
            have hx7 := DpAll.same s37 _ hx4
            have hd : DpAll K Hg (xs.take j0 ++ xs.drop (j0 + 1)) ((st.take j0 ++ st.drop (j0 + 1)).map stepD) := by
              rw [List.map_append, List.map_take, List.map_drop]
              exact DpAll.app (DpAll.take j0 hx7) (DpAll.drop (j0 + 1) hx7)
            have hsplit : st = st.take j0 ++ s0 :: st.drop (j0 + 1) := by
              have := (List.getElem?_eq_some_iff.mp hj0).2
              rw [← this, List.getElem_cons_drop, List.take_append_drop]
            obtain ⟨vs1, e1, z1, I11⟩ := I10.row (ns := []) nR hR s37 (by decide) g7 (s7 _ _ (s6 _ _ g5)) (I10.new (Same.free s34 hb3)) hd (s7 _ _ g6) (I10.new (Same.free (Same.trans s34 s5) hb4)) (by simp; omega) (by decide)
              (fun zs _ => bad_miss (p := 0) (by decide) (by show (0 : Int) < ((st.take j0 ++ st.drop (j0 + 1)).length : Nat); simp; omega) (fun z => by
                have z : (0 : Int) ∈ (st.take j0 ++ st.drop (j0 + 1)).map (·.1) := z
                rw [hsplit, List.map_append, List.map_cons, hs00'] at hnd
                rw [List.map_append] at z
                rw [List.nodup_append] at hnd
                rcases List.mem_append.mp z with z | z
                · exact hnd.2.2 _ z 0 (by simp) rfl
                · exact (List.nodup_cons.mp hnd.2.1).1 z))
            exact ⟨R, _, _, rfl, rfl, e1, z1, _, rfl, fin _ _ I11⟩
          · exact ⟨_, rfl, fin _ _ I10⟩
      · exact ⟨_, rfl, fin _ _ I5⟩

end Kn

set_option Elab.async false
set_option maxRecDepth 100000
set_option linter.all false
namespace Kn
open PySem L2
local macro_rules | `(tactic| walk_at "wk") => `(tactic| repeat (first
  | refine ⟨_, rfl, ?_⟩
  | refine ⟨_, _, rfl, rfl, ?_⟩
  | refine ⟨⟨by decide, by decide⟩, ?_⟩
  | refine ⟨(by show (0 : Int) < _; decide), ?_⟩
  | refine ⟨Or.inl ⟨by omega, by omega⟩, ?_⟩
  | refine Or.inl ⟨_, rfl, ?_⟩
  | fail))
variable {P : Program} {w : World} {K : PySem.W.Frag} {mg : Str → Option Value} {base : Heap}
def spLaw (K : PySem.W.Frag) : Sp := fun vs H Q _ => ∃ (a : Addr) (ns : List Int), vs = [.ref a] ∧ SqL K H a (ns.map V.int) ∧ ns.length ≤ 63 ∧ ∀ H', Q (.bl true) H'
theorem withModes_mem {m : Str} (hm : m ∈ dirs) : ∀ {ps : List Int} {l : List (Int × Str)}, l ∈ withModes ps → ∀ p, l ++ [(p, m)] ∈ withModes (ps ++ [p])
  | [], l, h, p => by
    simp [withModes] at h
    subst h
    simp [withModes]
    exact hm
  | q :: ps, l, h, p => by
    rw [withModes] at h
    obtain ⟨r, hr, h⟩ := List.mem_flatMap.mp h
    obtain ⟨d, hd, rfl⟩ := List.mem_map.mp h
    rw [List.cons_append, List.cons_append, withModes]
    exact List.mem_flatMap.mpr ⟨_, withModes_mem hm hr p, List.mem_map.mpr ⟨d, hd, rfl⟩⟩
theorem perm_check : ∀ n ∈ [0, 1, 2, 3], (permsI n).all (fun ps => decide (ps.Perm (rgI n))) = true := by decide +kernel
theorem st_facts {n : Nat} {st : List (Int × Str)} (hn : n ≤ 3) (h : st ∈ stN n) : st.length = n ∧ (∀ s ∈ st, s ∈ allSteps) ∧ (st.map (·.1)).Perm (rgI n) ∧ st.all (fun s => isDir s.2) = true := by
  have c1 := List.all_eq_true.mp (st_check n (mem4 hn)) _ h
  simp only [stCheck, Bool.and_eq_true, decide_eq_true_eq, List.all_eq_true] at c1
  exact ⟨c1.1.1, fun s hs => (c1.1.2 s hs).1, c1.2, List.all_eq_true.mpr fun s hs => (c1.1.2 s hs).2⟩
theorem note_all {n : Nat} {l : List Int} (hnd : l.Nodup) (hr : ∀ x ∈ l, 0 ≤ x ∧ x < (n : Int)) : (List.range l.length).all (noteOk n l) = true := by
  refine List.all_eq_true.mpr fun k hk => ?_
  have hk := List.mem_range.mp hk
  have e : l.getD k 0 = l[k] := by rw [List.getD_eq_getElem?_getD, List.getElem?_eq_getElem hk]; rfl
  have h1 := hr l[k] (List.getElem_mem _)
  have h2 : (l.take k).contains l[k] = false := by
    cases c : (l.take k).contains l[k] with
    | false => rfl
    | true =>
      exfalso
      obtain ⟨i, hi, e2⟩ := List.mem_take_iff_getElem.mp (List.contains_iff_mem.mp c)
      have := (List.pairwise_iff_getElem.mp (List.nodup_iff_pairwise_ne.mp hnd)) i k (by omega) hk (by omega)
      exact this e2
  unfold noteOk
  rw [e, h2, decide_eq_false (by omega), decide_eq_false (by omega)]
  rfl
theorem isWay_ok {d : Str} {n : Nat} {st : List (Int × Str)} {l : List Int} (hd : d ∈ dirs) (hn : n ≤ 3) (h : st ∈ stN n) (hnd : l.Nodup) (hr : ∀ x ∈ l, 0 ≤ x ∧ x < (n : Int)) : isWayB ⟨d, st, l⟩ = true := by
  obtain ⟨h1, h2, h3, h4⟩ := st_facts hn h
  have h5 := note_all hnd hr
  unfold isWayB
  rw [show isDir (Way.mk d st l).whole = true from (dir_sep d hd).2.2.2, show (Way.mk d st l).steps = st from rfl, show (Way.mk d st l).noted = l from rfl, h4, h1, decide_eq_true h3, decide_eq_true hn, h5]
  rfl
theorem lay_way {y : Way} (h1 : PyData.strOk y.whole = true) (h2 : ∀ s ∈ y.steps, s.2 ∈ dirs) : Lay 3 y.d := by
  refine Lay.tup fun d hd => ?_
  simp only [List.mem_cons, List.mem_nil_iff, or_false] at hd
  rcases hd with rfl | rfl | rfl
  · exact Lay.str _ h1
  · refine Lay.tup fun e he => ?_
    obtain ⟨s, hs, rfl⟩ := List.mem_map.mp he
    refine Lay.tup fun e he => ?_
    simp only [List.mem_cons, List.mem_nil_iff, or_false] at he
    rcases he with rfl | rfl
    · exact Lay.int _ _
    · exact Lay.str _ (dirs_ok _ (h2 s hs))
  · exact (Lay.tup (Lay.ints 0 _)).mono (by decide)
abbrev s_law : Stmt := top 20
abbrev N_law : List Str := ["_law_script", "_law_tape_here", "_law_head", "_law_many", "_law_steps", "_law_marked", "_law_due", "_law_passed", "_law_made", "_law_row", "_law_k"]
abbrev P_law : List Str := ["_law_script"]
theorem sc_law : FnScope N_law P_law (defScope s_law) := ⟨rfl, rfl, rfl, by decide +kernel, rfl, by decide +kernel, by decide +kernel⟩
theorem ok_law {f : Addr} {fd : FuncData} {e0 : Addr} (F : Fun K "law" "law" s_law f fd) (T : Txt K mg) (he0 : ∀ H, SqT K H e0 []) (G__law_tape : Fx P w K mg base CX0 "_law_tape" 2 P__law_tape (spTape K)) (G__law_take : Fx P w K mg base CX0 "_law_take" 1 P__law_take spTake)
    (G__law_shuffled : Fx P w K mg base CX0 "_law_shuffled" 2 P__law_shuffled (spShuf K)) (G_way : FxB P w K mg base (L2.CX P w) "way" 3 P_way (spWay K mg) (wayB K e0)) (G__law_refused : Fx P w K mg base CX0 "_law_refused" 4 P__law_refused (spRef K)) (G__law_faults : Fx P w K mg base CX0 "_law_faults" 2 P__law_faults (spFaults K)) : FnOk P w K mg base CX0 5 f fd P_law (spLaw K) := by
  refine F.ok sc_law (fun vs H Q E h => ?_) (fun cdv A outer s H vs Q E hr h => ?_)
  · obtain ⟨a, ns, rfl, _⟩ := h
    rfl
  · obtain ⟨a, ns, rfl, hS, _, k⟩ := h
    refine ⟨_, (pss_cons (ps_set (i := 1) sc_law.nd rfl (Or.inr rfl) (fcall G__law_tape (hr.mono (by decide)) (by rfl) (pa_cons (pv 0) (pa_cons pe_int (pa_cons pe_int pa_nil)))))
      (pss_cons (ps_set (i := 2) sc_law.nd rfl (Or.inl rfl) (pe_ix (ix_listK K) (pe_lst (pa_cons pe_str (pa_cons pe_str pa_nil))) (fcall G__law_take (hr.mono (by decide)) (by rfl) (pa_cons (pv 1) (pa_cons pe_int pa_nil))) (fun _ _ => rfl)))
      (pss_cons (ps_set (i := 3) sc_law.nd rfl (Or.inl rfl) (fcall G__law_take (hr.mono (by decide)) (by rfl) (pa_cons (pv 1) (pa_cons pe_int pa_nil))))
      (pss_cons (ps_setLc (i := 4) (own := [("_law_k", 10)]) (g := (gName 10)) (tt := tYes) rfl sc_law.nd rfl rfl (sw_true rfl rfl rfl (by decide +kernel)) (pi_listK K (fcall G__law_shuffled (hr.mono (by decide)) (by rfl) (pa_cons (pv 1) (pa_cons (pv 3) pa_nil)))) (blkOk_by (own := [("_law_k", 10)]) (N := N_law) (sc := defScope s_law) (by decide +kernel)) (fun _ _ _ _ _ => (pg_name (i := 10) sc_law.nd rfl (Or.inl rfl))) (fun _ _ _ _ _ => pts_nil) (fun _ _ _ _ _ => (pe_tup (pa_cons (pv 10) (pa_cons (pe_ix (ix_listK K) (pe_lst (pa_cons pe_str (pa_cons pe_str pa_nil))) (fcall G__law_take (hr.mono (by decide)) (by rfl) (pa_cons (pv 1) (pa_cons pe_int pa_nil))) (fun _ _ => rfl)) pa_nil)))))
      (pss_cons (ps_set (i := 5) sc_law.nd rfl (Or.inr rfl) (pe_lc (own := [("_law_k", 10)]) (g := (gName 10))  rfl sc_law.nd (pi_listK K (fcall G__law_shuffled (hr.mono (by decide)) (by rfl) (pa_cons (pv 1) (pa_cons (pv 3) pa_nil)))) (blkOk_by (own := [("_law_k", 10)]) (N := N_law) (sc := defScope s_law) (by decide +kernel)) (fun _ _ _ _ _ => (pg_name (i := 10) sc_law.nd rfl (Or.inl rfl))) (fun _ _ _ _ _ => (pts_one (pt_cmpR op_eq (fcall G__law_take (hr.mono (by decide)) (by rfl) (pa_cons (pv 1) (pa_cons pe_int pa_nil))) pe_int (nomark _)))) (fun _ _ _ _ _ => (pv 10))))
      (pss_cons (ps_set (i := 6) sc_law.nd rfl (Or.inl rfl) (pe_tup (pa_cons (pv 2) (pa_cons (pe_callTy (call_tuple_ofK K) (by rfl) T.b_tuple (by decide +kernel) (pa_cons (pv 4) pa_nil)) (pa_cons (pe_callTy (call_tuple_ofK K) (by rfl) T.b_tuple (by decide +kernel) (pa_cons (pe_lc (own := [("_law_k", 10)]) (g := (gName 10))  rfl sc_law.nd (pi_range1 (by rfl) T.b_range (pa_cons (pv 3) pa_nil)) (blkOk_by (own := [("_law_k", 10)]) (N := N_law) (sc := defScope s_law) (by decide +kernel)) (fun _ _ _ _ _ => (pg_name (i := 10) sc_law.nd rfl (Or.inl rfl))) (fun _ _ _ _ _ => (pts_one (pt_cmpR (op_in_seqK K) (pv 10) (pv 5) (by rfl)))) (fun _ _ _ _ _ => (pv 10))) pa_nil)) pa_nil)))))
      (pss_cons (ps_set (i := 7) sc_law.nd rfl (Or.inl rfl) (pe_lst (pa_cons (pe_callTy (call_list_ofK K) (by rfl) T.b_list (by decide +kernel) (pa_cons (pv 4) pa_nil)) (pa_cons (pe_callTy (call_list_ofK K) (by rfl) T.b_list (by decide +kernel) (pa_cons (pv 5) pa_nil)) pa_nil))))
      (pss_cons (ps_set (i := 8) sc_law.nd rfl (Or.inl rfl) (kcall G_way (fun fd b => ⟨_, b.1⟩) (hr.mono (by decide)) (by rfl) passL (pk_cons (pv 2) (pk_cons (pe_ix (ix_listK K) (pv 7) pe_int (fun _ _ => rfl)) (pk_cons (pe_ix (ix_listK K) (pv 7) pe_int (fun _ _ => rfl)) pk_nil)))))
      (pss_cons (ps_if (PW.pt (pw_or (pt_not (pt_val (pe_callB (call_isi1K K) (by rfl) T.b_isinstance (by decide +kernel) (pa_cons (pv 8) (pa_cons (pe_bltn (v := .ty "tuple") (by rfl) T.b_tuple (by decide +kernel) rfl) pa_nil))))) (pw_or (pt_cmpR (op_neDK K hr.units) (pv 8) (pv 6) (nomark _)) (pw_or1 (pt_cmpR (op_neDK K hr.units) (pv 7) (pe_lst (pa_cons (pv 4) (pa_cons (pv 5) pa_nil))) (nomark _)))))) (pss_one (ps_ret pe_bl)) pss_nil)
      (pss_cons (ps_if (pt_cmpR (op_neDK K hr.units) (kcall G_way (fun fd b => ⟨_, b.1⟩) (hr.mono (by decide)) (by rfl) passL (pk_cons (pv 2) (pk_cons (pe_callTy (call_tuple_ofK K) (by rfl) T.b_tuple (by decide +kernel) (pa_cons (pv 4) pa_nil)) (pk_cons (pe_callTy (call_tuple_ofK K) (by rfl) T.b_tuple (by decide +kernel) (pa_cons (pv 5) pa_nil)) pk_nil)))) (pv 6) (nomark _)) (pss_one (ps_ret pe_bl)) pss_nil)
      (pss_cons (ps_if (pt_cmpR (op_neDK K hr.units) (kcall G_way (fun fd b => b.2) (hr.mono (by decide)) (by rfl) passL (pk_cons (pv 2) (pk_cons (pe_callTy (call_list_ofK K) (by rfl) T.b_list (by decide +kernel) (pa_cons (pv 4) pa_nil)) pk_nil))) (pe_tup (pa_cons (pv 2) (pa_cons (pe_callTy (call_tuple_ofK K) (by rfl) T.b_tuple (by decide +kernel) (pa_cons (pv 4) pa_nil)) (pa_cons (pe_tup pa_nil) pa_nil)))) (nomark _)) (pss_one (ps_ret pe_bl)) pss_nil)
      (pss_cons (ps_for PassesOwn.never rfl (pi_listK K (fcall G__law_faults (hr.mono (by decide)) (by rfl) (pa_cons (pv 1) (pa_cons (pv 2) (pa_cons (pv 4) (pa_cons (pv 5) pa_nil)))))) (pg_name (i := 9) sc_law.nd rfl (Or.inl rfl)) (pss_one (ps_if (pt_not (pt_val (fcall G__law_refused (hr.mono (by decide)) (by rfl) (pa_cons (pe_ix (ix_tupK K) (pv 9) pe_int (fun _ _ => rfl)) (pa_cons (pe_ix (ix_tupK K) (pv 9) pe_int (fun _ _ => rfl)) (pa_cons (pe_ix (ix_tupK K) (pv 9) pe_int (fun _ _ => rfl)) pa_nil)))))) (pss_one (ps_ret pe_bl)) pss_nil)))
      (pss_one (ps_ret pe_bl)))))))))))))), ?_⟩
    refine ⟨_, rfl, a, 0, 40, ns, rfl, hS, by decide, by decide, by decide, fun t H1 ht sm1 tp1 => ?_⟩
    refine ⟨(by show 2 ≤ sizeLine; decide), fun l0 h0 => ?_⟩
    have d0 := Dr.new (o := .lst [.str "told", .str "found"]) tp1 h0
    refine ⟨_, rfl, t, 2, rfl, d0.tape, by decide, fun r0 H2 r00 r01 d2 => ?_⟩
    have hd : ∃ d, atI [V.str "told", V.str "found"] r0 = some (.str d) ∧ d ∈ dirs := by
      have : r0 = 0 ∨ r0 = 1 := by omega
      rcases this with rfl | rfl
      · exact ⟨_, rfl, by simp [dirs]⟩
      · exact ⟨_, rfl, by simp [dirs]⟩
    obtain ⟨d, hda, hdd⟩ := hd
    refine ⟨l0, _, r0, _, rfl, rfl, SqL.of (d2.keep _ _ upd_same (tp1.ne h0).symm), hda, ?_⟩
    refine ⟨_, rfl, t, 4, rfl, d2.tape, by decide, fun nz H3 n0 n1 d3 => ?_⟩
    obtain ⟨n, rfl⟩ : ∃ n : Nat, nz = (n : Int) := ⟨nz.toNat, by omega⟩
    have hn3 : n ≤ 3 := by omega
    refine ⟨_, rfl, _, rfl, t, n, rfl, d3.tape, hn3, fun l1 ps H4 h1 d4 e1 hps hpl => ⟨l1, rfl, ⟨_, SqL.of e1⟩, fun D hD => ?_⟩⟩
    have nD : t ≠ D := d4.tape.ne hD
    have nl1 : l1 ≠ t := fun z => by subst z; obtain ⟨q, hq⟩ := d3.tape; rw [hq] at h1; cases h1
    have nlD : l1 ≠ D := ne_of_none e1 hD
    refine lc_list (xs := ps.map V.int) (fun i H5 => ∃ (st : List (Int × Str)) (xs : List V), H5 D = some (.lst xs) ∧ DpAll K H5 xs (st.map stepD) ∧ st ∈ withModes (ps.take i) ∧ st.length = i ∧ H5 l1 = some (.lst (ps.map V.int)) ∧ Dr t H4 H5) ?_ ?_ ?_ ?_
    · exact ⟨[], [], upd_same, .nil, by simp [withModes], rfl, by rw [upd_ne nlD]; exact e1, Dr.new d4.tape hD⟩
    · rintro i H5 _ ⟨_, _, _, _, _, _, e, _⟩; exact SqL.of e
    · rintro i x H5 hx ⟨st, xs, eD, hxs, hst, hsl, el1, d5⟩
      rw [List.getElem?_map] at hx
      obtain ⟨p, hp, rfl⟩ := Option.map_eq_some_iff.mp hx
      have hi := (List.getElem?_eq_some_iff.mp hp).1
      refine ⟨rfl, yes_ ⟨_, rfl, (by show 2 ≤ sizeLine; decide), fun l2 h2 => ?_⟩⟩
      have d6 := d5.trans (Dr.new (o := .lst [.str "told", .str "found"]) d5.tape h2)
      refine ⟨_, rfl, t, 2, rfl, d6.tape, by decide, fun r H6 r0 r1 d7 => ?_⟩
      have hm : ∃ m, atI [V.str "told", V.str "found"] r = some (.str m) ∧ m ∈ dirs := by
        have : r = 0 ∨ r = 1 := by omega
        rcases this with rfl | rfl
        · exact ⟨_, rfl, by simp [dirs]⟩
        · exact ⟨_, rfl, by simp [dirs]⟩
      obtain ⟨m, hma, hmd⟩ := hm
      have eD' : H6 D = some (.lst xs) := d7.keep _ _ (by rw [upd_ne (ne_of_none eD h2)]; exact eD) nD.symm
      have el1' : H6 l1 = some (.lst (ps.map V.int)) := d7.keep _ _ (by rw [upd_ne (ne_of_none el1 h2)]; exact el1) nl1
      refine ⟨l2, _, r, _, rfl, rfl, SqL.of (d7.keep _ _ upd_same (d5.tape.ne h2).symm), hma, ?_⟩
      refine ⟨(by show 2 ≤ sizeLine; decide), fun q hq => ?_⟩
      have nDq : D ≠ q := ne_of_none eD' hq
      have eDq : (upd H6 q (.tup [.int p, .str m])) D = some (.lst xs) := by rw [upd_ne nDq]; exact eD'
      refine ⟨xs, eDq, small1000 (by rw [hxs.len, List.length_map]; omega), st ++ [(p, m)], xs ++ [.ref q], upd_same, ?_, ?_, by simp [hsl], ?_, ?_⟩
      · rw [List.map_append]
        have tu : Tups H5 (upd (upd H6 q (.tup [.int p, .str m])) D (.lst (xs ++ [.ref q]))) := (tups_new h2).trans ((d7.tups d6.tape).trans ((tups_new hq).trans (tups_upd eDq)))
        refine DpAll.snoc (DpAll.tups tu _ (nl_steps _) hxs) ?_
        exact .tup (SqT.of (by rw [upd_ne nDq.symm]; exact upd_same)) (.cons (.int _) (.cons (.str _) .nil))
      · rw [take_succ_get hp]; exact withModes_mem hmd hst p
      · rw [upd_ne nlD, upd_ne (ne_of_none el1' hq)]; exact el1'
      · have d8 := d6.trans d7
        exact Dr.upd (d8.trans (Dr.new d8.tape hq)) nD hD
    · rintro H5 ⟨st, xs, eD, hxs, hst, hsl, el1, d5⟩
      rw [List.length_map] at hst hsl
      rw [List.take_length] at hst
      have hsl : st.length = n := by rw [hsl, hpl]
      have hst : st ∈ stN n := List.mem_flatMap.mpr ⟨ps, hps, hst⟩
      obtain ⟨hslx, hsa, hsp, hsd⟩ := st_facts hn3 hst
      have hdir : ∀ s ∈ st, s.2 ∈ dirs := fun s hs => (steps_lt s (hsa s hs)).2.2
      have dA := d5
      refine ⟨_, rfl, _, rfl, t, n, rfl, d5.tape, hn3, fun l3 ps2 H6 h3 d6 e3 hps2 hpl2 => ⟨l3, rfl, ⟨_, SqL.of e3⟩, fun M hM => ?_⟩⟩
      have eD6 := d6.keep _ _ eD nD.symm
      have hx6 := DpAll.tups (d6.tups d5.tape) _ (nl_steps _) hxs
      have nM : t ≠ M := d6.tape.ne hM
      have nDM : D ≠ M := ne_of_none eD6 hM
      have nl3M : l3 ≠ M := ne_of_none e3 hM
      have nl3t : l3 ≠ t := fun z => by subst z; obtain ⟨q, hq⟩ := d5.tape; rw [hq] at h3; cases h3
      refine lc_list (xs := ps2.map V.int) (fun i H7 => ∃ (ms : List Int), H7 M = some (.lst (ms.map V.int)) ∧ ms.Sublist (ps2.take i) ∧ H7 l3 = some (.lst (ps2.map V.int)) ∧ H7 D = some (.lst xs) ∧ DpAll K H7 xs (st.map stepD) ∧ Dr t H6 H7) ?_ ?_ ?_ ?_
      · exact ⟨[], upd_same, by simp, by rw [upd_ne nl3M]; exact e3, by rw [upd_ne nDM]; exact eD6, DpAll.tups (tups_new hM) _ (nl_steps _) hx6, Dr.new d6.tape hM⟩
      · rintro i H7 _ ⟨_, _, _, e, _⟩; exact SqL.of e
      · rintro i x H7 hx ⟨ms, eM, hms, el3, eD7, hx7, d7⟩
        rw [List.getElem?_map] at hx
        obtain ⟨p, hp, rfl⟩ := Option.map_eq_some_iff.mp hx
        have hi := (List.getElem?_eq_some_iff.mp hp).1
        have hml := hms.length_le
        rw [List.length_take] at hml
        refine ⟨rfl, _, rfl, t, 2, rfl, d7.tape, by decide, fun r H8 r0 r1 d8 => ⟨rfl, _, rfl, ?_⟩⟩
        have eM' := d8.keep _ _ eM nM.symm
        have el3' := d8.keep _ _ el3 nl3t
        have eD' := d8.keep _ _ eD7 nD.symm
        have hx' := DpAll.tups (d8.tups d7.tape) _ (nl_steps _) hx7
        rw [take_succ_get hp]
        refine ite2 (fun c => ?_) (fun c => ?_)
        · refine ⟨_, rfl, _, eM', small1000 (by rw [List.length_map]; omega), ms ++ [p], by rw [upd_same]; simp, List.Sublist.append hms (List.Sublist.refl _), by rw [upd_ne nl3M]; exact el3', by rw [upd_ne nDM]; exact eD', DpAll.tups (tups_upd eM') _ (nl_steps _) hx', Dr.upd (d7.trans d8) nM hM⟩
        · exact ⟨ms, eM', List.Sublist.trans hms (List.sublist_append_left _ _), el3', eD', hx', d7.trans d8⟩
      · rintro H7 ⟨ms, eM, hms, el3, eD7, hx7, d7⟩
        rw [List.length_map, List.take_length] at hms
        have pc := of_decide_eq_true (List.all_eq_true.mp (perm_check n (mem4 hn3)) _ hps2)
        have hmnd : ms.Nodup := List.Sublist.nodup hms (pc.nodup_iff.mpr (nodup_rgI n))
        have hmr : ∀ z ∈ ms, 0 ≤ z ∧ z < (n : Int) := fun z hz => mem_rgI.mp (pc.mem_iff.mp (hms.subset hz))
        have hml : ms.length ≤ 3 := by have := hms.length_le; omega
        have tp7 := d7.tape
        clear d7 el3 eD6 hx6 eD hxs
        have hxd : isDir d = true := (dir_sep d hdd).2.2.2
        -- the due tuple
        refine ⟨_, rfl, _, rfl, D, _, rfl, .inl ⟨SqL.of eD7, fun p1 hp1 => ?_⟩⟩
        generalize zz1 : upd _ p1 _ = Ha
        obtain ⟨s1, g1⟩ := gen_new zz1 hp1
        refine ⟨_, rfl, _, rfl, by omega, by omega, fun D2 hD2 => ?_⟩
        refine lc_accR (fun i => ((rgI i).filter fun z => ms.contains z).map V.int) hD2 (by simp [rgI]) (fun i hi => small1000 ?_) ?_ ?_
        · rw [List.length_map]
          refine Nat.le_trans (List.length_filter_le _ _) ?_
          simp [rgI]; omega
        · intro i Hy R1 R2 hi sm g1' g2'
          have er : rgI (i + 1) = rgI i ++ [(i : Int)] := by simp [rgI, List.range_succ]
          rw [er, List.filter_append, List.map_append] at g1' g2'
          refine ⟨rfl, _, rfl, _, rfl, M, _, rfl, .inl (SqL.of (sm _ _ (s1 _ _ eM))), rfl, flat_ints ms, _, rfl, ?_⟩
          show if ((if false = true then _ else inV _ _) : Bool) = true then _ else _
          rw [if_neg Bool.false_ne_true, inV_ints, Int.zero_add]
          cases cz : ms.contains (i : Int) with
          | true =>
            refine iteT ⟨_, rfl, g2' _ ?_⟩
            rw [List.filter_cons, if_pos cz]; rfl
          | false =>
            refine iteF (g1' ?_)
            rw [List.filter_cons, if_neg (by rw [cz]; exact Bool.false_ne_true)]; simp
        generalize zz2 : upd _ D2 _ = Hb
        obtain ⟨s2, g2⟩ := gen_new zz2 hD2
        have g2 : Hb D2 = some (.lst (((rgI n).filter fun z => ms.contains z).map V.int)) := g2
        refine ⟨D2, _, rfl, .inl ⟨SqL.of g2, fun p2 hp2 => ⟨(by show 3 ≤ sizeLine; decide), fun p3 hp3 => ?_⟩⟩⟩
        generalize zz3 : upd (upd _ p2 _) p3 _ = Hd
        have g3 : Hd p3 = some (.tup [.str d, .ref p1, .ref p2]) := by rw [← zz3]; exact upd_same
        have s23 := same_new (o := .tup (((rgI n).filter fun z => ms.contains z).map V.int)) hp2
        have s3 : Same Hb Hd := by rw [← zz3]; exact Same.trans s23 (same_new hp3)
        have g2p : Hd p2 = some (.tup (((rgI n).filter fun z => ms.contains z).map V.int)) := by rw [← zz3]; exact same_new hp3 _ _ upd_same
        generalize hnt : (rgI n).filter (fun z => ms.contains z) = nt at *
        have hntp : nt.Perm ms := by
          rw [← hnt]
          refine (List.perm_ext_iff_of_nodup (List.Sublist.nodup List.filter_sublist (nodup_rgI n)) hmnd).mpr fun z => ?_
          rw [List.mem_filter, List.contains_iff_mem]
          exact ⟨fun h => h.2, fun h => ⟨mem_rgI.mpr (hmr z h), h⟩⟩
        have hnts : nt.Pairwise (· ≤ ·) := by rw [← hnt]; exact List.Pairwise.filter _ (rgI_sorted n)
        have hwk : ∀ l : List Int, l.Perm ms → isWayB ⟨d, st, l⟩ = true := fun l hl => isWay_ok hdd hn3 hst (hl.nodup_iff.mpr hmnd) fun z hz => hmr z (hl.mem_iff.mp hz)
        have sAd := Same.trans s1 (Same.trans s2 s3)
        have hdue : Dp K Hd (.ref p3) (Way.d ⟨d, st, nt⟩) := .tup (SqT.of g3) (.cons (.str _) (.cons (.tup (SqT.of (s3 _ _ (s2 _ _ g1))) (DpAll.same sAd _ hx7)) (.cons (.tup (SqT.of g2p) (DpAll.ints _)) .nil)))
        have eDd := sAd _ _ eD7
        have eMd := sAd _ _ eM
        have hxd' := DpAll.same sAd _ hx7
        obtain ⟨tn, etn⟩ := tp7
        have etd := sAd _ _ etn
        have layD : Lay 3 (Way.d ⟨d, st, nt⟩) := lay_way (dirs_ok d hdd) hdir
        -- the lists that are passed
        refine ⟨_, rfl, D, _, rfl, .inl (SqL.of eDd), fun q1 hq1 => ?_⟩
        generalize zz4 : upd _ q1 _ = He
        obtain ⟨s4, g4⟩ := gen_new zz4 hq1
        refine ⟨_, rfl, M, _, rfl, .inl (SqL.of (s4 _ _ eMd)), fun q2 hq2 => ?_⟩
        generalize zz5 : upd _ q2 _ = Hf
        obtain ⟨s5, g5⟩ := gen_new zz5 hq2
        refine ⟨(by show 2 ≤ sizeLine; decide), fun q3 hq3 => ?_⟩
        generalize zz6 : upd _ q3 _ = Hg
        obtain ⟨s6, g6⟩ := gen_new zz6 hq3
        have s46 := Same.trans s4 (Same.trans s5 s6)
        have e4 := Same.trans s5 s6 _ _ g4
        have e5 := s6 _ _ g5
        have hx6' := DpAll.same s46 _ hxd'
        refine ⟨_, rfl, _, rfl, q3, _, 0, _, rfl, rfl, SqL.of g6, at_of (j := 0) rfl rfl, _, rfl, q3, _, 1, _, rfl, rfl, SqL.of g6, at_of (j := 1) rfl rfl, rfl, rfl, d, q1, q2, xs, st, ms, rfl, .inl (SqL.of e4), hx6', .inl (SqL.of e5), by omega, by omega, fun ns' hp hs => ⟨fun _ p4 Hh s7 hp4 => ?_, fun z => by rw [hwk ns' hp] at z; cases z⟩⟩
        have ens : ns' = nt := PySem.W.ksm_same (hp.trans hntp.symm) hs hnts
        subst ens
        have s47 := Same.trans s46 s7
        refine ⟨_, rfl, _, _, _, _, _, rfl, .ty _, Kn.Dp.ty hp4, isi kit_tup_tup, _, rfl, iteF ?_⟩
        refine ⟨_, rfl, _, rfl, _, _, hp4, Dp.same s47 _ hdue, layD.shaped, layD.shaped, _, rfl, ?_⟩
        rw [eqv_refl _ (nl_way _)]
        refine iteF ?_
        refine ⟨_, rfl, _, rfl, _, rfl, (by show 2 ≤ sizeLine; decide), fun q4 hq4 => ?_⟩
        generalize zz8 : upd _ q4 _ = Hi
        obtain ⟨s8, g8⟩ := gen_new zz8 hq4
        have s68 := Same.trans s7 s8
        have s48 := Same.trans s46 s68
        have hxi := DpAll.same s48 _ hxd'
        have layP : Lay 3 (.list [.list (st.map stepD), .list (ms.map .int)]) := Lay.lst fun e he => by
          simp only [List.mem_cons, List.mem_nil_iff, or_false] at he
          rcases he with rfl | rfl
          · refine Lay.lst fun e he => ?_
            obtain ⟨s, hs, rfl⟩ := List.mem_map.mp he
            refine Lay.tup fun e he => ?_
            simp only [List.mem_cons, List.mem_nil_iff, or_false] at he
            rcases he with rfl | rfl
            · exact Lay.int _ _
            · exact Lay.str _ (dirs_ok _ (hdir s hs))
          · exact (Lay.lst (Lay.ints 0 _)).mono (by decide)
        refine ⟨.list [.list (st.map stepD), .list (ms.map .int)], .list [.list (st.map stepD), .list (ms.map .int)], .lst (SqL.of (s68 _ _ g6)) (.cons (.lst (SqL.of (s68 _ _ e4)) (DpAll.same s68 _ hx6')) (.cons (.lst (SqL.of (s68 _ _ e5)) (DpAll.ints _)) .nil)),
          .lst (SqL.of g8) (.cons (.lst (SqL.of (s48 _ _ eDd)) hxi) (.cons (.lst (SqL.of (s48 _ _ eMd)) (DpAll.ints _)) .nil)), layP.shaped, layP.shaped, _, rfl, ?_⟩
        rw [SeqAt.eqv_refl _ layP.can]
        refine iteF ?_
        -- as tuples
        refine ⟨_, rfl, _, rfl, D, _, rfl, .inl ⟨SqL.of (s48 _ _ eDd), fun r1 hr1 => ?_⟩⟩
        generalize zz9 : upd _ r1 _ = Hj
        obtain ⟨s9, g9⟩ := gen_new zz9 hr1
        refine ⟨_, rfl, M, _, rfl, .inl ⟨SqL.of (s9 _ _ (s48 _ _ eMd)), fun r2 hr2 => ?_⟩⟩
        generalize zz10 : upd _ r2 _ = Hk
        obtain ⟨s10, g10⟩ := gen_new zz10 hr2
        have s4a := Same.trans s48 (Same.trans s9 s10)
        refine ⟨rfl, rfl, d, r1, r2, xs, st, ms, rfl, .inr (SqT.of (s10 _ _ g9)), DpAll.same s4a _ hxd', .inr (SqT.of g10), by omega, by omega, fun ns2 hp2' hs2' => ⟨fun _ p5 Hl s11 hp5 => ?_, fun z => by rw [hwk ns2 hp2'] at z; cases z⟩⟩
        have ens2 : ns2 = ns' := PySem.W.ksm_same (hp2'.trans hntp.symm) hs2' hnts
        subst ens2
        have s4b := Same.trans s4a s11
        refine ⟨_, rfl, _, _, hp5, Dp.same s4b _ hdue, layD.shaped, layD.shaped, _, rfl, ?_⟩
        rw [eqv_refl _ (nl_way _)]
        refine iteF ?_
        -- without noted places
        refine ⟨_, rfl, _, rfl, D, _, rfl, .inl (SqL.of (s4b _ _ eDd)), fun r3 hr3 => ?_⟩
        generalize zz12 : upd _ r3 _ = Hm
        obtain ⟨s12, g12⟩ := gen_new zz12 hr3
        have s4c := Same.trans s4b s12
        refine ⟨rfl, rfl, d, r3, e0, xs, st, [], rfl, .inl (SqL.of g12), DpAll.same s4c _ hxd', .inr (he0 _), by omega, by decide, fun ns3 hp3' hs3' => ?_⟩
        have ens3 : ns3 = [] := hp3'.eq_nil
        subst ens3
        refine ⟨fun _ p6 Hn s13 hp6 => ?_, fun z => by rw [isWay_ok hdd hn3 hst List.nodup_nil (by simp)] at z; cases z⟩
        have s4d := Same.trans s4c s13
        refine ⟨_, rfl, _, rfl, D, _, rfl, .inl ⟨SqL.of (s4d _ _ eDd), fun r4 hr4 => ?_⟩⟩
        generalize zz14 : upd _ r4 _ = Ho
        obtain ⟨s14, g14⟩ := gen_new zz14 hr4
        refine ⟨(by show 0 ≤ sizeLine; decide), fun r5 hr5 => ⟨(by show 3 ≤ sizeLine; decide), fun r6 hr6 => ?_⟩⟩
        generalize zz15 : upd (upd _ r5 _) r6 _ = Hp
        have g15 : Hp r6 = some (.tup [.str d, .ref r4, .ref r5]) := by rw [← zz15]; exact upd_same
        have g15e : Hp r5 = some (.tup []) := by rw [← zz15]; exact same_new hr6 _ _ upd_same
        have s15 : Same Ho Hp := by rw [← zz15]; exact Same.trans (same_new hr5) (same_new hr6)
        have s4e := Same.trans s4d (Same.trans s14 s15)
        have layE : Lay 3 (Way.d ⟨d, st, []⟩) := lay_way (dirs_ok d hdd) hdir
        refine ⟨_, Way.d ⟨d, st, []⟩, Dp.same (Same.trans s14 s15) _ hp6, .tup (SqT.of g15) (.cons (.str _) (.cons (.tup (SqT.of (s15 _ _ g14)) (DpAll.same s4e _ hxd')) (.cons (.tup (SqT.of g15e) .nil) .nil))), layE.shaped, layE.shaped, _, rfl, ?_⟩
        rw [eqv_refl _ (nl_way _)]
        refine iteF ?_
        -- the faults
        refine ⟨_, rfl, _, rfl, _, rfl, _, rfl, t, d, D, M, xs, st, ms, rfl, ⟨tn, s4e _ _ etd⟩, nD.symm, nM.symm, s4e _ _ eDd, DpAll.same s4e _ hxd', s4e _ _ eMd, by omega, hml, by rw [hslx]; exact hsp, hdir, hdd, fun R vs Hq kq eR hbad => ?_⟩
        refine ⟨R, rfl, ⟨_, SqL.of eR⟩, ?_⟩
        refine for_list (xs := vs) (fun i σ H9 => ∃ v9 v10, σ = [some (.ref a), some (.ref t), some (.str d), some (.int n), some (.ref D), some (.ref M), some (.ref p3), some (.ref q3), some (.ref p4), v9, v10] ∧ Same Hq H9) ⟨_, _, rfl, Same.refl _⟩ ?_ ?_ ?_
        · rintro i σ H9 _ ⟨_, _, _, sm⟩; exact SqL.of (sm _ _ eR)
        · rintro i x σ H9 hx ⟨v9, v10, rfl, sm⟩
          obtain ⟨pp, hw, ss, mm, ys, ll, nn, rfl, b1, b2, b3, b4, b5, b6, b7⟩ := BadRow.same sm (hbad x (List.mem_of_getElem? hx))
          refine ⟨_, rfl, pp, _, 0, _, rfl, rfl, b1, at_of (j := 0) rfl rfl, _, rfl, pp, _, 1, _, rfl, rfl, b1, at_of (j := 1) rfl rfl, _, rfl, pp, _, 2, _, rfl, rfl, b1, at_of (j := 2) rfl rfl, hw, ss, mm, ys, ll, nn, rfl, b2, b3, b4, b5, b6, b7, fun H10 s10' => ⟨_, rfl, iteF ?_⟩⟩
          exact ⟨_, _, rfl, Same.trans sm s10'⟩
        · rintro σ H9 ⟨v9, v10, rfl, sm⟩
          exact k _

end Kn

set_option Elab.async false
set_option maxRecDepth 100000
set_option linter.all false
namespace Kn
open PySem L2
theorem all_mk {l : PySem.W.OpenLaw} {w : World} {K : PySem.W.Frag} {h : Heap} {mg : Str → Option Value} {fa : Addr} (X : K.In h) (G : h.Ns mainGlobals mg) (hfa : mg "law" = some (.ref fa))
    {f1 f2 f3 f4 f5 f6 f7 f8 f9 f10 f11 f12 : Addr} {od1 an1 od2 an2 od3 an3 od4 an4 od5 an5 od6 an6 od7 an7 od8 an8 od9 an9 od10 an10 od11 an11 od12 an12 : Option Addr} {sl1 sl2 sl3 sl4 sl5 sl6 sl7 sl8 sl9 sl10 sl11 sl12 : Array (Option Value)} {oc1 kV1 dc1 pm1 cd1 ct1 oc2 kV2 dc2 pm2 cd2 ct2 oc3 kV3 dc3 pm3 cd3 ct3 oc4 kV4 dc4 pm4 cd4 ct4 oc5 kV5 dc5 pm5 cd5 ct5 oc6 kV6 dc6 pm6 cd6 ct6 oc7 kV7 dc7 pm7 cd7 ct7 oc8 kV8 dc8 pm8 cd8 ct8 oc9 kV9 dc9 pm9 cd9 ct9 oc10 kV10 dc10 pm10 cd10 ct10 oc11 kV11 dc11 pm11 cd11 ct11 oc12 kV12 dc12 pm12 cd12 ct12 : Value} {u_FOUND : Value} {u_MOST_PLACES : Value} {u_TOLD : Value} {C_BadWay : Addr} {C_NotesError : Addr} {C_BadKind : Addr} {D_way e0 : Addr} {odt : Option Addr} {nt : Nat} {slt : Array (Option Value)}
    (a1 : PySem.W.nsIn K mainGlobals "are_integers" = some (some (.ref f1))) (l1 : K.lookup f1 = some ⟨oc1, od1, .func (PySem.W.fnOf "are_integers" "are_integers" (defArgs s_are_integers) (defBody s_are_integers) (defScope s_are_integers) .none kV1 dc1 pm1 an1 cd1 ct1), sl1⟩) (c1 : PySem.W.codeIn K cd1 "are_integers" = true) (k1 : PySem.W.keepIn K (.ref f1) = true)
    (a2 : PySem.W.nsIn K mainGlobals "are_steps" = some (some (.ref f2))) (l2 : K.lookup f2 = some ⟨oc2, od2, .func (PySem.W.fnOf "are_steps" "are_steps" (defArgs s_are_steps) (defBody s_are_steps) (defScope s_are_steps) .none kV2 dc2 pm2 an2 cd2 ct2), sl2⟩) (c2 : PySem.W.codeIn K cd2 "are_steps" = true) (k2 : PySem.W.keepIn K (.ref f2) = true)
    (a3 : PySem.W.nsIn K mainGlobals "ascending" = some (some (.ref f3))) (l3 : K.lookup f3 = some ⟨oc3, od3, .func (PySem.W.fnOf "ascending" "ascending" (defArgs s_ascending) (defBody s_ascending) (defScope s_ascending) .none kV3 dc3 pm3 an3 cd3 ct3), sl3⟩) (c3 : PySem.W.codeIn K cd3 "ascending" = true) (k3 : PySem.W.keepIn K (.ref f3) = true)
    (a4 : PySem.W.nsIn K mainGlobals "is_way" = some (some (.ref f4))) (l4 : K.lookup f4 = some ⟨oc4, od4, .func (PySem.W.fnOf "is_way" "is_way" (defArgs s_is_way) (defBody s_is_way) (defScope s_is_way) .none kV4 dc4 pm4 an4 cd4 ct4), sl4⟩) (c4 : PySem.W.codeIn K cd4 "is_way" = true) (k4 : PySem.W.keepIn K (.ref f4) = true)
    (a5 : PySem.W.nsIn K mainGlobals "way" = some (some (.ref f5))) (l5 : K.lookup f5 = some ⟨oc5, od5, .func (PySem.W.fnOf "way" "way" (defArgs s_way) (defBody s_way) (defScope s_way) .none kV5 dc5 pm5 an5 cd5 ct5), sl5⟩) (c5 : PySem.W.codeIn K cd5 "way" = true) (k5 : PySem.W.keepIn K (.ref f5) = true)
    (a6 : PySem.W.nsIn K mainGlobals "_law_cell" = some (some (.ref f6))) (l6 : K.lookup f6 = some ⟨oc6, od6, .func (PySem.W.fnOf "_law_cell" "_law_cell" (defArgs s__law_cell) (defBody s__law_cell) (defScope s__law_cell) .none kV6 dc6 pm6 an6 cd6 ct6), sl6⟩) (c6 : PySem.W.codeIn K cd6 "_law_cell" = true) (k6 : PySem.W.keepIn K (.ref f6) = true)
    (a7 : PySem.W.nsIn K mainGlobals "_law_tape" = some (some (.ref f7))) (l7 : K.lookup f7 = some ⟨oc7, od7, .func (PySem.W.fnOf "_law_tape" "_law_tape" (defArgs s__law_tape) (defBody s__law_tape) (defScope s__law_tape) .none kV7 dc7 pm7 an7 cd7 ct7), sl7⟩) (c7 : PySem.W.codeIn K cd7 "_law_tape" = true) (k7 : PySem.W.keepIn K (.ref f7) = true)
    (a8 : PySem.W.nsIn K mainGlobals "_law_take" = some (some (.ref f8))) (l8 : K.lookup f8 = some ⟨oc8, od8, .func (PySem.W.fnOf "_law_take" "_law_take" (defArgs s__law_take) (defBody s__law_take) (defScope s__law_take) .none kV8 dc8 pm8 an8 cd8 ct8), sl8⟩) (c8 : PySem.W.codeIn K cd8 "_law_take" = true) (k8 : PySem.W.keepIn K (.ref f8) = true)
    (a9 : PySem.W.nsIn K mainGlobals "_law_shuffled" = some (some (.ref f9))) (l9 : K.lookup f9 = some ⟨oc9, od9, .func (PySem.W.fnOf "_law_shuffled" "_law_shuffled" (defArgs s__law_shuffled) (defBody s__law_shuffled) (defScope s__law_shuffled) .none kV9 dc9 pm9 an9 cd9 ct9), sl9⟩) (c9 : PySem.W.codeIn K cd9 "_law_shuffled" = true) (k9 : PySem.W.keepIn K (.ref f9) = true)
    (a10 : PySem.W.nsIn K mainGlobals "_law_refused" = some (some (.ref f10))) (l10 : K.lookup f10 = some ⟨oc10, od10, .func (PySem.W.fnOf "_law_refused" "_law_refused" (defArgs s__law_refused) (defBody s__law_refused) (defScope s__law_refused) .none kV10 dc10 pm10 an10 cd10 ct10), sl10⟩) (c10 : PySem.W.codeIn K cd10 "_law_refused" = true) (k10 : PySem.W.keepIn K (.ref f10) = true)
    (a11 : PySem.W.nsIn K mainGlobals "_law_faults" = some (some (.ref f11))) (l11 : K.lookup f11 = some ⟨oc11, od11, .func (PySem.W.fnOf "_law_faults" "_law_faults" (defArgs s__law_faults) (defBody s__law_faults) (defScope s__law_faults) .none kV11 dc11 pm11 an11 cd11 ct11), sl11⟩) (c11 : PySem.W.codeIn K cd11 "_law_faults" = true) (k11 : PySem.W.keepIn K (.ref f11) = true)
    (a12 : PySem.W.nsIn K mainGlobals "law" = some (some (.ref f12))) (l12 : K.lookup f12 = some ⟨oc12, od12, .func (PySem.W.fnOf "law" "law" (defArgs s_law) (defBody s_law) (defScope s_law) .none kV12 dc12 pm12 an12 cd12 ct12), sl12⟩) (c12 : PySem.W.codeIn K cd12 "law" = true) (k12 : PySem.W.keepIn K (.ref f12) = true)
    (q_FOUND : PySem.W.nsIn K mainGlobals "FOUND" = some (some u_FOUND)) (r_FOUND : RelV (.str "found") u_FOUND)
    (q_MOST_PLACES : PySem.W.nsIn K mainGlobals "MOST_PLACES" = some (some u_MOST_PLACES)) (r_MOST_PLACES : RelV (.int 3) u_MOST_PLACES)
    (q_TOLD : PySem.W.nsIn K mainGlobals "TOLD" = some (some u_TOLD)) (r_TOLD : RelV (.str "told") u_TOLD)
    (z_all : PySem.W.nsIn K mainGlobals "all" = some none)
    (z_bool : PySem.W.nsIn K mainGlobals "bool" = some none)
    (z_int : PySem.W.nsIn K mainGlobals "int" = some none)
    (z_isinstance : PySem.W.nsIn K mainGlobals "isinstance" = some none)
    (z_len : PySem.W.nsIn K mainGlobals "len" = some none)
    (z_list : PySem.W.nsIn K mainGlobals "list" = some none)
    (z_range : PySem.W.nsIn K mainGlobals "range" = some none)
    (z_sorted : PySem.W.nsIn K mainGlobals "sorted" = some none)
    (z_tuple : PySem.W.nsIn K mainGlobals "tuple" = some none)
    (xa_BadWay : PySem.W.nsIn K mainGlobals "BadWay" = some (some (.ref C_BadWay))) (xe_BadWay : PySem.W.excIn K C_BadWay [.type "ValueError", .type "Exception", .type "BaseException", .type "object"] "ValueError.__new__" = true) (xk_BadWay : PySem.W.keepIn K (.ref C_BadWay) = true) (xb_BadWay : PySem.W.subIn K (.ref C_BadWay) (.type "BaseException") = some true) (xt_BadWay : PySem.W.typeIn K (.ref C_BadWay) = some (.type "type"))
    (xa_NotesError : PySem.W.nsIn K mainGlobals "NotesError" = some (some (.ref C_NotesError)))
    (xa_BadKind : PySem.W.nsIn K mainGlobals "BadKind" = some (some (.ref C_BadKind)))
    (y0 : PySem.W.exmOne K (.ref C_BadWay) (.ref C_NotesError) = some true)
    (y1 : PySem.W.kitOne K (.ref C_BadWay) (.ref C_BadWay) = some true)
    (y2 : PySem.W.kitOne K (.ref C_BadWay) (.ref C_BadKind) = some false)
    (y3_0 : PySem.W.findIn K (.ref C_BadWay) "__getattribute__" = some (some (.builtin "BaseException.__getattribute__")))
    (y3_1 : PySem.W.findIn K (.ref C_BadWay) "__getattr__" = some none)
    (y3_2 : PySem.W.subIn K (.ref C_BadWay) (.type "BaseException") = some true)
    (y3_3 : PySem.W.hasDictIn K C_BadWay = true)
    (y3_4 : PySem.W.findIn K (.ref C_BadWay) "__class__" = some (some (.builtin "object.__class__")))
    (y3_5 : PySem.W.specialIn K (.builtin "object.__class__") "__get__" = some (some (.builtin "getset_descriptor.__get__")))
    (y3_6 : PySem.W.takesIn K (.builtin "object.__class__") = some true)
    (y3_7 : PySem.W.mroIn K C_BadWay (.type "object") = some true)
    (wd : kV5 = .ref D_way) (wn : PySem.W.nsIn K D_way "noted" = some (some (.ref e0))) (we : K.lookup e0 = some ⟨.type "tuple", odt, .seq #[] nt, slt⟩) :
    ∃ fd : FuncData, (∀ (s : Shared) (v : Value), BindsTo s fd ⟨[v], []⟩ [("_law_script", v)]) ∧ ∀ base : Heap, K.In base → base.Ns mainGlobals mg → FnOk l.prog w K mg base CX0 5 fa fd ["_law_script"] (spLaw K) := by
  have e := hfa.symm.trans (PySem.W.mg_of X G a12)
  cases e
  have FL := fun_mk (st := s_law) l12 c12 k12
  have F_are_integers : Fz K mg "are_integers" s_are_integers P_are_integers := ⟨f1, _, fun_mk (st := s_are_integers) l1 c1 k1, PySem.W.mg_of X G a1, (fun_mk (st := s_are_integers) l1 c1 k1).binds (ps := P_are_integers) fun _ _ _ _ _ _ us hl => match us, hl with | [_], _ => rfl⟩
  have F_are_steps : Fz K mg "are_steps" s_are_steps P_are_steps := ⟨f2, _, fun_mk (st := s_are_steps) l2 c2 k2, PySem.W.mg_of X G a2, (fun_mk (st := s_are_steps) l2 c2 k2).binds (ps := P_are_steps) fun _ _ _ _ _ _ us hl => match us, hl with | [_], _ => rfl⟩
  have F_ascending : Fz K mg "ascending" s_ascending P_ascending := ⟨f3, _, fun_mk (st := s_ascending) l3 c3 k3, PySem.W.mg_of X G a3, (fun_mk (st := s_ascending) l3 c3 k3).binds (ps := P_ascending) fun _ _ _ _ _ _ us hl => match us, hl with | [_], _ => rfl⟩
  have F_is_way : Fz K mg "is_way" s_is_way P_is_way := ⟨f4, _, fun_mk (st := s_is_way) l4 c4 k4, PySem.W.mg_of X G a4, (fun_mk (st := s_is_way) l4 c4 k4).binds (ps := P_is_way) fun _ _ _ _ _ _ us hl => match us, hl with | [_, _, _], _ => rfl⟩
  have F_way : True := trivial
  have F__law_cell : Fz K mg "_law_cell" s__law_cell P__law_cell := ⟨f6, _, fun_mk (st := s__law_cell) l6 c6 k6, PySem.W.mg_of X G a6, (fun_mk (st := s__law_cell) l6 c6 k6).binds (ps := P__law_cell) fun _ _ _ _ _ _ us hl => match us, hl with | [_, _], _ => rfl⟩
  have F__law_tape : Fz K mg "_law_tape" s__law_tape P__law_tape := ⟨f7, _, fun_mk (st := s__law_tape) l7 c7 k7, PySem.W.mg_of X G a7, (fun_mk (st := s__law_tape) l7 c7 k7).binds (ps := P__law_tape) fun _ _ _ _ _ _ us hl => match us, hl with | [_, _, _], _ => rfl⟩
  have F__law_take : Fz K mg "_law_take" s__law_take P__law_take := ⟨f8, _, fun_mk (st := s__law_take) l8 c8 k8, PySem.W.mg_of X G a8, (fun_mk (st := s__law_take) l8 c8 k8).binds (ps := P__law_take) fun _ _ _ _ _ _ us hl => match us, hl with | [_, _], _ => rfl⟩
  have F__law_shuffled : Fz K mg "_law_shuffled" s__law_shuffled P__law_shuffled := ⟨f9, _, fun_mk (st := s__law_shuffled) l9 c9 k9, PySem.W.mg_of X G a9, (fun_mk (st := s__law_shuffled) l9 c9 k9).binds (ps := P__law_shuffled) fun _ _ _ _ _ _ us hl => match us, hl with | [_, _], _ => rfl⟩
  have F__law_refused : Fz K mg "_law_refused" s__law_refused P__law_refused := ⟨f10, _, fun_mk (st := s__law_refused) l10 c10 k10, PySem.W.mg_of X G a10, (fun_mk (st := s__law_refused) l10 c10 k10).binds (ps := P__law_refused) fun _ _ _ _ _ _ us hl => match us, hl with | [_, _, _], _ => rfl⟩
  have F__law_faults : Fz K mg "_law_faults" s__law_faults P__law_faults := ⟨f11, _, fun_mk (st := s__law_faults) l11 c11 k11, PySem.W.mg_of X G a11, (fun_mk (st := s__law_faults) l11 c11 k11).binds (ps := P__law_faults) fun _ _ _ _ _ _ us hl => match us, hl with | [_, _, _, _], _ => rfl⟩
  have cn_FOUND : ∃ u, mg "FOUND" = some u ∧ RelV (.str "found") u := ⟨u_FOUND, PySem.W.mg_of X G q_FOUND, r_FOUND⟩
  have cn_MOST_PLACES : ∃ u, mg "MOST_PLACES" = some u ∧ RelV (.int 3) u := ⟨u_MOST_PLACES, PySem.W.mg_of X G q_MOST_PLACES, r_MOST_PLACES⟩
  have cn_TOLD : ∃ u, mg "TOLD" = some u ∧ RelV (.str "told") u := ⟨u_TOLD, PySem.W.mg_of X G q_TOLD, r_TOLD⟩
  have bn_all : mg "all" = none := PySem.W.mg_none_of X G z_all
  have bn_bool : mg "bool" = none := PySem.W.mg_none_of X G z_bool
  have bn_int : mg "int" = none := PySem.W.mg_none_of X G z_int
  have bn_isinstance : mg "isinstance" = none := PySem.W.mg_none_of X G z_isinstance
  have bn_len : mg "len" = none := PySem.W.mg_none_of X G z_len
  have bn_list : mg "list" = none := PySem.W.mg_none_of X G z_list
  have bn_range : mg "range" = none := PySem.W.mg_none_of X G z_range
  have bn_sorted : mg "sorted" = none := PySem.W.mg_none_of X G z_sorted
  have bn_tuple : mg "tuple" = none := PySem.W.mg_none_of X G z_tuple
  have en_BadWay : ExcF K mg "BadWay" := by
    have g := PySem.W.mg_of X G xa_BadWay
    have e := clsA_of g
    exact ⟨by rw [e]; exact g, by rw [e]; exact xe_BadWay, by rw [e]; exact xk_BadWay, by rw [e]; exact xb_BadWay, by rw [e]; exact xt_BadWay⟩
  have ce_BadWay : clsA mg "BadWay" = C_BadWay := clsA_of (PySem.W.mg_of X G xa_BadWay)
  have gn_BadWay : mg "BadWay" = some (.ref (clsA mg "BadWay")) := by rw [ce_BadWay]; exact PySem.W.mg_of X G xa_BadWay
  have ce_NotesError : clsA mg "NotesError" = C_NotesError := clsA_of (PySem.W.mg_of X G xa_NotesError)
  have gn_NotesError : mg "NotesError" = some (.ref (clsA mg "NotesError")) := by rw [ce_NotesError]; exact PySem.W.mg_of X G xa_NotesError
  have ce_BadKind : clsA mg "BadKind" = C_BadKind := clsA_of (PySem.W.mg_of X G xa_BadKind)
  have gn_BadKind : mg "BadKind" = some (.ref (clsA mg "BadKind")) := by rw [ce_BadKind]; exact PySem.W.mg_of X G xa_BadKind
  have rn0 : PySem.W.exmOne K (.ref (clsA mg "BadWay")) (.ref (clsA mg "NotesError")) = some true := by rw [ce_BadWay, ce_NotesError]; exact y0
  have rn1 : PySem.W.kitOne K (.ref (clsA mg "BadWay")) (.ref (clsA mg "BadWay")) = some true := by rw [ce_BadWay]; exact y1
  have rn2 : PySem.W.kitOne K (.ref (clsA mg "BadWay")) (.ref (clsA mg "BadKind")) = some false := by rw [ce_BadWay, ce_BadKind]; exact y2
  have rn3 : ExcC K (clsA mg "BadWay") := by rw [ce_BadWay]; exact ⟨y3_0, y3_1, y3_2, y3_3, y3_4, y3_5, y3_6, y3_7⟩
  have FD : FunD K "way" "way" (defArgs s_way) (defBody s_way) (defScope s_way) [] [("noted", .ref e0)] f5 (PySem.W.fnOf "way" "way" (defArgs s_way) (defBody s_way) (defScope s_way) .none kV5 dc5 pm5 an5 cd5 ct5) :=
    ⟨⟨_, _, _, _, _, _, _, _, _, _, rfl, l5, c5, .inl ⟨rfl, rfl⟩, .inr ⟨D_way, wd, fun q hq => by rw [List.mem_singleton.mp hq]; exact ⟨.ref e0, wn, rfl⟩⟩⟩, k5⟩
  have KB2 := FD.kbinds0 (ps := P_way) 0 ["whole", "places"] [("noted", .ref e0)] (fun us mv ws => ws ++ mv) (by simp) (fun q hq => hq) (fun r1 r2 r3 => Vals.append r3 r2)
    (fun D doc pm an cdv ct us mv ws h1 h2 h3 => match us, mv, ws, h1, h2, h3 with | [], [_], [_, _], _, _, _ => ⟨_, _, _, _, _, _, rfl, rfl, rfl⟩)
  have F_way : FzB K mg "way" s_way (wayB K e0) := ⟨f5, _, fun_mk (st := s_way) l5 c5 k5, PySem.W.mg_of X G a5, ⟨fun s us ws _ h1 h2 => match us, ws, h1, h2 with | [], [_, _, _], _, _ => .of_eq rfl, fun _ r => r⟩, let ⟨mv, b⟩ := KB2; ⟨_, b⟩⟩
  have he0 : ∀ H : Hp, SqT K H e0 [] := fun H => .inr ⟨_, #[], nt, we, rfl, rfl, by decide, .nil⟩
  have T := (⟨bn_all, bn_bool, bn_int, bn_isinstance, bn_len, bn_list, bn_range, bn_sorted, bn_tuple, cn_FOUND, cn_MOST_PLACES, cn_TOLD, en_BadWay, gn_BadWay, gn_NotesError, gn_BadKind, rn0, rn1, rn2, rn3⟩ : Txt K mg)
  refine ⟨PySem.W.fnOf "law" "law" (defArgs s_law) (defBody s_law) (defScope s_law) .none kV12 dc12 pm12 an12 cd12 ct12, fun s v => .of_eq rfl, fun base _ _ => ?_⟩
  have G1 := ok__law_take (P := l.prog) (w := w) (base := base) F__law_take T
  have G2 := ok__law_cell (P := l.prog) (w := w) (base := base) F__law_cell T
  have G3 := ok__law_tape F__law_tape T G2
  have I1 := ok_are_integers (P := l.prog) (w := w) (base := base) F_are_integers T
  have I2 := ok_ascending (P := l.prog) (w := w) (base := base) F_ascending T
  have I3 := ok_are_steps F_are_steps T I1
  have I4 := ok_is_way F_is_way T I2
  have I5 := ok_way F_way T I1 I3 I2 I4
  have J1 := ok__law_shuffled F__law_shuffled T G1
  have J2 := ok__law_refused F__law_refused T I5
  have J3 := ok__law_faults F__law_faults T G1
  exact ok_law FL T he0 G3 G1 J1 I5 J2 J3
theorem walk {l : PySem.W.OpenLaw} {q : Program} {loose : List Str} {XP : (Str → Option Value) → Heap → Prop} {YP : World → Heap → Prop} {d : DefRec} {K : Params → PySem.W.Frag} (hn : l.most = some 63) (hdf : d.params.defaults = [])
    (hY : ∀ (w : World) (h : Heap), YP w h → (K w.params).In h)
    (F : ∀ (w : World) (mg : Str → Option Value) (fa : Addr) (h : Heap), (K w.params).In h → h.Ns mainGlobals mg → mg d.name = some (.ref fa) →
      ∃ fd : FuncData, (∀ (s : Shared) (u : Value), BindsTo s fd ⟨[u], []⟩ [("_law_script", u)]) ∧ ∀ base : Heap, (K w.params).In base → base.Ns mainGlobals mg → FnOk l.prog w (K w.params) mg base CX0 5 fa fd ["_law_script"] (spLaw (K w.params))) :
    PySem.W.WalkO q loose XP YP l.row.toRowW d [] (fun f vs => PySem.call f vs) :=
  L2.walk_of (n := 63) (k := 5) (x := "_law_script") (CX := fun _ => CX0) (sp := fun w => spLaw (K w.params)) hn (by decide) hdf ⟨rfl, by decide, by decide⟩ hY F (fun _ _ a ns hl _ hS => ⟨a, ns, rfl, hS, hl, fun _ => rfl⟩) fun _ _ _ _ _ z => z
end Kn
open PySem PySem.W PyProof.Rows
set_option maxRecDepth 100000 in
set_option maxHeartbeats 0 in
theorem PySem.Challenge.cw_kindnotes_k09_ways_are_made_holds : PySem.Challenge.rw_kindnotes_k09_ways_are_made.Holds := by
  w_on; o_law; k_head; (case hw => w_witness2)
  k_fill
  refine Kn.walk (l := PySem.Challenge.rw_kindnotes_k09_ways_are_made) rfl rfl (fun w h Y => PySem.W.kIn_of Y) ?F
  case F =>
    intro w mg fa h KX G hmg
    refine' Kn.all_mk KX G hmg ?a1 ?l1 ?c1 ?k1 ?a2 ?l2 ?c2 ?k2 ?a3 ?l3 ?c3 ?k3 ?a4 ?l4 ?c4 ?k4 ?a5 ?l5 ?c5 ?k5 ?a6 ?l6 ?c6 ?k6 ?a7 ?l7 ?c7 ?k7 ?a8 ?l8 ?c8 ?k8 ?a9 ?l9 ?c9 ?k9 ?a10 ?l10 ?c10 ?k10 ?a11 ?l11 ?c11 ?k11 ?a12 ?l12 ?c12 ?k12 ?q_FOUND ?r_FOUND ?q_MOST_PLACES ?r_MOST_PLACES ?q_TOLD ?r_TOLD ?z_all ?z_bool ?z_int ?z_isinstance ?z_len ?z_list ?z_range ?z_sorted ?z_tuple ?xa_BadWay ?xe_BadWay ?xk_BadWay ?xb_BadWay ?xt_BadWay ?xa_NotesError ?xa_BadKind ?y0 ?y1 ?y2 ?y3_0 ?y3_1 ?y3_2 ?y3_3 ?y3_4 ?y3_5 ?y3_6 ?y3_7 ?wd ?wn ?we
    (case a1 => k_is)
    (case l1 => k_is)
    (case c1 => k_is)
    (case k1 => k_is)
    (case a2 => k_is)
    (case l2 => k_is)
    (case c2 => k_is)
    (case k2 => k_is)
    (case a3 => k_is)
    (case l3 => k_is)
    (case c3 => k_is)
    (case k3 => k_is)
    (case a4 => k_is)
    (case l4 => k_is)
    (case c4 => k_is)
    (case k4 => k_is)
    (case a5 => k_is)
    (case l5 => k_is)
    (case c5 => k_is)
    (case k5 => k_is)
    (case a6 => k_is)
    (case l6 => k_is)
    (case c6 => k_is)
    (case k6 => k_is)
    (case a7 => k_is)
    (case l7 => k_is)
    (case c7 => k_is)
    (case k7 => k_is)
    (case a8 => k_is)
    (case l8 => k_is)
    (case c8 => k_is)
    (case k8 => k_is)
    (case a9 => k_is)
    (case l9 => k_is)
    (case c9 => k_is)
    (case k9 => k_is)
    (case a10 => k_is)
    (case l10 => k_is)
    (case c10 => k_is)
    (case k10 => k_is)
    (case a11 => k_is)
    (case l11 => k_is)
    (case c11 => k_is)
    (case k11 => k_is)
    (case a12 => k_is)
    (case l12 => k_is)
    (case c12 => k_is)
    (case k12 => k_is)
    (case q_FOUND => k_is)
    (case r_FOUND => exact ⟨_, rfl⟩)
    (case q_MOST_PLACES => k_is)
    (case r_MOST_PLACES => exact ⟨_, rfl⟩)
    (case q_TOLD => k_is)
    (case r_TOLD => exact ⟨_, rfl⟩)
    (case z_all => k_is)
    (case z_bool => k_is)
    (case z_int => k_is)
    (case z_isinstance => k_is)
    (case z_len => k_is)
    (case z_list => k_is)
    (case z_range => k_is)
    (case z_sorted => k_is)
    (case z_tuple => k_is)
    (case xa_BadWay => k_is)
    (case xe_BadWay => k_exc)
    (case xk_BadWay => k_is)
    (case xb_BadWay => k_is)
    (case xt_BadWay => k_is)
    (case xa_NotesError => k_is)
    (case xa_BadKind => k_is)
    (case y0 => first | k_is | rfl | decide +kernel)
    (case y1 => first | k_is | rfl | decide +kernel)
    (case y2 => first | k_is | rfl | decide +kernel)
    (case y3_0 => k_is)
    (case y3_1 => k_is)
    (case y3_2 => k_is)
    (case y3_3 => k_is)
    (case y3_4 => k_is)
    (case y3_5 => k_is)
    (case y3_6 => k_is)
    (case y3_7 => k_is)
    (case wd => rfl)
    (case wn => k_is)
    (case we => k_is)
#print axioms PySem.Challenge.cw_kindnotes_k09_ways_are_made_holds

