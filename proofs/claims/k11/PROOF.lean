import PyProof.Rows.All
import Wide.All
import OpenK.AllK
import Wide.FinOn
import HandS.ForMost
import HandS.ForExc
import HandS.TupAny
import HandS.IsInst
import HandS.Deep
import HandS.Flow
import HandS.Style
import HandS.Small
import HandS.SortInts
import HandS.Conv
import HandS.Codes
import KE.KRevSl
import HandS.FStr
import HandS.Defaults
import HandS.ExcIs
import HandS.MakeKwOnly
import HandS.Star
import HandS.Property
import HandS.CallSlots
import HandS.OwnIter
import KE.KOpsOwn
import HandS.IterVal
import KE.KxField
import KE.KExcSuper
import HandS.ExcInit
import HandS.ExcSuper
import HandS.ExcField
import HandS.TryOnly
import HandS.TryMany
import HandS.ClsMeth
import KE.KDictKeyed
import KE.KDictDisplayH
import KE.KeyNested
import HandS.Iter
import HandS.More
import KE.KEqDict
import HandS.Finally
import HandS.ReplaceLit
import PySem.Challenge.RW_kindnotes_k11_only_texts_of_ways
set_option Elab.async false
set_option maxRecDepth 100000
namespace Kn
open PySem L2
structure Fz (K : PySem.W.Frag) (mg : Str → Option Value) (x : Str) (st : Stmt) (ps : List Str) : Prop where
  ex : ∃ (f : Addr) (fd : FuncData), Fun K x x st f fd ∧ mg x = some (.ref f) ∧ Binds K fd ps []
structure Fx (P : Program) (w : World) (K : PySem.W.Frag) (mg : Str → Option Value) (base : Heap) (CX : CXT) (x : Str) (k : Nat) (ps : List Str) (sp : Sp) : Prop where
  ex : ∃ (f : Addr) (fd : FuncData), FnOk P w K mg base CX k f fd ps sp ∧ mg x = some (.ref f) ∧ PySem.W.keepIn K (.ref f) = true ∧ Binds K fd ps []
theorem Fx.mono {P : Program} {w : World} {K : PySem.W.Frag} {mg : Str → Option Value} {base : Heap} {CX : CXT} {x : Str} {j k : Nat} {ps : List Str} {sp : Sp} (F : Fx P w K mg base CX x j ps sp) (h : j ≤ k) : Fx P w K mg base CX x k ps sp :=
  let ⟨f, fd, a, b⟩ := F.ex
  ⟨f, fd, a.mono h, b⟩
theorem Fz.ok {P : Program} {w : World} {K : PySem.W.Frag} {mg : Str → Option Value} {base : Heap} {x : Str} {st : Stmt} {ps N : List Str} {k : Nat} {sp : Sp} (F : Fz K mg x st ps) (S : FnScope N ps (defScope st)) (len : ∀ vs H Q E, sp vs H Q E → vs.length = ps.length)
    (hbody : ∀ (f : Addr) (cdv : Value) (A : Around) (outer : List Env) (s : Shared) (H : Hp) (vs : List V) (Q : VK) (E : XK), Room k (A.deeper (PyProof.Rows.envOfC x (defScope st) s.heap.objs.size f cdv)) → sp vs H Q E →
      ∃ t, PSs (cxOf CX0 P w K mg base N x (defScope st) f cdv A outer s H E).nox (defBody st) t ∧ t { nx := fun _ H' => Q .non H', rt := Q } (start N vs) H) : Fx P w K mg base CX0 x (k + 1) ps sp := by
  obtain ⟨f, fd, F1, m, b⟩ := F.ex
  exact ⟨f, fd, F1.ok S len (hbody f), m, F1.kp, b⟩
theorem Fz.none {P : Program} {w : World} {K : PySem.W.Frag} {mg : Str → Option Value} {base : Heap} {CX : CXT} {x : Str} {st : Stmt} {ps : List Str} {k : Nat} {sp : Sp} (F : Fz K mg x st ps) (h : ∀ vs H Q E, ¬ sp vs H Q E) : Fx P w K mg base CX x k ps sp := by
  obtain ⟨f, fd, F1, m, b⟩ := F.ex
  exact ⟨f, fd, ⟨fun vs H Q E z => (h vs H Q E z).elim, fun A outer s H args us vs Q E _ _ _ _ z => (h vs H Q E z).elim⟩, m, F1.kp, b⟩
section
variable {X : Cx} {k : Nat} {ps : List Str} {sp : Sp} {E : XK} {x : Str} {p pos : Pos} {e : Expr} {es : List Expr} {t : TA} {CX : CXT}
theorem fcall (F : Fx X.prog X.w X.K X.mg X.base CX0 x k ps sp) (hr : Room k X.A) (hg : Gl X x) (ha : PA X (e :: es) t)
    (hdb : (x == ("__debug__" : Str)) = false := by decide) (he : starEach (e :: es) X.env = (false, eval e X.env) :: starEach es X.env := by rfl) (hpl : (backTo pos (starEach es X.env)).any (·.1) = false := by rfl) :
    PE X (.Call (.Name x p) (e :: es) [] pos) (tCall sp [] E0 t) := by
  obtain ⟨f, fd, F1, m, kp, b⟩ := F.ex
  exact pe_call F1 hr hg m kp b .nil pass0 ha hdb he hpl
theorem pglob {v : V} (hg : Gl X x) (h : ∃ u, X.mg x = some u ∧ RelV v u) (hd : (x == ("__debug__" : Str)) = false := by decide) : PE X (.Name x pos) (tC v) := by
  obtain ⟨u, hm, r⟩ := h
  exact pe_glob hg hm r hd
end
def Tape (H : Hp) (t : Addr) : Prop := ∃ ns : List Int, H t = some (.lst (ns.map V.int))
structure Dr (t : Addr) (H H' : Hp) : Prop where
  tape : Tape H' t
  keep : ∀ b o, H b = some o → b ≠ t → H' b = some o
theorem Dr.trans {t : Addr} {H H1 H2 : Hp} (a : Dr t H H1) (b : Dr t H1 H2) : Dr t H H2 := ⟨b.tape, fun c o h n => b.keep c o (a.keep c o h n) n⟩
theorem Dr.refl {t : Addr} {H : Hp} (a : Tape H t) : Dr t H H := ⟨a, fun _ _ h _ => h⟩
theorem Tape.ne {H : Hp} {t b : Addr} (h : Tape H t) (hb : H b = none) : t ≠ b := by
  obtain ⟨ns, h⟩ := h
  exact ne_of_none h hb
theorem Dr.new {t : Addr} {H : Hp} {p : Addr} {o : HO} (a : Tape H t) (hp : H p = none) : Dr t H (upd H p o) := by
  have n := a.ne hp
  refine ⟨?_, fun b u h nb => ?_⟩
  · obtain ⟨ns, h⟩ := a
    exact ⟨ns, by rw [upd_ne n]; exact h⟩
  · rw [upd_ne (ne_of_none h hp)]
    exact h
theorem Dr.put {t : Addr} {H : Hp} (ns : List Int) : Dr t H (upd H t (.lst (ns.map V.int))) := ⟨⟨ns, upd_same⟩, fun b o h n => by rw [upd_ne n]; exact h⟩
theorem Dr.upd {t : Addr} {H H1 : Hp} {l : Addr} {o : HO} (d : Dr t H H1) (n : t ≠ l) (hl : H l = none) : Dr t H (upd H1 l o) := by
  refine ⟨?_, fun b u h nb => ?_⟩
  · obtain ⟨ns, h⟩ := d.tape
    exact ⟨ns, by rw [upd_ne n]; exact h⟩
  · rw [upd_ne (ne_of_none h hl)]
    exact d.keep b u h nb
def spTake : Sp := fun vs H Q _ => ∃ (t : Addr) (m : Int), vs = [.ref t, .int m] ∧ Tape H t ∧ 0 < m ∧ ∀ (r : Int) (H' : Hp), 0 ≤ r → r < m → Dr t H H' → Q (.int r) H'
section
variable {X : Cx}
theorem ix_listK (K : PySem.W.Frag) (h : X.K = K := by rfl) : IxR X (rIxL K) := by subst h; exact ix_list
theorem ix_seqK (K : PySem.W.Frag) (h : X.K = K := by rfl) : IxR X (rIx K) := by subst h; exact ix_seq
theorem sl_listK (K : PySem.W.Frag) (h : X.K = K := by rfl) : SlR X (rSlL K) := by subst h; exact sl_list
theorem sl_tupAK (K : PySem.W.Frag) (h : X.K = K := by rfl) : SlR X (rSlA K) := by subst h; exact sl_tupA
theorem op_in_seqK (K : PySem.W.Frag) (h : X.K = K := by rfl) : OpR X (compareOp .In) (rIn K false) := by subst h; exact op_in_seq
theorem op_notIn_seqK (K : PySem.W.Frag) (h : X.K = K := by rfl) : OpR X (compareOp .NotIn) (rIn K true) := by subst h; exact op_notIn_seq
theorem op_catAK (K : PySem.W.Frag) (h : X.K = K := by rfl) : OpR X (binaryOp .Add) (rCatA K) := by subst h; exact op_catA
theorem cr_sortedK (K : PySem.W.Frag) (h : X.K = K := by rfl) : CallR X (.builtin "sorted") (rSorted K) := by subst h; exact cr_sorted
theorem call_isi1K (K : PySem.W.Frag) (h : X.K = K := by rfl) : CallR X (.builtin "isinstance") (rIsi K) := by subst h; exact call_isi
theorem call_isiTK (K : PySem.W.Frag) (h : X.K = K := by rfl) : CallR X (.builtin "isinstance") (rIsiT K) := by subst h; exact call_isiT
theorem op_eqDK (K : PySem.W.Frag) (hu : X.A.units + 64 < cLine) (h : X.K = K := by rfl) : OpR X (compareOp .Eq) (rEqD K) := by subst h; exact op_eqD hu
theorem op_neDK (K : PySem.W.Frag) (hu : X.A.units + 64 < cLine) (h : X.K = K := by rfl) : OpR X (compareOp .NotEq) (rNeD K) := by subst h; exact op_neD hu
theorem op_inDK (K : PySem.W.Frag) (hu : X.A.units + 65 < cLine) (h : X.K = K := by rfl) : OpR X (compareOp .In) (rInD K) := by subst h; exact op_inD hu
theorem op_notInDK (K : PySem.W.Frag) (hu : X.A.units + 65 < cLine) (h : X.K = K := by rfl) : OpR X (compareOp .NotIn) (rNotInD K) := by subst h; exact op_notInD hu
theorem mt_indexDK (K : PySem.W.Frag) (hu : X.A.units + 65 < cLine) (h : X.K = K := by rfl) : MtR X "list.index" (rIndexD K) := by subst h; exact mt_indexD hu
theorem cr_allK (K : PySem.W.Frag) (hu : X.calm = true) (h : X.K = K := by rfl) : CallR X (.builtin "all") (rAll K) := by subst h; exact cr_all hu
def rLenSq (K : PySem.W.Frag) : List V → Hp → VK → Prop := fun xs H Q => ∃ p ys, xs = [.ref p] ∧ (SqL K H p ys ∨ SqT K H p ys) ∧ Q (.int ys.length) H
theorem call_len_seqK (K : PySem.W.Frag) (h : X.K = K := by rfl) : CallR X (.builtin "len") (rLenSq K) := by subst h; exact call_len_seq
def rTupleOf (K : PySem.W.Frag) : List V → Hp → VK → Prop := fun xs H Q => ∃ p ys, xs = [.ref p] ∧ ((SqL K H p ys ∧ ∀ l, H l = none → Q (.ref l) (upd H l (.tup ys))) ∨ (SqT K H p ys ∧ Q (.ref p) H))
theorem call_tuple_ofK (K : PySem.W.Frag) (h : X.K = K := by rfl) : CallR X (.type "tuple") (rTupleOf K) := by subst h; exact call_tuple_of
def rListOf (K : PySem.W.Frag) : List V → Hp → VK → Prop := fun xs H Q => ∃ p ys, xs = [.ref p] ∧ (SqL K H p ys ∨ SqT K H p ys) ∧ ∀ l, H l = none → Q (.ref l) (upd H l (.lst ys))
theorem call_list_ofK (K : PySem.W.Frag) (h : X.K = K := by rfl) : CallR X (.type "list") (rListOf K) := by subst h; exact call_list_of
def rJoin (K : PySem.W.Frag) : V → List V → Hp → VK → Prop := fun x xs H Q => ∃ a p, ∃ ys : List Str, x = .str a ∧ xs = [.ref p] ∧ (SqL K H p (ys.map V.str) ∨ SqT K H p (ys.map V.str)) ∧ (ys.map (·.length)).sum + ys.length * a.length ≤ 16777216 ∧ Q (.str (Txt.join a ys)) H
theorem mt_joinK (K : PySem.W.Frag) (h : X.K = K := by rfl) : MtR X "str.join" (rJoin K) := by subst h; exact mt_join
variable {T : String} {name : Str} {id : String} {r : V → List V → Hp → VK → Prop} {o e : Expr} {es : List Expr} {to : TE} {t : TA} {apos cpos : Pos} {tg l : Expr} {tl : TE}
theorem pe_bmK (K : PySem.W.Frag) (pa : PlainAttrs T) (slot : Slot T name id) (hty : typeOf (.builtin id) = pure (.type "method_descriptor")) (hm : MtR X id r) (ho : PE X o to) (ha : PA X (e :: es) t) (h : X.K = K := by rfl)
    (hbase : attributeBase o name X.env (eval o X.env) = eval o X.env := by rfl)
    (hfew : ((backTo cpos (starEach (e :: es) X.env)).all (fun x => !x.1) && (backToKw cpos (keywordEach [] X.env)).all (fun x => x.1.isSome)
      && decide ((e :: es).length + ([] : List Keyword).length + (if ([] : List Keyword).isEmpty then 0 else 1) < 30)) = true := by rfl)
    (hline : (apos.endLine == cpos.line) = true := by rfl) (hs : starEach (e :: es) X.env = (false, eval e X.env) :: starEach es X.env := by rfl) (hplain : (backTo cpos (starEach es X.env)).any (·.1) = false := by rfl) :
    PE X (.Call (.Attribute o name apos) (e :: es) [] cpos) (tBM K T r to t) := by subst h; exact pe_bm pa slot hty hm ho ha hbase hfew hline hs hplain
end
end Kn
set_option Elab.async false
set_option maxRecDepth 100000
set_option linter.all false
namespace L2
open PySem
theorem Rd.same {H H' : Hp} {a : Addr} {u : HO} (e : Same H H') (h : Rd H a u) : Rd H' a u := by
  rcases h with h | ⟨o, h⟩
  · exact .inl (e _ _ h)
  · exact .inr ⟨o, e _ _ h⟩
theorem SqT.same {K : PySem.W.Frag} {H H' : Hp} {a : Addr} {xs : List V} (e : Same H H') (h : SqT K H a xs) : SqT K H' a xs := by
  rcases h with h | h
  · exact .inl (Rd.same e h)
  · exact .inr h
mutual
theorem Dp.same {K : PySem.W.Frag} {H H' : Hp} (e : Same H H') : ∀ (d : PyData) {v : V}, Dp K H v d → Dp K H' v d
  | .none, _, .non => .non
  | .bool b, _, .bl _ => .bl b
  | .int i, _, .int _ => .int i
  | .str x, _, .str _ => .str x
  | .list ds, _, .lst h a => .lst (Same.seq e h) (DpAll.same e ds a)
  | .tuple ds, _, .tup h a => .tup (SqT.same e h) (DpAll.same e ds a)
theorem DpAll.same {K : PySem.W.Frag} {H H' : Hp} (e : Same H H') : ∀ (ds : List PyData) {vs : List V}, DpAll K H vs ds → DpAll K H' vs ds
  | [], _, .nil => .nil
  | d :: ds, _, .cons h a => .cons (Dp.same e d h) (DpAll.same e ds a)
end
mutual
def nl : PyData → Bool
  | .list _ => false
  | .dict _ => false
  | .tuple ds => nlAll ds
  | _ => true
def nlAll : List PyData → Bool
  | [] => true
  | d :: ds => nl d && nlAll ds
end
def Tups (H H' : Hp) : Prop := ∀ b xs, Rd H b (.tup xs) → Rd H' b (.tup xs)
theorem Same.tups {H H' : Hp} (e : Same H H') : Tups H H' := fun _ _ h => Rd.same e h
theorem Tups.trans {H H1 H2 : Hp} (a : Tups H H1) (b : Tups H1 H2) : Tups H H2 := fun c xs h => b c xs (a c xs h)
theorem Tups.refl (H : Hp) : Tups H H := fun _ _ h => h
theorem tups_of {H H' : Hp} {t : Addr} {ys : List V} (ht : H t = some (.lst ys)) (k : ∀ b o, H b = some o → b ≠ t → H' b = some o) : Tups H H' := fun b xs h => by
  rcases h with h | ⟨o, h⟩
  · exact .inl (k _ _ h (ne_of h ht (by intro z; cases z)))
  · exact .inr ⟨o, k _ _ h (ne_of h ht (by intro z; cases z))⟩
theorem same_new {H : Hp} {t : Addr} {o : HO} (ht : H t = none) : Same H (upd H t o) := fun b u h => by rw [upd_ne (ne_of_none h ht)]; exact h
mutual
theorem Dp.tups {K : PySem.W.Frag} {H H' : Hp} (e : Tups H H') : ∀ (d : PyData) {v : V}, nl d = true → Dp K H v d → Dp K H' v d
  | .none, _, _, .non => .non
  | .bool b, _, _, .bl _ => .bl b
  | .int i, _, _, .int _ => .int i
  | .str x, _, _, .str _ => .str x
  | .list _, _, n, _ => by simp [nl] at n
  | .dict _, _, n, _ => by simp [nl] at n
  | .tuple ds, _, n, .tup h a => by
    rw [nl] at n
    refine .tup ?_ (DpAll.tups e ds n a)
    rcases h with h | h
    · exact .inl (e _ _ h)
    · exact .inr h
theorem DpAll.tups {K : PySem.W.Frag} {H H' : Hp} (e : Tups H H') : ∀ (ds : List PyData) {vs : List V}, nlAll ds = true → DpAll K H vs ds → DpAll K H' vs ds
  | [], _, _, .nil => .nil
  | d :: ds, _, n, .cons h a => by
    rw [nlAll, Bool.and_eq_true] at n
    exact .cons (Dp.tups e d n.1 h) (DpAll.tups e ds n.2 a)
end
theorem DpAll.len {K : PySem.W.Frag} {H : Hp} : ∀ {vs : List V} {ds : List PyData}, DpAll K H vs ds → vs.length = ds.length
  | _, _, .nil => rfl
  | _, _, .cons _ a => by simp [DpAll.len a]
theorem DpAll.get {K : PySem.W.Frag} {H : Hp} : ∀ {vs : List V} {ds : List PyData} {i : Nat} {v : V}, DpAll K H vs ds → vs[i]? = some v → ∃ d, ds[i]? = some d ∧ Dp K H v d
  | _, _, _, _, .nil, e => by simp at e
  | _, _, 0, _, .cons h _, e => by simp at e; subst e; exact ⟨_, rfl, h⟩
  | _, _, i + 1, v, .cons _ a, e => by
    obtain ⟨d, h1, h2⟩ := DpAll.get (i := i) (v := v) a (by simpa using e)
    exact ⟨d, by simpa using h1, h2⟩
theorem DpAll.snoc {K : PySem.W.Frag} {H : Hp} : ∀ {vs : List V} {ds : List PyData} {v : V} {d : PyData}, DpAll K H vs ds → Dp K H v d → DpAll K H (vs ++ [v]) (ds ++ [d])
  | _, _, _, _, .nil, h => .cons h .nil
  | _, _, _, _, .cons g a, h => .cons g (DpAll.snoc a h)
theorem DpAll.app {K : PySem.W.Frag} {H : Hp} : ∀ {vs ws : List V} {ds es : List PyData}, DpAll K H vs ds → DpAll K H ws es → DpAll K H (vs ++ ws) (ds ++ es)
  | _, _, _, _, .nil, h => h
  | _, _, _, _, .cons g a, h => .cons g (DpAll.app a h)
theorem DpAll.ints {K : PySem.W.Frag} {H : Hp} : ∀ (ns : List Int), DpAll K H (ns.map V.int) (ns.map PyData.int)
  | [] => .nil
  | n :: ns => .cons (.int n) (DpAll.ints ns)
theorem DpAll.ints_inv {K : PySem.W.Frag} {H : Hp} : ∀ {ns : List Int} {vs : List V}, DpAll K H vs (ns.map PyData.int) → vs = ns.map V.int
  | [], _, .nil => rfl
  | n :: ns, _, .cons (.int _) a => by rw [DpAll.ints_inv a]; rfl
theorem DpAll.strs {K : PySem.W.Frag} {H : Hp} : ∀ (ns : List Str), DpAll K H (ns.map V.str) (ns.map PyData.str)
  | [] => .nil
  | n :: ns => .cons (.str n) (DpAll.strs ns)
theorem DpAll.take {K : PySem.W.Frag} {H : Hp} : ∀ (n : Nat) {vs : List V} {ds : List PyData}, DpAll K H vs ds → DpAll K H (vs.take n) (ds.take n)
  | 0, _, _, _ => by simp; exact .nil
  | _ + 1, _, _, .nil => .nil
  | n + 1, _, _, .cons h a => .cons h (DpAll.take n a)
theorem DpAll.drop {K : PySem.W.Frag} {H : Hp} : ∀ (n : Nat) {vs : List V} {ds : List PyData}, DpAll K H vs ds → DpAll K H (vs.drop n) (ds.drop n)
  | 0, _, _, a => a
  | _ + 1, _, _, .nil => .nil
  | n + 1, _, _, .cons _ a => DpAll.drop n a
end L2
namespace Kn
open PySem L2
theorem Dr.tups {t : Addr} {H H' : Hp} (h : Tape H t) (d : Dr t H H') : Tups H H' := by
  obtain ⟨ns, h⟩ := h
  exact tups_of h d.keep
def tyD : PyData → String
  | .none => "NoneType"
  | .bool _ => "bool"
  | .int _ => "int"
  | .str _ => "str"
  | .list _ => "list"
  | .tuple _ => "tuple"
  | .dict _ => "dict"
theorem Dp.ty {K : PySem.W.Frag} {H : Hp} : ∀ {v : V} {d : PyData}, Dp K H v d → TyX K H v (.type (tyD d))
  | _, _, .non => .base .non
  | _, _, .bl b => .base (.bl b)
  | _, _, .int i => .base (.int i)
  | _, _, .str x => .base (.str x)
  | _, _, .lst h _ => by
    rcases h with (h | ⟨o, h⟩) | ⟨o, its, n, h, c, _⟩
    · exact .base (.lst h)
    · exact .base (.frz h)
    · exact .kList h c
  | _, _, .tup h _ => by
    rcases h with (h | ⟨o, h⟩) | ⟨o, its, n, h, c, _⟩
    · exact .base (.tup h)
    · exact .fTuple h
    · exact .kTuple h c
theorem sIx_nat {n d i : Nat} {z : Int} (e : z = (i : Int)) (h : i ≤ n) : HT.sIx n d (some z) = i := by
  subst e
  rw [show HT.sIx n d (some (i : Int)) = (if (i : Int) < 0 then ((i : Int) + (n : Int)).toNat else min (i : Int).toNat n) from rfl, if_neg (by omega)]
  omega
def Hid (A : List Addr) (H : Hp) : Hp := fun b => if b ∈ A then none else H b
theorem Hid.get {A : List Addr} {H : Hp} {b : Addr} {o : HO} (h : H b = some o) (n : b ∉ A) : Hid A H b = some o := by unfold Hid; rw [if_neg n]; exact h
theorem Hid.of {A : List Addr} {H : Hp} {b : Addr} {o : HO} (h : Hid A H b = some o) : H b = some o ∧ b ∉ A := by
  unfold Hid at h
  by_cases c : b ∈ A
  · rw [if_pos c] at h; cases h
  · rw [if_neg c] at h; exact ⟨h, c⟩
theorem Hid.sub {A : List Addr} {H : Hp} : Same (Hid A H) H := fun b o h => (Hid.of h).1
theorem Hid.keep {A : List Addr} {H H' : Hp} (k : ∀ b o, H b = some o → b ∉ A → H' b = some o) : Same (Hid A H) (Hid A H') := fun b o h => Hid.get (k b o (Hid.of h).1 (Hid.of h).2) (Hid.of h).2
theorem Hid.same {A : List Addr} {H H' : Hp} (e : Same H H') : Same (Hid A H) (Hid A H') := Hid.keep fun b o h _ => e b o h
theorem Hid.upd {A : List Addr} {H : Hp} {a : Addr} {o : HO} (ha : a ∈ A) : Same (Hid A H) (Hid A (upd H a o)) := Hid.keep fun b u h n => by
  have nb : b ≠ a := fun z => n (by rw [z]; exact ha)
  rw [upd_ne nb]; exact h
section
variable {K : PySem.W.Frag} {a : Addr} {xs : List V} {g : TG} {tt : TT} {te : TE} {vs : List Nat} {σ : St} {H1 : Hp} {D : Addr} {Qd : Hp → Prop}
end
structure Lay (n : Nat) (d : PyData) : Prop where
  can : d.canLay0 = true
  dep : d.depth ≤ n
theorem Lay.mono {m n : Nat} {d : PyData} (h : Lay m d) (k : m ≤ n) : Lay n d := ⟨h.can, Nat.le_trans h.dep k⟩
theorem Lay.non (n : Nat) : Lay n .none := ⟨by simp [PyData.canLay0], by simp [PyData.depth]⟩
theorem Lay.bl (n : Nat) (b : Bool) : Lay n (.bool b) := ⟨by simp [PyData.canLay0], by simp [PyData.depth]⟩
theorem Lay.int (n : Nat) (i : Int) : Lay n (.int i) := ⟨by simp [PyData.canLay0], by simp [PyData.depth]⟩
theorem Lay.str (n : Nat) {x : Str} (h : PyData.strOk x = true) : Lay n (.str x) := ⟨by simpa [PyData.canLay0] using h, by simp [PyData.depth]⟩
theorem lay_all {n : Nat} : ∀ {ds : List PyData}, (∀ d ∈ ds, Lay n d) → PyData.canLayAll0 ds = true ∧ PyData.depthAll ds ≤ n
  | [], _ => ⟨by simp [PyData.canLayAll0], by simp [PyData.depthAll]⟩
  | d :: ds, h => by
    obtain ⟨h1, h2⟩ := lay_all (ds := ds) fun e he => h e (by simp [he])
    have h3 := h d (by simp)
    refine ⟨by rw [PyData.canLayAll0, h3.can, h1]; rfl, ?_⟩
    rw [PyData.depthAll]
    have := h3.dep
    omega
theorem Lay.tup {n : Nat} {ds : List PyData} (h : ∀ d ∈ ds, Lay n d) : Lay (n + 1) (.tuple ds) := by
  obtain ⟨h1, h2⟩ := lay_all h
  refine ⟨by rw [PyData.canLay0]; exact h1, ?_⟩
  rw [PyData.depth]; omega
theorem Lay.lst {n : Nat} {ds : List PyData} (h : ∀ d ∈ ds, Lay n d) : Lay (n + 1) (.list ds) := by
  obtain ⟨h1, h2⟩ := lay_all h
  refine ⟨by rw [PyData.canLay0]; exact h1, ?_⟩
  rw [PyData.depth]; omega
theorem Lay.shaped {n : Nat} {d : PyData} (h : Lay n d) (k : n ≤ 64 := by decide) : SeqAt.shaped d = true := by
  have := h.dep
  unfold SeqAt.shaped
  rw [h.can, decide_eq_true (show d.depth ≤ 64 by omega)]; rfl
theorem Lay.ints (n : Nat) (l : List Int) : ∀ d ∈ l.map PyData.int, Lay n d := fun d hd => by
  obtain ⟨i, _, rfl⟩ := List.mem_map.mp hd
  exact .int n i
end Kn
set_option Elab.async false
set_option maxRecDepth 100000
set_option linter.all false
namespace Kn
open PySem L2
section
open PySem.Spec PyProof.Rows
variable {prog : Program} {w : World} {A : Around} {E : Value → Shared → Prop} {s : Shared}
end
theorem vals_reverse : ∀ {xs : List V} {us : List Value}, Vals xs us → Vals xs.reverse us.reverse
  | _, _, .nil => .nil
  | _, _, .cons r t => by
    rw [List.reverse_cons, List.reverse_cons]
    exact Vals.append (vals_reverse t) (.cons r .nil)
section
open PySem.Spec
variable {X : Cx} {e k : Expr} {te : TE} {tk : TO} {pos p2 : Pos}
def tRevL (K : PySem.W.Frag) (te : TE) (tk : TO) : TE := fun σ H Q => te σ H fun x H1 => tk σ H1 fun o H2 => o = some (-1) ∧ ∃ a xs, x = .ref a ∧ SqL K H2 a xs ∧ ∀ p, H2 p = none → Q (.ref p) (upd H2 p (.lst xs.reverse))
theorem pe_revL (K : PySem.W.Frag) (he : PE X e te) (hk : PO X (some k) tk) (hK : X.K = K := by rfl) : PE X (.Subscript e (.Slice none none (some k) p2) pos) (tRevL K te tk) := by
  subst hK
  refine ⟨fun pins s σ H Q I h => ?_⟩
  refine PyProof.Rows.Subscript_ (thn (he.run pins s σ H _ I h) fun v s1 ⟨x, H1, I1, r1, q1⟩ => ?_)
  refine wpAny_Slice ?_
  rw [evalPart_none]
  refine wpAny_pure (wpAny_pure (thn (hk.run pins s1 σ H1 _ I1 q1) fun vk s3 ⟨o, H3, I3, pk, q3⟩ => ?_))
  obtain ⟨rfl, a, xs, rfl, hx, q⟩ := q3
  cases r1
  have I4 : Inv X pins σ H3 { s3 with heap := s3.heap.push { cls := .type "slice", data := .fields #[.none, .none, vk] } } := I3.kept (t' := s3.toks) fun b ob q => Heap.get?_push_of_some _ q
  obtain ⟨its, r, ht, hz⟩ := I4.list hx
  show wpAny (model X.prog X.w) X.A (PyProof.Rows.subscriptTail e (.Slice none none (some k) p2) (.ref a) (.ref s3.heap.objs.size)) (EP X pins σ Q) X.xe { s3 with heap := s3.heap.push { cls := .type "slice", data := .fields #[.none, .none, vk] } }
  have hlen := r.length
  refine PyProof.Rows.tail_any (ops := [.ref a, .ref s3.heap.objs.size]) ht.isList.typeIs slot_list_getitem.lookup (wpAny_getItem_list_slice ht.isList (Heap.IsSliceOf.new ..) .none .none pk (by simp) ?_ (by rw [List.size_toArray] <;> omega)) (by with_unfolding_all rfl)
  rw [PySem.W.krv_pick]
  refine ⟨.ref _, _, I4.laid (t' := s3.toks) (o := .lst xs.reverse) (fun b ob q => Heap.get?_push_of_some _ q) (Nat.le_refl _) ?_, rfl, q _ (I4.hok.fresh (Nat.le_refl _))⟩
  exact ⟨by rw [List.length_reverse]; exact hz, _, 0, vals_reverse r, Heap.get?_push_size _ rfl⟩
end
end Kn
set_option Elab.async false
set_option maxRecDepth 100000
set_option linter.all false
namespace Kn
open PySem L2
def SqS (K : PySem.W.Frag) (H : Hp) (a : Addr) (xs : List V) : Prop := SqL K H a xs ∨ SqT K H a xs
theorem SqS.same {K : PySem.W.Frag} {H H' : Hp} {a : Addr} {xs : List V} (e : Same H H') (h : SqS K H a xs) : SqS K H' a xs := by
  rcases h with h | h
  · exact .inl (Same.seq e h)
  · exact .inr (SqT.same e h)
def iSeq (K : PySem.W.Frag) (tl : TE) : TI := fun σ H R => tl σ H fun x H1 => ∃ a, x = .ref a ∧ (((∃ xs, SqL K H1 a xs) ∧ R (Itl K a) H1) ∨ ((∃ xs, SqT K H1 a xs) ∧ R (Itt K a) H1))
section
variable {X : Cx} {tg l : Expr} {tl : TE}
end
def tJoined (ts : List TE) : TE := fun σ H Q => tJs ts Str.empty σ H fun out H1 => Q (.str out) H1
theorem pe_joinedN {X : Cx} {v1 v2 : Expr} {rest : List Expr} {ts : List TE} {pos : Pos} (h : PJ X (v1 :: v2 :: rest) ts) : PE X (.JoinedStr (v1 :: v2 :: rest) pos) (tJoined ts) := pe_joined h
section
variable {X : Cx} {CX : CXT} {k : Nat} {f : Addr} {fd : FuncData} {ps ks : List Str} {sp : Sp} {E : XK} {x : Str} {p pos : Pos} {kws : List Keyword} {tk : TA} {g : List Value → List Value → List Value} {gV : List V → List V → List V}
end
end Kn
set_option Elab.async false
set_option maxRecDepth 100000
set_option linter.all false
namespace Kn
open PySem L2
def clsA (mg : Str → Option Value) (x : Str) : Addr := match mg x with
  | some (.ref a) => a
  | _ => 0
theorem clsA_of {mg : Str → Option Value} {x : Str} {a : Addr} (h : mg x = some (.ref a)) : clsA mg x = a := by unfold clsA; rw [h]
structure ExcF (K : PySem.W.Frag) (mg : Str → Option Value) (x : Str) : Prop where
  g : mg x = some (.ref (clsA mg x))
  ex : PySem.W.excIn K (clsA mg x) [.type "ValueError", .type "Exception", .type "BaseException", .type "object"] "ValueError.__new__" = true
  k : PySem.W.keepIn K (.ref (clsA mg x)) = true
  b : PySem.W.subIn K (.ref (clsA mg x)) (.type "BaseException") = some true
  t : PySem.W.typeIn K (.ref (clsA mg x)) = some (.type "type")
theorem Fz.okX {P : Program} {w : World} {K : PySem.W.Frag} {mg : Str → Option Value} {base : Heap} {x : Str} {st : Stmt} {ps N : List Str} {k : Nat} {sp : Sp} (F : Fz K mg x st ps) (S : FnScope N ps (defScope st)) (len : ∀ vs H Q E, sp vs H Q E → vs.length = ps.length)
    (hbody : ∀ (f : Addr) (cdv : Value) (A : Around) (outer : List Env) (s : Shared) (H : Hp) (vs : List V) (Q : VK) (E : XK), Room k (A.deeper (PyProof.Rows.envOfC x (defScope st) s.heap.objs.size f cdv)) → sp vs H Q E →
      ∃ t, PSs (cxOf (L2.CX P w) P w K mg base N x (defScope st) f cdv A outer s H E) (defBody st) t ∧ t { nx := fun _ H' => Q .non H', rt := Q } (start N vs) H) : Fx P w K mg base (L2.CX P w) x (k + 1) ps sp := by
  obtain ⟨f, fd, F1, m, b⟩ := F.ex
  exact ⟨f, fd, F1.okX S len (hbody f), m, F1.kp, b⟩
structure FzB (K : PySem.W.Frag) (mg : Str → Option Value) (x : Str) (st : Stmt) (B : FuncData → Prop) : Prop where
  ex : ∃ (f : Addr) (fd : FuncData), Fun K x x st f fd ∧ mg x = some (.ref f) ∧ B fd
structure FxB (P : Program) (w : World) (K : PySem.W.Frag) (mg : Str → Option Value) (base : Heap) (CX : CXT) (x : Str) (k : Nat) (ps : List Str) (sp : Sp) (B : FuncData → Prop) : Prop where
  ex : ∃ (f : Addr) (fd : FuncData), FnOk P w K mg base CX k f fd ps sp ∧ mg x = some (.ref f) ∧ PySem.W.keepIn K (.ref f) = true ∧ B fd
theorem FzB.okX {P : Program} {w : World} {K : PySem.W.Frag} {mg : Str → Option Value} {base : Heap} {x : Str} {st : Stmt} {ps N : List Str} {k : Nat} {sp : Sp} {B : FuncData → Prop} (F : FzB K mg x st B) (S : FnScope N ps (defScope st)) (len : ∀ vs H Q E, sp vs H Q E → vs.length = ps.length)
    (hbody : ∀ (f : Addr) (cdv : Value) (A : Around) (outer : List Env) (s : Shared) (H : Hp) (vs : List V) (Q : VK) (E : XK), Room k (A.deeper (PyProof.Rows.envOfC x (defScope st) s.heap.objs.size f cdv)) → sp vs H Q E →
      ∃ t, PSs (cxOf (L2.CX P w) P w K mg base N x (defScope st) f cdv A outer s H E) (defBody st) t ∧ t { nx := fun _ H' => Q .non H', rt := Q } (start N vs) H) : FxB P w K mg base (L2.CX P w) x (k + 1) ps sp B := by
  obtain ⟨f, fd, F1, m, b⟩ := F.ex
  exact ⟨f, fd, F1.okX S len (hbody f), m, F1.kp, b⟩
section
variable {X : Cx} {k : Nat} {ps ks : List Str} {sp : Sp} {x : Str} {p pos : Pos} {kws : List Keyword} {tk : TA} {B : FuncData → Prop} {gV : List V → List V → List V} {CX : CXT} {E : XK}
end
section
variable {X : Cx} {k : Nat} {ps : List Str} {sp : Sp} {E : XK} {x : Str} {p pos : Pos} {e : Expr} {es : List Expr} {t : TA}
theorem fcallX {W : WX} (tk : Takes X W) (F : Fx X.prog X.w X.K X.mg X.base (L2.CX X.prog X.w) x k ps sp) (hr : Room k X.A) (hg : Gl X x) (ha : PA X (e :: es) t)
    (hdb : (x == ("__debug__" : Str)) = false := by decide) (he : starEach (e :: es) X.env = (false, eval e X.env) :: starEach es X.env := by rfl) (hpl : (backTo pos (starEach es X.env)).any (·.1) = false := by rfl) :
    PE X (.Call (.Name x p) (e :: es) [] pos) (tCallS sp (WE W) t) := by
  obtain ⟨f, fd, F1, m, kp, b⟩ := F.ex
  exact pe_callS F1 hr hg m kp b (fun σ => passAt tk σ) ha hdb he hpl
end
section
variable {X : Cx} {k n : Nat} {f : Addr} {fd : FuncData} {ps ks : List Str} {sp : Sp} {E : St → XK} {x : Str} {p pos : Pos} {kws : List Keyword} {tk : TA} {B : FuncData → Prop} {g : List Value → List Value → List Value} {gV : List V → List V → List V} {CX : CXT}
theorem run_kS {pins : List (Addr × Obj)} {σ : St} {H : Hp} {s : Shared} {Q : VK} {us ws : List Value} {vs zs : List V} (F : FnOk X.prog X.w X.K X.mg X.base CX k f fd ps sp) (hr : Room k X.A) (hb : KBn X.K fd ps n ks g gV) (hx : PassesAt CX X σ (E σ))
    (J : Inv X pins σ H s) (r : Vals vs us) (rz : Vals zs ws) (l1 : vs.length = n) (l2 : zs.length = ks.length) (h : sp (gV vs zs) H Q (E σ)) : wpAny (model X.prog X.w) X.A (call (.ref f) us (ks.zip ws)) (EP X pins σ Q) X.xe s := by
  have r2 := hb.rel r rz
  have bt := hb.to s us ws J.kIn (r.length.symm.trans l1) (rz.length.symm.trans l2)
  refine wpAny_call (codeAny_mono (F.run X.A X.stack s H ⟨us, ks.zip ws⟩ (g us ws) (gV vs zs) Q (E σ) hr J.env0 bt r2 h) fun fl s' hq => ?_)
  match fl, hq with
  | .error e, hq => exact hx pins H s e s' J hq
  | .ok (.ret u), hq => exact J.after hq
  | .ok .next, hq => exact hq.elim
  | .ok .brk, hq => exact hq.elim
  | .ok .cont, hq => exact hq.elim
def tCallNS (m : Nat) (sp : Sp) (gV : List V → List V → List V) (E : St → XK) (tk : TA) : TE := fun σ H Q => tk σ H fun zs H2 => zs.length = m ∧ sp (gV [] zs) H2 Q (E σ)
theorem kcallS {W : WX} (tkk : Takes X W) (F : FxB X.prog X.w X.K X.mg X.base (L2.CX X.prog X.w) x k ps sp B) (hB : ∀ fd, B fd → ∃ g, KBn X.K fd ps 0 ks g gV) (hr : Room k X.A) (hg : Gl X x) (hkw : PK X kws tk)
    (hall : (backToKw pos (keywordEach kws X.env)).all (·.1.isSome) = true := by rfl) (hks : (backToKw pos (keywordEach kws X.env)).filterMap (·.1) = ks := by rfl) (hdb : (x == ("__debug__" : Str)) = false := by decide)
    (hpl : ((backTo pos (starEach [] X.env)).any (·.1) || (backToKw pos (keywordEach kws X.env)).any (·.1.isNone)) = false := by rfl) : PE X (.Call (.Name x p) [] kws pos) (tCallNS ks.length sp gV (WE W) tk) := by
  obtain ⟨f, fd, F1, m, kp, b⟩ := F.ex
  obtain ⟨g, hb⟩ := hB fd b
  refine ⟨fun pins s σ H Q I h => wpAny_Call_Name_kw (ld_glob I hg m ?_ hdb)⟩
  refine PySem.W.callWith_KW0 (h₀ := X.base) I.ok.mod.kin kp hall (thn (hkw.run pos pins s σ H _ I h) fun ws s2 ⟨zs, H2, J, rz, l2, q⟩ => ⟨J.kIn, ?_⟩) hpl
  rw [hks]
  exact run_kS (us := []) (vs := []) (E := WE W) F1 hr hb (passAt tkk σ) J .nil rz rfl l2 q
end
end Kn
set_option Elab.async false
set_option maxRecDepth 100000
set_option linter.all false
namespace Kn
open PySem L2
structure FxR (P : Program) (w : World) (K : PySem.W.Frag) (mg : Str → Option Value) (base : Heap) (CX : CXT) (x : Str) (k : Nat) (sp : Sp) : Prop where
  ex : ∃ f : Addr, FnR P w K mg base CX k f sp ∧ mg x = some (.ref f) ∧ PySem.W.keepIn K (.ref f) = true
structure FzS (K : PySem.W.Frag) (mg : Str → Option Value) (x : Str) (st : Stmt) (ps : List Str) (pv : Str) : Prop where
  ex : ∃ (f : Addr) (fd : FuncData), Fun K x x st f fd ∧ mg x = some (.ref f) ∧ ∀ us rest : List Value, us.length = ps.length → bindArgs fd ⟨us ++ rest, []⟩ = (newTuple rest >>= fun t => pure (ps.zip us ++ [(pv, t)]))
def starSp (n : Nat) (sp : Sp) : Sp := fun vs H Q E => ∃ ws rest, vs = ws ++ rest ∧ ws.length = n ∧ rest.length ≤ sizeLine ∧ ∀ p, H p = none → sp (ws ++ [V.ref p]) (upd H p (.tup rest)) Q E
theorem FzS.okX {P : Program} {w : World} {K : PySem.W.Frag} {mg : Str → Option Value} {base : Heap} {x pv : Str} {st : Stmt} {ps N : List Str} {k : Nat} {sp : Sp} (F : FzS K mg x st ps pv) (S : FnScope N (ps ++ [pv]) (defScope st))
    (hbody : ∀ (f : Addr) (cdv : Value) (A : Around) (outer : List Env) (s : Shared) (H : Hp) (vs : List V) (Q : VK) (E : XK), Room k (A.deeper (PyProof.Rows.envOfC x (defScope st) s.heap.objs.size f cdv)) → sp vs H Q E →
      ∃ t, PSs (cxOf (L2.CX P w) P w K mg base N x (defScope st) f cdv A outer s H E) (defBody st) t ∧ t { nx := fun _ H' => Q .non H', rt := Q } (start N vs) H) : FxR P w K mg base (L2.CX P w) x (k + 1) (starSp ps.length sp) := by
  obtain ⟨f, fd, F1, m, b⟩ := F.ex
  obtain ⟨oc, od, kV, doc, pm, an, cdv, ct, osl, rfl, lk, hcd⟩ := F1.ex
  exact ⟨f, StX.fn_star lk hcd S StX.cxUp b (hbody f cdv), m, F1.kp⟩
section
variable {X : Cx} {CX : CXT} {k : Nat} {sp : Sp} {x : Str} {p pos : Pos} {e : Expr} {es : List Expr} {t : TA}
end
end Kn
set_option Elab.async false
set_option maxRecDepth 100000
set_option linter.all false
namespace Kn
open PySem L2
def FunC (K : PySem.W.Frag) (m qual : Str) (st : Stmt) (f : Addr) (fd : FuncData) : Prop := ∃ dv kw, FunD K m qual (defArgs st) (defBody st) (defScope st) dv kw f fd
theorem FunC.okX {P : Program} {w : World} {K : PySem.W.Frag} {mg : Str → Option Value} {base : Heap} {m qual : Str} {st : Stmt} {f : Addr} {fd : FuncData} {ps N : List Str} {k : Nat} {sp : Sp} (F : FunC K m qual st f fd) (S : FnScope N ps (defScope st)) (len : ∀ vs H Q E, sp vs H Q E → vs.length = ps.length)
    (hbody : ∀ (cdv : Value) (A : Around) (outer : List Env) (s : Shared) (H : Hp) (vs : List V) (Q : VK) (E : XK), Room k (A.deeper (PyProof.Rows.envOfC qual (defScope st) s.heap.objs.size f cdv)) → sp vs H Q E →
      ∃ t, PSs (cxOf (L2.CX P w) P w K mg base N qual (defScope st) f cdv A outer s H E) (defBody st) t ∧ t { nx := fun _ H' => Q .non H', rt := Q } (start N vs) H) : FnOk P w K mg base (L2.CX P w) (k + 1) f fd ps sp := by
  obtain ⟨dv, kw, F⟩ := F
  exact F.ok S len hbody
structure Mz (K : PySem.W.Frag) (C : Addr) (m qual : Str) (st : Stmt) (ps : List Str) (dvs : List V) : Prop where
  ex : ∃ (f : Addr) (fd : FuncData) (ds : List Value), FunC K m qual st f fd ∧ Meth K C m f ∧ Binds K fd ps ds ∧ Vals dvs ds
structure Mx (P : Program) (w : World) (K : PySem.W.Frag) (mg : Str → Option Value) (base : Heap) (C : Addr) (m : Str) (k : Nat) (ps : List Str) (dvs : List V) (sp : Sp) : Prop where
  ex : ∃ (f : Addr) (fd : FuncData) (ds : List Value), FnOk P w K mg base (L2.CX P w) k f fd ps sp ∧ Meth K C m f ∧ Binds K fd ps ds ∧ Vals dvs ds
theorem Mz.okX {P : Program} {w : World} {K : PySem.W.Frag} {mg : Str → Option Value} {base : Heap} {C : Addr} {m qual : Str} {st : Stmt} {ps N : List Str} {dvs : List V} {k : Nat} {sp : Sp} (F : Mz K C m qual st ps dvs) (S : FnScope N ps (defScope st)) (len : ∀ vs H Q E, sp vs H Q E → vs.length = ps.length)
    (hbody : ∀ (f : Addr) (cdv : Value) (A : Around) (outer : List Env) (s : Shared) (H : Hp) (vs : List V) (Q : VK) (E : XK), Room k (A.deeper (PyProof.Rows.envOfC qual (defScope st) s.heap.objs.size f cdv)) → sp vs H Q E →
      ∃ t, PSs (cxOf (L2.CX P w) P w K mg base N qual (defScope st) f cdv A outer s H E) (defBody st) t ∧ t { nx := fun _ H' => Q .non H', rt := Q } (start N vs) H) : Mx P w K mg base C m (k + 1) ps dvs sp := by
  obtain ⟨f, fd, ds, F1, m, b, v⟩ := F.ex
  exact ⟨f, fd, ds, F1.okX S len (hbody f), m, b, v⟩
section
variable {X : Cx} {k : Nat} {C : Addr} {ps : List Str} {sp : Sp} {dvs : List V} {x m : Str} {p pos apos : Pos} {e o : Expr} {es : List Expr} {ta : TE} {t : TA} {W : WX}
end
structure Kz (K : PySem.W.Frag) (C : Addr) (qual : Str) (st : Stmt) (ps : List Str) (dvs : List V) : Prop where
  ex : ∃ (f : Addr) (fd : FuncData) (ds : List Value), FunC K "__init__" qual st f fd ∧ Mk K C f ∧ Binds K fd ps ds ∧ Vals dvs ds
structure Kx (P : Program) (w : World) (K : PySem.W.Frag) (mg : Str → Option Value) (base : Heap) (C : Addr) (k : Nat) (ps : List Str) (dvs : List V) (sp : Sp) : Prop where
  ex : ∃ (f : Addr) (fd : FuncData) (ds : List Value), FnOk P w K mg base (L2.CX P w) k f fd ps sp ∧ Mk K C f ∧ Binds K fd ps ds ∧ Vals dvs ds
theorem Kz.okX {P : Program} {w : World} {K : PySem.W.Frag} {mg : Str → Option Value} {base : Heap} {C : Addr} {qual : Str} {st : Stmt} {ps N : List Str} {dvs : List V} {k : Nat} {sp : Sp} (F : Kz K C qual st ps dvs) (S : FnScope N ps (defScope st)) (len : ∀ vs H Q E, sp vs H Q E → vs.length = ps.length)
    (hbody : ∀ (f : Addr) (cdv : Value) (A : Around) (outer : List Env) (s : Shared) (H : Hp) (vs : List V) (Q : VK) (E : XK), Room k (A.deeper (PyProof.Rows.envOfC qual (defScope st) s.heap.objs.size f cdv)) → sp vs H Q E →
      ∃ t, PSs (cxOf (L2.CX P w) P w K mg base N qual (defScope st) f cdv A outer s H E) (defBody st) t ∧ t { nx := fun _ H' => Q .non H', rt := Q } (start N vs) H) : Kx P w K mg base C (k + 1) ps dvs sp := by
  obtain ⟨f, fd, ds, F1, m, b, v⟩ := F.ex
  exact ⟨f, fd, ds, F1.okX S len (hbody f), m, b, v⟩
section
variable {X : Cx} {CX : CXT} {k : Nat} {f C : Addr} {fd : FuncData} {ps : List Str} {sp : Sp} {dvs : List V} {ds : List Value} {E : St → XK} {x : Str} {p pos : Pos} {e : Expr} {es : List Expr} {t : TA} {W : WX}
end
section
variable {X : Cx} {C : Addr} {o e value : Expr} {f : Str} {pos pos' : Pos} {ta tv : TE}
end
structure Pz (K : PySem.W.Frag) (C : Addr) (m qual : Str) (st : Stmt) (ps : List Str) : Prop where
  ex : ∃ (f : Addr) (fd : FuncData) (p : Addr), FunC K m qual st f fd ∧ PropOf K C m p f ∧ Binds K fd ps []
structure Pp (P : Program) (w : World) (K : PySem.W.Frag) (mg : Str → Option Value) (base : Heap) (C : Addr) (m : Str) (k : Nat) (ps : List Str) (sp : Sp) : Prop where
  ex : ∃ (f : Addr) (fd : FuncData) (p : Addr), FnOk P w K mg base (L2.CX P w) k f fd ps sp ∧ PropOf K C m p f ∧ Binds K fd ps []
theorem Pz.okX {P : Program} {w : World} {K : PySem.W.Frag} {mg : Str → Option Value} {base : Heap} {C : Addr} {m qual : Str} {st : Stmt} {ps N : List Str} {k : Nat} {sp : Sp} (F : Pz K C m qual st ps) (S : FnScope N ps (defScope st)) (len : ∀ vs H Q E, sp vs H Q E → vs.length = ps.length)
    (hbody : ∀ (f : Addr) (cdv : Value) (A : Around) (outer : List Env) (s : Shared) (H : Hp) (vs : List V) (Q : VK) (E : XK), Room k (A.deeper (PyProof.Rows.envOfC qual (defScope st) s.heap.objs.size f cdv)) → sp vs H Q E →
      ∃ t, PSs (cxOf (L2.CX P w) P w K mg base N qual (defScope st) f cdv A outer s H E) (defBody st) t ∧ t { nx := fun _ H' => Q .non H', rt := Q } (start N vs) H) : Pp P w K mg base C m (k + 1) ps sp := by
  obtain ⟨f, fd, p, F1, m, b⟩ := F.ex
  exact ⟨f, fd, p, F1.okX S len (hbody f), m, b⟩
end Kn
set_option Elab.async false
set_option maxRecDepth 100000
set_option linter.all false
namespace Kn
open PySem L2 PySem.Spec
theorem FunC.fnIn {K : PySem.W.Frag} {m qual : Str} {st : Stmt} {f : Addr} {fd : FuncData} (F : FunC K m qual st f fd) : PySem.W.fnIn K f = true := by
  obtain ⟨dv, kw, F⟩ := F
  obtain ⟨⟨_, _, _, _, _, _, _, _, _, _, e, l, _⟩, _⟩ := F
  unfold PySem.W.fnIn
  rw [l]
section
variable {X : Cx} {k : Nat} {C : Addr} {ps : List Str} {sp : Sp} {m : Str} {pos pos' : Pos} {o i value : Expr} {to ti tv : TE} {W : WX}
end
end Kn
set_option Elab.async false
set_option maxRecDepth 100000
set_option linter.all false
namespace Kn
open PySem L2 PySem.Spec
end Kn
set_option Elab.async false
set_option maxRecDepth 100000
set_option linter.all false
namespace Kn
open PySem L2 PySem.Spec
end Kn
set_option Elab.async false
set_option maxRecDepth 100000
set_option linter.all false
namespace Kn
open PySem L2 PySem.Spec PySem.Calls PyProof.Rows
section
variable {prog : Program} {w : World} {A : Around} {E : Value → Shared → Prop} {s : Shared} {K : PySem.W.Frag} {x C L f : Addr} {h₀ : Heap} {m : Str → Option Value} {ox : Obj} {od : Option Obj}
end
end Kn
set_option Elab.async false
set_option maxRecDepth 100000
set_option linter.all false
namespace Kn
open PySem L2 PySem.Spec
structure MzK (K : PySem.W.Frag) (C : Addr) (m qual : Str) (st : Stmt) (ps : List Str) (n : Nat) (ks : List Str) : Prop where
  ex : ∃ (f : Addr) (fd : FuncData), FunC K m qual st f fd ∧ Meth K C m f ∧ KBn K fd ps n ks (fun us ws => us ++ ws) (fun vs zs => vs ++ zs)
structure MxK (P : Program) (w : World) (K : PySem.W.Frag) (mg : Str → Option Value) (base : Heap) (C : Addr) (m : Str) (k : Nat) (ps : List Str) (n : Nat) (ks : List Str) (sp : Sp) : Prop where
  ex : ∃ (f : Addr) (fd : FuncData), FnOk P w K mg base (L2.CX P w) k f fd ps sp ∧ Meth K C m f ∧ KBn K fd ps n ks (fun us ws => us ++ ws) (fun vs zs => vs ++ zs)
theorem MzK.okX {P : Program} {w : World} {K : PySem.W.Frag} {mg : Str → Option Value} {base : Heap} {C : Addr} {m qual : Str} {st : Stmt} {ps N : List Str} {n : Nat} {ks : List Str} {k : Nat} {sp : Sp} (F : MzK K C m qual st ps n ks) (S : FnScope N ps (defScope st)) (len : ∀ vs H Q E, sp vs H Q E → vs.length = ps.length)
    (hbody : ∀ (f : Addr) (cdv : Value) (A : Around) (outer : List Env) (s : Shared) (H : Hp) (vs : List V) (Q : VK) (E : XK), Room k (A.deeper (PyProof.Rows.envOfC qual (defScope st) s.heap.objs.size f cdv)) → sp vs H Q E →
      ∃ t, PSs (cxOf (L2.CX P w) P w K mg base N qual (defScope st) f cdv A outer s H E) (defBody st) t ∧ t { nx := fun _ H' => Q .non H', rt := Q } (start N vs) H) : MxK P w K mg base C m (k + 1) ps n ks sp := by
  obtain ⟨f, fd, F1, m, b⟩ := F.ex
  exact ⟨f, fd, F1.okX S len (hbody f), m, b⟩
section
variable {X : Cx} {k n : Nat} {C : Addr} {ps ks : List Str} {sp : Sp} {m : Str} {pos apos : Pos} {e o : Expr} {es : List Expr} {kws : List Keyword} {ta : TE} {t tkk : TA} {W : WX}
end
end Kn
set_option Elab.async false
set_option maxRecDepth 100000
set_option linter.all false
namespace Kn
open PySem L2 PySem.Spec PySem.Calls PyProof.Rows
end Kn
set_option Elab.async false
set_option maxRecDepth 100000
set_option linter.all false
namespace Kn
open PySem L2 PySem.Spec PySem.Calls PyProof.Rows
def f12 : Builtin.Float.FormatSpec := ⟨32, 60, none, false, false, some 12, none, none, none⟩
section
variable {prog : Program} {w : World} {A : Around} {E : Value → Shared → Prop} {s : Shared} {t : Tok}
end
end Kn
set_option Elab.async false
set_option maxRecDepth 100000
set_option linter.all false
namespace Kn
open PySem L2
theorem Dr.same {t : Addr} {H H' : Hp} (tp : Tape H t) (e : Same H H') : Dr t H H' := by
  obtain ⟨ns, h⟩ := tp
  exact ⟨⟨ns, e _ _ h⟩, fun b o h _ => e b o h⟩
end Kn
set_option Elab.async false
set_option maxRecDepth 100000
set_option linter.all false
namespace Kn
open PySem L2
def LitE (K : PySem.W.Frag) (te : TE) (d : PyData) : Prop := ∀ σ H (Q : VK), (∀ v H', Same H H' → Dp K H' v d → Q v H') → te σ H Q
def LitA (K : PySem.W.Frag) (t : TA) (ds : List PyData) : Prop := ∀ σ H (Q : List V → Hp → Prop), (∀ vs H', Same H H' → DpAll K H' vs ds → Q vs H') → t σ H Q
section
variable {K : PySem.W.Frag} {te : TE} {t : TA} {d : PyData} {ds : List PyData}
theorem lit_str {x : Str} : LitE K (tC (.str x)) (.str x) := fun _ H Q k => k _ H (Same.refl _) (.str _)
theorem lit_int {x : Int} : LitE K (tC (.int x)) (.int x) := fun _ H Q k => k _ H (Same.refl _) (.int _)
theorem lit_non : LitE K (tC .non) .none := fun _ H Q k => k _ H (Same.refl _) .non
theorem lit_nil : LitA K tNil [] := fun _ H Q k => k _ H (Same.refl _) .nil
theorem lit_cons (a : LitE K te d) (b : LitA K t ds) : LitA K (tCons te t) (d :: ds) := fun σ H Q k => a σ H _ fun v H1 s1 h1 => b σ H1 _ fun vs H2 s2 h2 => k _ H2 (Same.trans s1 s2) (.cons (Dp.same s2 _ h1) h2)
theorem lit_tup (a : LitA K t ds) (hz : ds.length ≤ 1000 := by decide) : LitE K (tTup t) (.tuple ds) := fun σ H Q k => a σ H _ fun vs H1 s1 h1 => ⟨Nat.le_trans (by rw [h1.len]; exact hz) (show 1000 ≤ sizeLine by decide), fun p hp => k _ _ (Same.trans s1 (same_new hp)) (.tup (SqT.of upd_same) (DpAll.same (same_new hp) _ h1))⟩
end
theorem Dr.base {t : Addr} {H H1 H2 : Hp} (ht : H t = none) (sm : Same H H1) (d : Dr t H1 H2) : Same H H2 := fun b o h => d.keep b o (sm b o h) (ne_of_none h ht)
end Kn
set_option Elab.async false
set_option maxRecDepth 100000
set_option linter.all false
namespace Kn
open PySem L2
def FnRK (P : Program) (w : World) (K : PySem.W.Frag) (mg : Str → Option Value) (base : Heap) (CX : CXT) (k : Nat) (f : Addr) (kw : Str) (sp : Sp) : Prop :=
  ∀ (A : Around) (outer : List Env) (s : Shared) (H : Hp) (us : List Value) (u : Value) (vs : List V) (v : V) (Q : VK) (E : XK), Room k A → Env0 P w K mg base A outer s H → Vals vs us → RelV v u → sp (v :: vs) H Q E →
    codeAny (model P w) A (.call (.ref f) ⟨us, [(kw, u)]⟩) (CR CX outer P w H s Q E) s
structure FxRK (P : Program) (w : World) (K : PySem.W.Frag) (mg : Str → Option Value) (base : Heap) (CX : CXT) (x : Str) (k : Nat) (kw : Str) (sp : Sp) : Prop where
  ex : ∃ f : Addr, FnRK P w K mg base CX k f kw sp ∧ mg x = some (.ref f) ∧ PySem.W.keepIn K (.ref f) = true
structure FzSK (K : PySem.W.Frag) (mg : Str → Option Value) (x : Str) (st : Stmt) (pv kw : Str) : Prop where
  ex : ∃ (f : Addr) (fd : FuncData), Fun K x x st f fd ∧ mg x = some (.ref f) ∧ ∀ (rest : List Value) (u : Value), bindArgs fd ⟨rest, [(kw, u)]⟩ = (newTuple rest >>= fun t => pure [(kw, u), (pv, t)])
theorem FxRK.imp {P : Program} {w : World} {K : PySem.W.Frag} {mg : Str → Option Value} {base : Heap} {CX : CXT} {x : Str} {k : Nat} {kw : Str} {sp sp' : Sp} (F : FxRK P w K mg base CX x k kw sp) (h : ∀ vs H Q E, sp' vs H Q E → sp vs H Q E) : FxRK P w K mg base CX x k kw sp' :=
  let ⟨f, F1, m⟩ := F.ex
  ⟨f, fun A outer s H us u vs v Q E hr e0 r r2 hs => F1 A outer s H us u vs v Q E hr e0 r r2 (h _ _ _ _ hs), m⟩
def starKSp (sp : Sp) : Sp := fun vs H Q E => ∃ v rest, vs = v :: rest ∧ rest.length ≤ sizeLine ∧ ∀ p, H p = none → sp [v, V.ref p] (upd H p (.tup rest)) Q E
theorem FzSK.okX {P : Program} {w : World} {K : PySem.W.Frag} {mg : Str → Option Value} {base : Heap} {x pv kw : Str} {st : Stmt} {N : List Str} {k : Nat} {sp : Sp} (F : FzSK K mg x st pv kw) (S : FnScope N [kw, pv] (defScope st))
    (hbody : ∀ (f : Addr) (cdv : Value) (A : Around) (outer : List Env) (s : Shared) (H : Hp) (vs : List V) (Q : VK) (E : XK), Room k (A.deeper (PyProof.Rows.envOfC x (defScope st) s.heap.objs.size f cdv)) → sp vs H Q E →
      ∃ t, PSs (cxOf (L2.CX P w) P w K mg base N x (defScope st) f cdv A outer s H E) (defBody st) t ∧ t { nx := fun _ H' => Q .non H', rt := Q } (start N vs) H) : FxRK P w K mg base (L2.CX P w) x (k + 1) kw (starKSp sp) := by
  obtain ⟨f, fd, F1, m, hb⟩ := F.ex
  obtain ⟨oc, od, kV, doc, pm, an, cdv, ct, osl, rfl, lk, hcd⟩ := F1.ex
  refine ⟨f, ?_, m, F1.kp⟩
  intro A outer s H us u vs v Q E hr e0 r ru hsp
  obtain ⟨v, rest, ev, hz, hq⟩ := hsp
  cases ev
  have hn : H s.heap.objs.size = none := e0.hok.fresh (Nat.le_refl _)
  have hl2 : us.length ≤ sizeLine := by rw [← r.length]; exact hz
  refine StX.run_bnd lk hcd S hr e0 (G := fun xs H2 => ∃ p, H p = none ∧ xs = [v, V.ref p] ∧ H2 = upd H p (.tup vs)) (fun A' Ex Q' h => ?_) fun s2 H2 xs ⟨p, hp, ex, eH⟩ hr' => ?_
  · rw [hb us u]
    refine wpAny_bind (wpAny_newTuple (wpAny_pure ?_) hl2)
    have new : ObjOk P w (upd H s.heap.objs.size (.tup vs)) (s.heap.push ({ cls := .type "tuple", data := .seq us.toArray } : Obj)) s.heap.objs.size (.tup vs) := ⟨hz, us, r, ⟨_, Heap.get?_push_size _ rfl, rfl, _, rfl⟩⟩
    have un := StX.un_laid (fs := frs outer) (s := s) (o := ({ cls := .type "tuple", data := .seq us.toArray } : Obj)) (u := .tup vs) hn
    exact h _ _ [v, V.ref s.heap.objs.size] [u, Value.ref s.heap.objs.size] (StX.env0_laid e0 new) un rfl (fun e s' => StX.cxUp outer s H _ _ E e s' un (fun b o q => Heap.get?_push_of_some _ q) rfl) (.cons ru (.cons rfl .nil)) rfl ⟨_, hn, rfl, rfl⟩
  · subst ex eH
    exact hbody f cdv A outer s2 _ _ Q E hr' (hq p hp)
section
variable {X : Cx} {CX : CXT} {k : Nat} {sp : Sp} {x kw : Str} {p pos : Pos} {e : Expr} {es : List Expr} {t tk : TA} {kws : List Keyword}
end
end Kn
set_option Elab.async false
set_option maxRecDepth 100000
set_option linter.all false
namespace Kn
open PySem L2 PySem.Spec
theorem noteFrame_fr {x : Value} {c c' : Env} (h : c'.frame = c.frame) : noteFrame x c' = noteFrame x c := by
  unfold noteFrame frameOf
  simp only [h]
section
variable {M : Model} {A : Around} {E : Value → Shared → Prop} {s : Shared} {Z : Obj → Prop} {B : Heap} {env : Env} {outer : List Env} {L L' x : Addr}
theorem look_farZ {Q : Unit → Shared → Prop} (hZ : HandSPX.Steady Z) (fr : A.frames = some (env :: outer)) (ef : env.frame = some L) (ne : L' ≠ L) (hh : HandSPX.HeldZ B (env :: outer) x Z L' s.heap)
    (k : ∀ g, HandSPX.HeldZ B (env :: outer) x Z L g → s.heap.UpToSlots g → Q () { s with heap := g }) : wpAny M A (noteFrame (.ref x) env) Q E s := by
  obtain ⟨k1, k2, k3, ox, xs, t, ot, us, g1, gz, g2, g3, g4, g5, g6, g7, g8⟩ := hh
  unfold noteFrame; simp only [ef]
  refine wpAny_bind (wpAny_field g1 g2 g3 ?_)
  have c1 : (Value.ref t != Value.none) = true := by simp
  rw [if_pos c1]
  refine wpAny_bind (wpAny_field g6 g7 g8 ?_)
  have c2 : ¬ ((rawInt L' == rawInt L) = true) := by
    simp only [rawInt, beq_iff_eq]
    intro z
    injection z with z
    exact ne (Int.ofNat.inj z)
  rw [if_neg c2]
  refine wpAny_bind (wpAny_setField g6 g7 (Array.getElem?_eq_some_iff.mp g8).1 ?_)
  have oth : ∀ c, c ≠ t → (s.heap.update t (Obj.mapFields (·.setIfInBounds 3 Value.none))).get? c = s.heap.get? c := fun c q => Heap.get?_update_other _ _ (Ne.symm q)
  have nr : ∀ c o, s.heap.get? c = some o → (∀ q, o.data ≠ .fields q) → c ≠ t := fun c o h1 h2 z => by subst z; rw [g6] at h1; cases h1; exact h2 us g7
  refine HandSPX.wpAny_entryZ hZ fr (k3.of_keeps fun c o h1 h2 => ⟨o, (oth c (nr c o h1 h2)).trans h1, rfl⟩) ef ((oth x (Ne.symm g5)).trans g1) (fun c o h1 => (oth c fun z => by subst z; rw [g4] at h1; cases h1).trans (k1 c o h1)) k2 g2 (Array.getElem?_eq_some_iff.mp g3).1 gz fun g ⟨y1, y2, y3, y4⟩ => ?_
  exact k g ⟨y1, k2, y2, y3⟩ fun c o h1 h2 => y4 c o ((oth c (nr c o h1 h2)).trans h1) h2
def endX (M : Model) (A : Around) (E : Value → Shared → Prop) (use : Option (Value → Sem Unit)) (Q : Value → Shared → Prop) (acc : Value) (C : Addr) (fr : Option Addr) (r : Result) (s' : Shared) : Prop :=
  match r with
  | .ok f => compPost M A E use Q acc C (.ok f) s'
  | .error x => ∃ m, s'.heap.Ns C m ∧ ∀ g, Heap.SameBut C s'.heap g → ∀ c : Env, c.locals = C → c.frame = fr → wpAny M A (passOn "comprehension.variables-let-go" x c : Sem Value) (fun _ _ => False) E { s' with heap := g }
theorem comp_free {e : Expr} {scope : Scope} {pos : Pos} {mkAcc hd : Sem Value} {g : Comprehension} {gs : List Comprehension} {cl : List (Str × Addr)} {use : Option (Value → Sem Unit)} {Q : Value → Shared → Prop}
    (ec : clausesOf e = g :: gs) (ef : ∀ x, foldedSetIterable g.iter env x = pure x) (eo : closureFor scope env = pure cl) (ek : scope.kind = .function) (en : ∀ x ∈ scope.names, x.2 = .local → scope.names.lookup x.1 = some .local)
    (h : wpAny M A hd (fun x s1 => wpAny M A (pyIter x) (fun it s2 => wpAny M A mkAcc (fun acc s3 => wpAny M A (newFunctionEnv scope env.globals cl [] env.qual none .none (some env)) (fun c s4 =>
        codeAny M A (.compStart e 0 it acc { c with scope := relabel scope env }) (endX M A E use Q acc c.locals c.frame) s4) E s3) E s2) E s1) E s) :
    wpAny M A (comprehension e scope env pos mkAcc false hd use) Q E s := by
  unfold comprehension; rw [eo, ec]
  refine wpAny_bind (wpAny_mono h (fun x s1 h1 => wpAny_bind (wpAny_standAt (wpAny_bind (wpAny_of_eq (ef x) ?_)))) fun _ _ z => z)
  refine wpAny_bind (wpAny_holding (wpAny_mono h1 (fun it s2 h2 => wpAny_standIf (wpAny_bind (wpAny_mono h2 (fun acc s3 h3 => ?_) fun _ _ z => z))) fun _ _ z => z))
  refine wpAny_bind (wpAny_pure (wpAny_bind (wpAny_mono h3 (fun c s4 h4 => ?_) fun _ _ z => z)))
  dsimp only
  generalize hvs : (scope.names.filter fun x => (x.2 == .local || x.2 == .cell) && x.1 != (".0" : Str)) = vars
  have vk : ∀ x ∈ vars, x.2 = .local → Env.kindOf { c with scope := relabel scope env } x.1 = some .local := fun x hx hl => by
    subst hvs
    exact lookup_relabel_local (en x (List.mem_filter.mp hx).1 hl)
  have vr : ∀ x ∈ vars.reverse, x.2 = .local → Env.kindOf { c with scope := relabel scope env } x.1 = some .local := fun x hx => vk x (List.mem_reverse.mp hx)
  have vt : ∀ x ∈ vars.reverse.drop 1 ++ vars.reverse.take 1, x.2 = .local → Env.kindOf { c with scope := relabel scope env } x.1 = some .local := fun x hx =>
    vr x ((List.mem_append.mp hx).elim List.mem_of_mem_drop List.mem_of_mem_take)
  refine wpAny_holding (wpAny_bind (wpAny_attempt (wpAny_holding (wpAny_run (codeAny_mono h4 fun r s5 hr => ?_)))))
  match r, use, hr with
  | .ok f, none, hr =>
    obtain ⟨m, hn, hr⟩ : ∃ m, s5.heap.Ns c.locals m ∧ ∀ g, Heap.SameBut c.locals s5.heap g → Q acc { s5 with heap := g } := hr
    exact wpAny_bind (wpAny_holding (wpAny_comp_letGo (cenv := { c with scope := relabel scope env }) ek _ s5 m vr hn fun g m' _ sb => wpAny_pure (hr g sb)))
  | .ok f, some u, hr =>
    have hr : wpAny M A (u acc) (fun _ s6 => ∃ m, s6.heap.Ns c.locals m ∧ ∀ g, Heap.SameBut c.locals s6.heap g → Q .none { s6 with heap := g }) E s5 := hr
    refine wpAny_bind (wpAny_rule (wpAny_bind (wpAny_holding (wpAny_mono hr (fun _ s6 ⟨m, hn, hr'⟩ => ?_) fun _ _ z => z))))
    exact wpAny_bind (wpAny_comp_letGo (cenv := { c with scope := relabel scope env }) ek _ s6 m vt hn fun g m' _ sb => wpAny_pure (hr' g sb))
  | .error x, use, hr =>
    obtain ⟨m, hn, hr⟩ := hr
    cases use <;> exact wpAny_bind (wpAny_holding (wpAny_comp_letGo (cenv := { c with scope := relabel scope env }) ek _ s5 m vr hn fun g m' _ sb => wpAny_mono (hr g sb _ rfl rfl) (fun _ _ z => z.elim) fun _ _ z => z))
end
theorem frames_to {B' : Heap} : ∀ {l : List Env} {B h h' : Heap}, h.FunFrames B l → (∀ c ∈ frs l, h'.get? c = h.get? c) → (∀ c ∈ frs l, B'.get? c = none) → h'.FunFrames B' l
  | [], _, _, _, _, _, _ => trivial
  | env :: l, B, h, h', ⟨hk, ⟨L, o, hf, hn, ho, hd⟩, hr⟩, e, n => by
    have m : L ∈ frs (env :: l) := List.mem_filterMap.mpr ⟨env, List.mem_cons_self, hf⟩
    have sub : ∀ c ∈ frs l, c ∈ frs (env :: l) := fun c hc => by
      obtain ⟨y, hy, q⟩ := List.mem_filterMap.mp hc
      exact List.mem_filterMap.mpr ⟨y, List.mem_cons_of_mem _ hy, q⟩
    exact ⟨hk, ⟨L, o, hf, n L m, (e L m).trans ho, hd⟩, frames_to hr (fun c hc => e c (sub c hc)) fun c hc => n c (sub c hc)⟩
section
variable {X : Cx} {E : XK}
abbrev bX (X : Cx) (scope : Scope) (s : Shared) (H : Hp) (C : Addr) (cl : List (Str × Addr)) (fp : List Addr) (xe : Value → Shared → Prop) : Cx := (X.blk s H scope (compEnvC scope cl C X.env) fp).wish xe
theorem blk_takes {scope : Scope} {own : List (Str × Nat)} {ce : Env} {fp : List Addr} {pins : List (Addr × Obj)} {σ : St} {H3 : Hp} {s3 : Shared} {use : Option (Value → Sem Unit)} {Qf : Value → Shared → Prop} {acc : Value}
    (es : X.stack = X.env :: X.outer) (ef : X.env.frame = some X.env.locals) (tk : Takes X fun c d _ H => E c d H) (I3 : Inv X pins σ H3 s3) (f3 : ∀ b ∈ fp, FpOk X pins H3 b ∧ b < s3.heap.objs.size) (cL : ce.locals = s3.heap.objs.size) (cf : ce.frame = X.env.frame) :
    Takes ((X.blk s3 H3 scope ce fp).wish (notedBy (model X.prog X.w) X.A ce fun e s' => endX (model X.prog X.w) X.A X.xe use Qf acc s3.heap.objs.size X.env.frame (.error e) s')) fun c d _ H => E c d H := fun u s' xx => by
  obtain ⟨a, B, sI, pn, σ', H', cls, d, rfl, J', nb, up, sky, na, os, ag, hE⟩ := xx
  have J := J'.unwish
  have af : X.A.frames = some (X.env :: X.outer) := by rw [I3.ok.frames, es]
  generalize hC : s3.heap.objs.size = C at cL
  have hn0 : H' C = none := by have z : H' ce.locals = none := J.free; rw [cL] at z; exact z
  have fC : FpOk X pins H' C := I3.fpOk (Nat.le_of_eq hC) hn0
  obtain ⟨m0, n0, _⟩ := J.loc
  have n0 : sI.heap.Ns C m0 := by have z : sI.heap.Ns ce.locals m0 := n0; rw [cL] at z; exact z
  have IX : Inv X pins σ H' sI := I3.call' (ch := fp) J.os J.base J.hok J.bare fun b hb => ⟨(f3 b hb).1.2.2.2.1, (f3 b hb).1.2.1, (f3 b hb).1.2.2.2.2.1, (f3 b hb).1.2.2.2.2.2⟩
  have nfr : ∀ c ∈ frs (X.env :: X.outer), c ≠ C := fun c hc z => by
    subst z
    have : c ∈ X.env.locals :: X.fs := by
      obtain ⟨y, hy, q⟩ := List.mem_filterMap.mp hc
      rcases List.mem_cons.mp hy with rfl | hy
      · rw [ef] at q; cases q; exact List.mem_cons_self
      · exact List.mem_cons_of_mem _ (List.mem_filterMap.mpr ⟨y, hy, q⟩)
    rcases List.mem_cons.mp this with z | z
    · exact fC.2.1 z
    · exact fC.2.2.1 z
  have sky : Sky B (X.env :: X.outer) a (Zc cls d) ce.locals s'.heap := by rw [← es]; exact sky
  have nb : ∀ b o, sI.heap.get? b = some o → b ∉ frs (X.env :: X.outer) → B.get? b = some o := by rw [← es]; exact nb
  have fin : ∀ g, HandSPX.HeldZ B (X.env :: X.outer) a (Zc cls d) X.env.locals g → s'.heap.UpToSlots g → endX (model X.prog X.w) X.A X.xe use Qf acc C X.env.frame (.error (.ref a)) { s' with heap := g } := fun g hh ug => by
    obtain ⟨k1, k2, k3, tr⟩ := hh
    have ng : g.Ns C m0 := Heap.UpToSlots.ns ug (Heap.UpToSlots.ns up n0)
    refine ⟨m0, ng, fun g' sb c hc cfr => ?_⟩
    have rec_ne : ∀ {b : Addr} {o : Obj} {vs : Array Value}, g.get? b = some o → o.data = .fields vs → b ≠ C := fun {b o vs} h1 h2 z => by
      subst z
      obtain ⟨o', es', ep, h3, h4, _⟩ := ng
      rw [h1] at h3; cases h3
      rw [h2] at h4; cases h4
    obtain ⟨oe, vs, T, oT, ts, t1, tz, t2, t3, t4, t5, t6, t7, t8⟩ := tr
    have ka : a ≠ C := rec_ne t1 t2
    have kT : T ≠ C := rec_ne t6 t7
    have hide : ∀ {h : Heap} {b : Addr} {o : Obj}, (PySem.W.hideAll h [C]).get? b = some o → h.get? b = some o ∧ b ≠ C := fun {h b o} q => ⟨PySem.W.of_hideAll _ q, fun z => by rw [PySem.W.hideAll_none [C] (by simp [z])] at q; cases q⟩
    have keep : ∀ {h : Heap} {b : Addr} {o : Obj}, h.get? b = some o → b ≠ C → (PySem.W.hideAll h [C]).get? b = some o := fun q n => PySem.W.hideAll_get [C] q (by simpa using n)
    have gone : ∀ {h : Heap} {b : Addr}, h.get? b = none → (PySem.W.hideAll h [C]).get? b = none := fun {h b} q => by
      cases z : (PySem.W.hideAll h [C]).get? b with
      | none => rfl
      | some o => have := (hide z).1; rw [q] at this; cases this
    have tr' : HandSPX.TracedZ g' (PySem.W.hideAll B [C]) a (Zc cls d) (rawInt X.env.locals) := ⟨oe, vs, T, oT, ts, (sb.2 a ka).trans t1, tz, t2, t3, gone t4, t5, (sb.2 T kT).trans t6, t7, t8⟩
    have st' : (PySem.W.hideAll B [C]).StaysIn g' := fun b o q => (sb.2 b (hide q).2).trans (k1 b o (hide q).1)
    have ff' : g'.FunFrames (PySem.W.hideAll B [C]) (X.env :: X.outer) := frames_to k3 (fun c hc => sb.2 c (nfr c hc)) fun c hc => gone (k3.mem hc).1
    have IX' := IX.turned (t' := sI.toks) (h' := PySem.W.hideAll sI.heap [C]) (fun b o hb q => keep q hb) fC.1 fC.2.1 fC.2.2.2.1 fC.2.2.2.2.1 fC.2.2.2.2.2
    unfold PySem.passOn
    refine wpAny_bind (wpAny_field ((sb.2 a ka).trans t1) t2 t3 ?_)
    have ct : ¬ ((Value.ref T == Value.none) = true) := by simp
    rw [if_neg ct]
    have go : wpAny (model X.prog X.w) X.A (setFlight (.ref a) c.frame) (fun _ s4 => wpAny (model X.prog X.w) X.A (throw (.ref a) : Sem Value) (fun _ _ => False) X.xe s4) X.xe { s' with heap := g' } := by
      rw [cfr, ef]
      refine HandSPX.setFlight_anyZ (fl := rawInt X.env.locals) st' ff' tr' fun g2 y1 y2 y3 y4 => wpAny_throw (tk _ _ ?_)
      refine ⟨a, PySem.W.hideAll B [C], _, pins, σ, H', cls, d, rfl, IX', fun b o q hb => ?_, fun b o q hnf => ?_, .inr (.inr ⟨y1, gone k2, by rw [es]; exact y2, y3⟩), na, os, ag, hE⟩
      · rw [es] at hb
        exact keep (nb b o (hide q).1 hb) (hide q).2
      · obtain ⟨sl, q1⟩ := (Heap.UpToSlots.trans up ug) b o (hide q).1 hnf
        obtain ⟨sl2, q2⟩ := y4 b _ ((sb.2 b (hide q).2).trans q1) hnf
        exact ⟨sl2, q2⟩
    first
      | exact wpAny_bind (wpAny_pure (wpAny_bind go))
      | exact wpAny_bind go
  show wpAny (model X.prog X.w) X.A (noteFrame (.ref a) ce) _ _ _
  rw [noteFrame_fr cf]
  rcases sky with ⟨y1, y2, y3, oe, vs, y4, y5, y6, y7⟩ | fl | hh
  · exact HandSPX.look_newZ Zc.steady af y3 ef y4 y1 y2 y6 y7 y5 fin
  · exact HandSPX.looks_onZ Zc.steady af ef fl fin
  · exact look_farZ Zc.steady af ef (by rw [cL]; exact fun z => fC.2.1 z) hh fin
theorem lc_coreX {pins : List (Addr × Obj)} {s : Shared} {σ : St} {H : Hp} {Q : VK} {elt tg iter : Expr} {ifs : List Expr} {scope : Scope} {own : List (Str × Nat)} {pos pos' : Pos} {wi : TI} {g : TG} {tt : TT} {te : TE} {use : Option (Value → Sem Unit)} {Qf : Value → Shared → Prop}
    (hc : X.calm = true) (es : X.stack = X.env :: X.outer) (ef : X.env.frame = some X.env.locals) (tk : Takes X fun c d _ H => E c d H) (nd : X.N.Nodup) (I : Inv X pins σ H s) (hi : PI X tg iter wi) (ok : BlkOk X.N X.env.scope scope own)
    (hg : ∀ s H C cl fp xe, PG (bX X scope s H C cl fp xe) tg g) (ht : ∀ s H C cl fp xe, Takes (bX X scope s H C cl fp xe) (fun c d _ H => E c d H) → PTs (bX X scope s H C cl fp xe) ifs tt)
    (he : ∀ s H C cl fp xe, Takes (bX X scope s H C cl fp xe) (fun c d _ H => E c d H) → PE (bX X scope s H C cl fp xe) elt te) (hs : ∀ x, foldedSetIterable iter X.env x = pure x) (h : tLc wi g tt te (own.map (·.2)) σ H Q)
    (hRR : ∀ D C s' m H', Inv X pins σ H' s' → Q (.ref D) H' → s'.heap.Ns C m → FpOk X pins H' C → compPost (model X.prog X.w) X.A X.xe use Qf (.ref D) C (.ok .next) s') :
    wpAny (model X.prog X.w) X.A (comprehension (.ListComp elt [⟨tg, iter, ifs, 0⟩] scope pos) scope X.env pos' (newList []) false (eval iter X.env) use) Qf X.xe s := by
  have fre : ∀ y ∈ scope.names, y.2 = .free → ∃ c, X.env.cells.lookup y.1 = some c := fun y hy e => (ok.free y hy e).elim (fun k => I.ok.has _ (.inl k)) fun k => I.ok.has _ (.inr k)
  refine comp_free (use := use) rfl hs (closure_ok fre) ok.kind (fun y hy e => by rw [ok.uniq y hy, e]) (thn (hi.run pins s σ H _ I h) fun xv s1 hx => thn hx fun itv s2 ⟨it, fp, tn, J, H2, e, I2, T, st2, f2, q⟩ => ?_)
  subst e
  refine wpAny_newObj_type (newEnv_comp ?_) (by show 0 ≤ sizeLine; decide)
  generalize hD : s2.heap.objs.size = D
  obtain ⟨W, ⟨m0, w0⟩, turn⟩ := q D (I2.hok.fresh (Nat.le_of_eq hD))
  generalize e3 : ({ s2 with heap := s2.heap.push { cls := .type "list", data := .seq ([] : List Value).toArray } } : Shared) = s3
  have h3 : s3.heap = s2.heap.push { cls := .type "list", data := .seq ([] : List Value).toArray } := by rw [← e3]
  have I3 : Inv X pins σ (upd H2 D (.lst [])) s3 := by
    subst e3
    refine I2.laid (o := .lst []) (t' := s2.toks) (fun b o e => Heap.get?_push_of_some _ e) (Nat.le_of_eq hD) (show ObjOk X.prog X.w _ _ D (.lst []) from ⟨Nat.zero_le _, [], 0, .nil, by rw [← hD]; exact Heap.get?_push_size _ rfl⟩)
  have f3 : ∀ b ∈ fp, FpOk X pins (upd H2 D (.lst [])) b ∧ b < s3.heap.objs.size := fun b hb => by
    obtain ⟨o, e, _⟩ := T.obj _ _ st2 b hb
    have lt := Heap.lt_size e
    exact ⟨⟨by rw [upd_ne (by rw [← hD]; exact Nat.ne_of_lt lt)]; exact (f2 b hb).1, (f2 b hb).2⟩, by rw [h3, Heap.size_push]; exact Nat.lt_succ_of_lt lt⟩
  have st3 : tn 0 s3.heap := T.keep _ _ _ st2 fun b _ o e => by rw [h3]; exact Heap.get?_push_of_some _ e
  have I4 := block_start I3 ok nd f3
  generalize hcl : cellsFrom (s3.heap.objs.size + 1) scope.names (cloFrom X.env.cells scope.names []) = cl at I4
  show codeAny _ _ (.compStart (.ListComp elt [⟨tg, iter, ifs, 0⟩] scope pos) 0 (.ref it) (.ref D) (compEnvC scope cl s3.heap.objs.size X.env)) (endX (model X.prog X.w) X.A X.xe use Qf (.ref D) s3.heap.objs.size X.env.frame) { s3 with heap := pushCells (s3.heap.push { cls := .type "dict", data := .dict #[] }) scope.names }
  have cL : (compEnvC scope cl s3.heap.objs.size X.env).locals = s3.heap.objs.size := rfl
  have cF : (compEnvC scope cl s3.heap.objs.size X.env).frame = X.env.frame := rfl
  have pg := fun xe => hg s3 (upd H2 D (.lst [])) s3.heap.objs.size cl fp xe
  have pt := fun xe => ht s3 (upd H2 D (.lst [])) s3.heap.objs.size cl fp xe
  have pe := fun xe => he s3 (upd H2 D (.lst [])) s3.heap.objs.size cl fp xe
  have n0 : ∀ b ∈ fp, (upd H2 D (.lst [])) b = none := fun b hb => (f3 b hb).1.1
  unfold bX at pg pt pe
  generalize compEnvC scope cl s3.heap.objs.size X.env = ce at I4 pg pt pe cL cF ⊢
  generalize upd H2 D (.lst []) = H3 at I3 I4 pg pt pe w0 n0 f3
  have tkB := fun own => blk_takes (own := own) (use := use) (Qf := Qf) (acc := .ref D) (scope := scope) es ef tk I3 f3 cL cF
  have tkB := tkB []
  have pg := pg (notedBy (model X.prog X.w) X.A ce fun e s' => endX (model X.prog X.w) X.A X.xe use Qf (.ref D) s3.heap.objs.size X.env.frame (.error e) s')
  have pt := pt _ tkB
  have pe := pe _ tkB
  generalize e4 : ({ s3 with heap := pushCells (s3.heap.push { cls := .type "dict", data := .dict #[] }) scope.names } : Shared) = s4 at I4 ⊢
  have st4 : tn 0 s4.heap := T.keep _ _ _ st3 fun b _ o e => by rw [← e4]; exact pushCells_keeps _ _ _ _ (Heap.get?_push_of_some _ e)
  have stat : ∀ {σ' : St} {H' : Hp} {s' : Shared}, Inv (X.blk s3 H3 scope ce fp) [] σ' H' s' → (∀ b ∈ fp, H' b = none) → ∀ b ∈ fp, FpOk (X.blk s3 H3 scope ce fp) [] H' b := fun {σ' H' s'} I' hn b hb =>
    ⟨hn b hb, (I'.ok.exf b hb).1, I'.ok.exfs b hb, .inl hb, fun x c e => (I'.ok.exf b hb).2 x c e, fun p hp => absurd (show p ∈ ([] : List (Addr × Obj)) ++ [] from hp) (by simp)⟩
  have loop : codeAny (model X.prog X.w) X.A (.compLoop (.ListComp elt [⟨tg, iter, ifs, 0⟩] scope pos) 0 (.ref it) (.ref D) ce) (endX (model X.prog X.w) X.A X.xe use Qf (.ref D) s3.heap.objs.size X.env.frame) s4 := by
    refine compLoop_any (fun n s' => ∃ i H', Inv (X.blk s3 H3 scope ce fp) [] (wipe σ (own.map (·.2))) H' s' ∧ tn i s'.heap ∧ (∀ b ∈ fp, H' b = none) ∧ W i n H') ?_ m0 ⟨0, H3, I4, st4, n0, w0⟩
    rintro n s5 ⟨i, H5, I5, st5, n5, w5⟩
    rcases turn i n H5 w5 with ⟨stop, qq⟩ | ⟨go, Nx, hNx, step⟩
    · refine thnF (T.done (X.blk s3 H3 scope ce fp) rfl rfl rfl hc i [] s5 _ H5 (fun _ _ => False) I5 (stat I5 n5) st5 stop) fun r s6 ⟨hr, I6⟩ => ?_
      subst hr
      have I7 : Inv X pins σ H5 s6 := I3.call' (ch := fp) I6.os I6.base I6.hok I6.bare fun b hb => ⟨(f3 b hb).1.2.2.2.1, (f3 b hb).1.2.1, (f3 b hb).1.2.2.2.2.1, (f3 b hb).1.2.2.2.2.2⟩
      have nC : H5 s3.heap.objs.size = none := cL ▸ (I6.free : H5 ce.locals = none)
      obtain ⟨m, hn, _⟩ := I6.loc
      exact hRR D s3.heap.objs.size s6 m H5 I7 qq (cL ▸ (hn : s6.heap.Ns ce.locals m)) (I3.fpOk (Nat.le_refl _) nC)
    · refine thnF (T.item (X.blk s3 H3 scope ce fp) rfl rfl rfl hc i [] s5 _ H5 (fun _ _ => False) I5 (stat I5 n5) st5 go) fun r s6 ⟨u, hr, h6⟩ => ?_
      subst hr
      refine thnF h6 fun _ s7 ⟨x, H7, I7, r7, y7, st7, n7⟩ => ?_
      refine thn (pg.run _ s7 _ H7 x u _ ((I7.pinned (stat I7 n7) (T.obj _ _ st7)).wish _) r7 (step x H7 y7)) fun _ s8 ⟨σ8, H8, I8, hw8, q8⟩ => ?_
      refine thn (pt.run _ s8 σ8 H8 _ I8 q8) fun b s9 ⟨H9, I9, q9⟩ => ?_
      have fin : ∀ {s' : Shared} {H' : Hp}, Inv (X.blk s3 H3 scope ce fp) ([] ++ pinsAt fp s7.heap) σ8 H' s' → Nx H' → ∃ m, m < n ∧ ∃ i H', Inv (X.blk s3 H3 scope ce fp) [] (wipe σ (own.map (·.2))) H' s' ∧ tn i s'.heap ∧ (∀ b ∈ fp, H' b = none) ∧ W i m H' := fun {s' H'} I' nx => by
        obtain ⟨m', hm, w'⟩ := hNx H' nx
        have pn : ∀ b ∈ fp, ∀ o, s7.heap.get? b = some o → s'.heap.get? b = some o ∧ H' b = none := fun b hb o e => (I'.pin (b, o) (List.mem_append_right _ (List.mem_append_right _ (mem_pinsAt hb e)))).imp id And.left
        refine ⟨m', hm, i + 1, H', (I'.unpinned (pins := [])).weak (by rw [← hw8, wipe_length]) (fun j v e => by rw [← hw8] at e; exact (wipe_some e).1), T.keep _ _ _ st7 fun b hb o e => (pn b hb o e).1, fun b hb => ?_, w'⟩
        obtain ⟨o, e, _⟩ := T.obj _ _ st7 b hb
        exact (pn b hb o e).2
      cases b
      · exact fin I9.unwish q9
      · refine thn (pe.run _ s9 σ8 H9 _ I9 q9) fun z s10 ⟨yv, H10, I10, r10, acc, hD10, hz10, nx⟩ => ?_
        exact app_ok (X := (X.blk s3 H3 scope ce fp)) I10.unwish hD10 hz10 r10 fun s11 I11 => fin I11 nx
  exact codeAny_compStart_list loop (T.self X.A 0 _ _ _ st4 loop)
theorem ps_setLcX {i : Nat} {y : Str} {py : Pos} {elt tg iter : Expr} {ifs : List Expr} {scope : Scope} {own : List (Str × Nat)} {pos spos : Pos} {wi : TI} {g : TG} {tt : TT} {te : TE} (hc : X.calm = true) (es : X.stack = X.env :: X.outer) (ef : X.env.frame = some X.env.locals) (tk : Takes X fun c d _ H => E c d H) (nd : X.N.Nodup) (hy : X.N[i]? = some y) (yl : X.env.scope.names.lookup y = some .local)
    (sw : swapsWith (.ListComp elt [⟨tg, iter, ifs, 0⟩] scope pos) (some (.Name y py)) spos.line X.env = pure true) (hi : PI X tg iter wi) (ok : BlkOk X.N X.env.scope scope own)
    (hg : ∀ s H C cl fp xe, PG (bX X scope s H C cl fp xe) tg g) (ht : ∀ s H C cl fp xe, Takes (bX X scope s H C cl fp xe) (fun c d _ H => E c d H) → PTs (bX X scope s H C cl fp xe) ifs tt)
    (he : ∀ s H C cl fp xe, Takes (bX X scope s H C cl fp xe) (fun c d _ H => E c d H) → PE (bX X scope s H C cl fp xe) elt te) (hs : ∀ x, foldedSetIterable iter X.env x = pure x := by intro _; rfl) :
    PS X (.Assign [.Name y py] (.ListComp elt [⟨tg, iter, ifs, 0⟩] scope pos) spos) (tAsg (tLc wi g tt te (own.map (·.2))) (gName i)) := by
  refine ⟨fun pins s σ H D I h => ?_⟩
  rw [exec_Assign_Name_used _ _ _ _ sw]
  refine wpAny_bind (wpAny_standAt (wpAny_bind ?_))
  have h : tLc wi g tt te (own.map (·.2)) σ H (fun x H1 => gName i x σ H1 D.nx) := h
  refine wpAny_bind (thn (lc_coreX (Qf := fun _ s' => SP X pins D .next s') (use := some (assign (.Name y py) X.env)) hc es ef tk nd I hi ok hg ht he hs h fun L C s' m H' I' q hn f => ?_) fun _ s' hq => wpAny_pure (wpAny_pure hq))
  show wpAny _ _ (assign (.Name y py) X.env (.ref L)) _ _ _
  refine wpAny_assign_Name (store_ok2 (v := V.ref L) I' nd hy (.inl yl) rfl (fun s2 I2 ⟨a, sb, ha⟩ => ?_) (.inr yl))
  have nC : C ≠ a := ha.elim (fun z => by rw [z]; exact f.2.1) fun z e => f.2.2.2.2.1 y a z e.symm
  exact ⟨m, hn.sameBut sb nC, fun h3 sb3 => ⟨_, H', I2.turned (t' := s2.toks) (fun b o hb e => (sb3.2 b hb).trans e) f.1 f.2.1 f.2.2.2.1 f.2.2.2.2.1 f.2.2.2.2.2, q⟩⟩
end
end Kn
set_option Elab.async false
set_option maxRecDepth 100000
set_option linter.all false
namespace Kn
open PySem L2 PySem.Spec
end Kn
namespace Kn
open PySem L2 PySem.Spec
end Kn
set_option Elab.async false
set_option maxRecDepth 100000
set_option linter.all false
namespace Kn
open PySem L2 PySem.Spec
section
variable {prog : Program} {w : World} {A : Around} {E : Value → Shared → Prop} {s : Shared} {K : PySem.W.Frag} {x D : Addr} {ox : Obj} {od : Option Obj}
theorem find_class (C : ExcC K D) : PySem.W.findObj K D od "__class__" = some (.bind (.builtin "getset_descriptor.__get__") (.builtin "object.__class__")) := by
  obtain ⟨cd, hc, _⟩ := PySem.W.any_some C.hd
  unfold PySem.W.findObj
  rw [hc, Option.bind_some, C.ha, Option.bind_some]
  simp [C.hn, C.ht]
theorem class_of {Q : Option Value → Shared → Prop} (C : ExcC K D) (X : K.In s.heap) (I : PySem.W.InstAt s.heap x ox D od) (h : Q (some (.ref D)) { s with toks := s.toks + 1 }) : wpAny (model prog w) A (getAttr? (.ref x) "__class__") Q E s := by
  obtain ⟨hp, g, d, t, os⟩ := s
  have L0 := I.type (M := model prog w)
  have L1 := PySem.W.looks_findIn (M := model prog w) X C.hg
  have L2 := PySem.W.looks_findIn (M := model prog w) X C.hk
  have L3 := PySem.W.looks_find (M := model prog w) X I (find_class C)
  have hb : PySem.W.Looks (model prog w) hp (isInstance (.ref x) (.type "BaseException")) true := L0.andThen (PySem.W.looks_subIn X C.hs)
  have q2 : (Value.builtin "BaseException.__getattribute__" == Value.builtin "object.__getattribute__") = false := by decide +kernel
  have q1 : (onTheHeap (Value.ref D) && Value.builtin "BaseException.__getattribute__" == Value.builtin "object.__getattribute__") = false := by rw [q2]; rfl
  have q0 : (false && onTheHeap (Value.builtin "BaseException.__getattribute__")) = false := rfl
  unfold getAttr? getAttrBy? getAttrBy
  refine wpAny_bind (wpAny_mkText (wpAny_bind (wpAny_attempt (wpAny_holding (wpAny_bind (L0.at (wpAny_bind (L1.at ?k))))))))
  show wpAny _ _ (if (onTheHeap (Value.ref D) && Value.builtin "BaseException.__getattribute__" == Value.builtin "object.__getattribute__") = true then _ else _) _ _ _
  rw [q1, if_neg Bool.false_ne_true]
  unfold getAttrByItsOwn hookBefore
  have q3 : onTheHeap (Value.ref D) = true := rfl
  refine wpAny_bind ?_
  rw [if_pos q3]
  refine L2.at (wpAny_bind (wpAny_attempt (wpAny_holding ?_)))
  unfold callGetattribute; rw [q0, if_neg Bool.false_ne_true]
  unfold boundAndCalled; rw [PySem.F.excAttr_ValueError.ga.bind (.ref x)]
  refine wpAny_bind (wpAny_pure ?_)
  show wpAny _ _ (call (.builtin "BaseException.__getattribute__") [.ref x, .str "__class__" t]) _ _ _
  refine wpAny_call (codeAny_call_builtin PySem.F.excAttr_ValueError.ga.plain PySem.F.entry_bexc_ga ?_)
  refine @PySem.W.check_slot (model prog w) _ _ ⟨hp, g, d, t + 1, os⟩ "BaseException.__getattribute__" "BaseException" "__getattribute__" (.ref x) [.str "__class__" t] [] _ (by decide +kernel) (by decide +kernel) hb (PySem.F.args_bexc_ga (.ref x) (.str "__class__" t)) ?_
  unfold Builtin.«object.__getattribute__»
  refine wpAny_bind (wpAny_of_eq (a := ((Value.ref x : Value), [Value.str "__class__" t])) (by first | rfl | (simp only [slotArgs]; rfl)) (wpAny_bind (wpAny_pure (wpAny_bind (L0.at (wpAny_bind (L3.at ?_)))))))
  show wpAny _ _ (holding [Value.builtin "object.__class__"] (call (.builtin "getset_descriptor.__get__") [.builtin "object.__class__", .ref x, .ref D]) >>= ret) _ _ _
  refine wpAny_bind (wpAny_holding (wpAny_call (PySem.W.class_get (s := ⟨hp, g, d, t + 1, os⟩) (ox := ox) (od := od) X I C.hm (wpAny_pure ?_))))
  show wpAny _ _ (handedOut (.ref D)) _ _ _
  rw [PySem.W.handedOut_of (v := .ref D) rfl]
  first
    | exact wpAny_pure (wpAny_pure h)
    | exact wpAny_pure h
    | exact wpAny_pure (wpAny_bind (wpAny_pure (wpAny_pure h)))
theorem kit_exc (C : ExcC K D) : PySem.W.KitX K (.ref x) (.ref D) (fun h => PySem.W.InstAt h x ox D od) where
  ty := fun _ _ _ I => I.type
  it := fun _ _ X _ => by
    obtain ⟨cdD, hc, _⟩ := PySem.W.any_some C.hd
    unfold PySem.W.clsIn at hc
    split at hc
    · rename_i ho
      intro A' Q' E' s' k q
      unfold isType loadHead
      exact wpAny_bind (wpAny_loadPart (k _ _ (X _ _ ho)) (wpAny_pure q))
    · cases hc
  ne := fun h tp dd its n sl X htp => by
    obtain ⟨cdD, hc, _⟩ := PySem.W.any_some C.hd
    refine Bool.eq_false_iff.mpr fun q => ?_
    have e : D = tp := Value.ref.inj (beq_iff_eq.mp q)
    subst e
    unfold PySem.W.clsIn at hc
    split at hc
    · rename_i ho
      have z := (X _ _ ho).symm.trans htp
      cases z
    · cases hc
  ca := fun X I k => class_of C X I k
end
def rIsY (K : PySem.W.Frag) (cls : Value) (d : Option Addr) (a : Addr) : List V → Hp → VK → Prop := fun xs H Q => ∃ (D : Addr) (c : V) (cv : Value) (b : Bool), cls = .ref D ∧ (d = none ∨ ∃ dd fs, d = some dd ∧ H dd = some (.xd fs)) ∧ ExcC K D ∧ xs = [.ref a, c] ∧ (∀ u, RelV c u → u = cv) ∧ PySem.W.kitOne K (.ref D) cv = some b ∧ Q (.bl b) H
theorem call_isY {X : Cx} {a : Addr} {cls : Value} {d : Option Addr} {oe : Obj} {pn : List (Addr × Obj)} (K : PySem.W.Frag) (hz : Zc cls d oe) (hf : ∃ vs, oe.data = .fields vs) (hK : X.K = K := by rfl) : CallR (X.suite a ((a, oe) :: pn)) (.builtin "isinstance") (rIsY K cls d a) := by
  subst hK
  intro pins s σ H xs us Q I r h
  obtain ⟨D, c, cv, b, rfl, hd, C, rfl, hcv, e, q⟩ := h
  cases r with
  | cons rx rr =>
    cases rr with
    | cons rt rr =>
      cases rr
      cases rx
      have ec := hcv _ rt
      subst ec
      obtain ⟨hget, _⟩ := I.pin (a, oe) (List.mem_append.mpr (.inl List.mem_cons_self))
      obtain ⟨vs, hv⟩ := hf
      have nc : PySem.W.notCls oe = true := by unfold PySem.W.notCls; rw [hv] <;> rfl
      have J : ∃ od, PySem.W.InstAt s.heap a oe D od := by
        rcases hd with rfl | ⟨dd, fs, rfl, hx⟩
        · refine ⟨none, hget, hz.1, nc, ?_⟩
          rw [hz.2]; trivial
        · obtain ⟨mA, hns, hr⟩ : ObjOk X.prog X.w H s.heap dd (.xd fs) := I.hok dd _ hx
          obtain ⟨od, ho, hl⟩ := lookIn_ns hns
          refine ⟨some od, hget, hz.1, nc, ?_⟩
          rw [hz.2]; exact ho
      obtain ⟨od, J⟩ := J
      exact PySem.W.kia_one (kit_exc C) I.kIn J e (fun z => nomatch z) fun tk => ⟨.bl b, H, I.kept (t' := tk) fun _ _ z => z, rfl, q⟩
end Kn
set_option Elab.async false
set_option maxRecDepth 100000
set_option linter.all false
namespace Kn
open PySem L2 PySem.Spec
structure Cz (K : PySem.W.Frag) (C : Addr) (qual : Str) (st : Stmt) (ps : List Str) (dvs : List V) : Prop where
  ex : ∃ (f : Addr) (fd : FuncData) (ds : List Value), FunC K "__call__" qual st f fd ∧ Meth K C "__call__" f ∧ Binds K fd ps ds ∧ Vals dvs ds
structure Cq (P : Program) (w : World) (K : PySem.W.Frag) (mg : Str → Option Value) (base : Heap) (C : Addr) (k : Nat) (ps : List Str) (dvs : List V) (sp : Sp) : Prop where
  ex : ∃ (f : Addr) (fd : FuncData) (ds : List Value), FnOk P w K mg base (L2.CX P w) k f fd ps sp ∧ StX.CallO K C f ∧ Binds K fd ps ds ∧ Vals dvs ds
theorem Cz.okX {P : Program} {w : World} {K : PySem.W.Frag} {mg : Str → Option Value} {base : Heap} {C : Addr} {qual : Str} {st : Stmt} {ps N : List Str} {dvs : List V} {k : Nat} {sp : Sp} (F : Cz K C qual st ps dvs) (S : FnScope N ps (defScope st)) (len : ∀ vs H Q E, sp vs H Q E → vs.length = ps.length)
    (hbody : ∀ (f : Addr) (cdv : Value) (A : Around) (outer : List Env) (s : Shared) (H : Hp) (vs : List V) (Q : VK) (E : XK), Room k (A.deeper (PyProof.Rows.envOfC qual (defScope st) s.heap.objs.size f cdv)) → sp vs H Q E →
      ∃ t, PSs (cxOf (L2.CX P w) P w K mg base N qual (defScope st) f cdv A outer s H E) (defBody st) t ∧ t { nx := fun _ H' => Q .non H', rt := Q } (start N vs) H) : Cq P w K mg base C (k + 1) ps dvs sp := by
  obtain ⟨f, fd, ds, F1, m, b, v⟩ := F.ex
  exact ⟨f, fd, ds, F1.okX S len (hbody f), ⟨m.at_, m.fn, F1.fnIn⟩, b, v⟩
section
variable {X : Cx} {k : Nat} {C : Addr} {ps : List Str} {sp : Sp} {dvs : List V} {pos : Pos} {e fe : Expr} {es : List Expr} {tf : TE} {t : TA} {W : WX}
end
end Kn
set_option Elab.async false
set_option maxRecDepth 100000
set_option linter.all false
namespace Kn
open PySem L2 PySem.Spec
end Kn
set_option Elab.async false
set_option maxRecDepth 100000
set_option linter.all false
namespace Kn
open PySem L2
abbrev NK := NestedKey
def ndE (w : World) (x : NK × Addr × Value) : DictEntry := ⟨x.1.hash w, .ref x.2.1, x.2.2⟩
abbrev XR (p : NK × Addr × V) (q : NK × Addr × Value) : Prop := p.1 = q.1 ∧ p.2.1 = q.2.1 ∧ RelV p.2.2 q.2.2
def NdOk (w : World) (a : Addr) (o : Obj) (xs : List (NK × Addr × V)) (h : Heap) : Prop :=
  (a == sysModules) = false ∧ xs.length ≤ sizeLine ∧ h.get? a = some o ∧ o.ExactDict ∧ ∃ (es : Array DictEntry) (ep : Nat) (ys : List (NK × Addr × Value)), o.data = .dict es ep ∧ Paired XR xs ys ∧ es.toList = ys.map (ndE w) ∧ (ys.map (·.1)).Nodup
def ndO (w : World) (a : Addr) (o : Obj) (xs : List (NK × Addr × V)) : HO := .ext (NdOk w a o xs)
mutual
inductive KyV (K : PySem.W.Frag) (H : Hp) : NK → V → Prop
  | none : KyV K H .none .non
  | int (i : Int) : KyV K H (.num i) (.int i)
  | str (x : Str) : KyV K H (.text x) (.str x)
  | tup {a : Addr} {xs : List V} {ks : List NK} (h : SqT K H a xs) (t : KyL K H ks xs) : KyV K H (.tup ks) (.ref a)
inductive KyL (K : PySem.W.Frag) (H : Hp) : List NK → List V → Prop
  | nil : KyL K H [] []
  | cons {k : NK} {v : V} {ks : List NK} {vs : List V} (h : KyV K H k v) (t : KyL K H ks vs) : KyL K H (k :: ks) (v :: vs)
end
mutual
theorem KyV.is {X : Cx} {pins : List (Addr × Obj)} {σ : St} {H : Hp} {s : Shared} (I : Inv X pins σ H s) : ∀ {k : NK} {v : V} {u : Value}, KyV X.K H k v → RelV v u → NestedIs s.heap k u
  | _, _, u, .none, r => by
    obtain rfl : u = Value.none := r
    exact .none
  | _, _, u, .int i, r => by
    obtain ⟨t, rfl⟩ := (show ∃ t, u = Value.int i t from r)
    exact .int i t
  | _, _, u, .str x, r => by
    obtain ⟨t, rfl⟩ := (show ∃ t, u = Value.str x t from r)
    exact .text x t
  | _, _, u, .tup (a := a) h t, r => by
    obtain rfl : u = Value.ref a := r
    obtain ⟨its, hv, ht, _⟩ := I.tuple h
    obtain ⟨o, h1, h2, n, h3⟩ := ht
    exact .tup h1 h2 h3 (KyL.is I t (by simpa using hv))
theorem KyL.is {X : Cx} {pins : List (Addr × Obj)} {σ : St} {H : Hp} {s : Shared} (I : Inv X pins σ H s) : ∀ {ks : List NK} {vs : List V} {us : List Value}, KyL X.K H ks vs → Vals vs us → NestedAll s.heap ks us
  | _, _, _, .nil, .nil => .nil
  | _, _, _, .cons h t, .cons r q => .cons (KyV.is I h r) (KyL.is I t q)
end
def atN (xs : List (NK × Addr × V)) (k : NK) : Option V := (xs.find? fun x => decide (x.1 = k)).map (·.2.2)
def stN (xs : List (NK × Addr × V)) (k : NK) (b : Addr) (v : V) : List (NK × Addr × V) :=
  if (atN xs k).isSome then xs.map fun x => if x.1 = k then (x.1, x.2.1, v) else x else xs ++ [(k, b, v)]
theorem XR.at_ {k : NK} : ∀ {xs : List (NK × Addr × V)} {ys : List (NK × Addr × Value)}, Paired XR xs ys → RelO (atN xs k) ((atKey ys k).map (·.2))
  | _, _, .nil => True.intro
  | x :: xs, y :: ys, .cons h t => by
    have h : XR x y := h
    by_cases c : x.1 = k
    · have c2 : y.1 = k := h.1 ▸ c
      unfold atN atKey
      rw [List.find?_cons_of_pos (by simpa using c), List.find?_cons_of_pos (by simpa using c2)]
      exact h.2.2
    · have c2 : ¬ y.1 = k := h.1 ▸ c
      unfold atN atKey
      rw [List.find?_cons_of_neg (by simpa using c), List.find?_cons_of_neg (by simpa using c2)]
      exact XR.at_ t
theorem XR.some_ {k : NK} {xs : List (NK × Addr × V)} {ys : List (NK × Addr × Value)} (h : Paired XR xs ys) : (atN xs k).isSome = (atKey ys k).isSome := by
  have q := XR.at_ (k := k) h
  have e := q.isSome_eq
  rw [Option.isSome_map] at e
  exact e
theorem XR.map_ {k : NK} {v : V} {u : Value} (r : RelV v u) : ∀ {xs : List (NK × Addr × V)} {ys : List (NK × Addr × Value)}, Paired XR xs ys → Paired XR (xs.map fun x => if x.1 = k then (x.1, x.2.1, v) else x) (ys.map (putAt k u))
  | _, _, .nil => .nil
  | x :: xs, y :: ys, .cons h t => by
    rw [List.map_cons, List.map_cons]
    refine .cons ?_ (XR.map_ r t)
    have h : XR x y := h
    show XR (if x.1 = k then (x.1, x.2.1, v) else x) (putAt k u y)
    unfold putAt
    by_cases c : x.1 = k
    · have c2 : y.1 = k := h.1 ▸ c
      rw [if_pos c, if_pos c2]
      exact ⟨h.1, h.2.1, r⟩
    · have c2 : ¬ y.1 = k := h.1 ▸ c
      rw [if_neg c, if_neg c2]
      exact h
theorem XR.app {x : NK × Addr × V} {y : NK × Addr × Value} (r : XR x y) : ∀ {xs : List (NK × Addr × V)} {ys : List (NK × Addr × Value)}, Paired XR xs ys → Paired XR (xs ++ [x]) (ys ++ [y])
  | _, _, .nil => .cons r .nil
  | _, _, .cons h t => .cons h (XR.app r t)
theorem XR.put {k : NK} {b : Addr} {v : V} {u : Value} {xs : List (NK × Addr × V)} {ys : List (NK × Addr × Value)} (h : Paired XR xs ys) (r : RelV v u) : Paired XR (stN xs k b v) (storedH ys k b u) := by
  unfold stN storedH
  rw [XR.some_ h]
  split
  · exact XR.map_ r h
  · exact XR.app ⟨rfl, rfl, r⟩ h
section
variable {X : Cx} {pins : List (Addr × Obj)} {σ : St} {H : Hp} {s : Shared} {a : Addr} {o : Obj} {xs : List (NK × Addr × V)}
end
section
variable {X : Cx} {o i e value : Expr} {pos pos' tpos : Pos} {td ty tv : TE} {K : PySem.W.Frag} {w : World} {n : Nat}
end
section
variable {X : Cx} {pos : Pos} {n : Nat}
end
theorem XR.get {xs : List (NK × Addr × V)} {ys : List (NK × Addr × Value)} (h : Paired XR xs ys) {i : Nat} {y : NK × Addr × Value} (e : ys[i]? = some y) : ∃ v, xs[i]? = some (y.1, y.2.1, v) := by
  induction h generalizing i with
  | nil => simp at e
  | @cons x y' xs ys r t ih =>
    have r : XR x y' := r
    cases i with
    | zero =>
      simp only [List.getElem?_cons_zero, Option.some.injEq] at e
      subst e
      exact ⟨x.2.2, by rw [← r.1, ← r.2.1]; rfl⟩
    | succ j =>
      simp only [List.getElem?_cons_succ] at e ⊢
      exact ih e
end Kn
set_option Elab.async false
set_option maxRecDepth 100000
set_option linter.all false
namespace Kn
open PySem L2
end Kn
set_option Elab.async false
set_option maxRecDepth 100000
set_option linter.all false
namespace Kn
open PySem L2
inductive D where
  | non | bl (b : Bool) | int (i : Int) | str (x : Str) | ty (n : String)
  | tup (ds : List D) | lst (ds : List D) | dct (ks : List (Key × D)) | obj (C : Addr) (fs : List (Str × D))
  | ref (a : Addr) | tape | scr | exc (a C : Addr) (d : Option Addr) (fs : List (Str × D))
mutual
inductive Dv (K : PySem.W.Frag) (Tp : Addr → Prop) (H : Hp) : V → D → Prop
  | non : Dv K Tp H .non .non
  | bl (b : Bool) : Dv K Tp H (.bl b) (.bl b)
  | int (i : Int) : Dv K Tp H (.int i) (.int i)
  | str (x : Str) : Dv K Tp H (.str x) (.str x)
  | ty (n : String) : Dv K Tp H (.ty n) (.ty n)
  | tup {a : Addr} {xs : List V} {ds : List D} (h : SqT K H a xs) (t : DvL K Tp H xs ds) : Dv K Tp H (.ref a) (.tup ds)
  | lst {a : Addr} {xs : List V} {ds : List D} (h : H a = some (.lst xs)) (t : DvL K Tp H xs ds) : Dv K Tp H (.ref a) (.lst ds)
  | dct {a : Addr} {xs : List (Key × V)} {ks : List (Key × D)} (h : Rd H a (.dK xs)) (t : DvK K Tp H xs ks) : Dv K Tp H (.ref a) (.dct ks)
  | obj {a C dx : Addr} {xs : List (Str × V)} {fs : List (Str × D)} (h : H a = some (.ins C dx xs)) (t : DvF K Tp H xs fs) : Dv K Tp H (.ref a) (.obj C fs)
  | ref (a : Addr) : Dv K Tp H (.ref a) (.ref a)
  | tape {t : Addr} (h : Tp t) : Dv K Tp H (.ref t) .tape
  | scr {a : Addr} {ns : List Int} (h : SqL K H a (ns.map V.int)) (hl : ns.length ≤ 63) : Dv K Tp H (.ref a) .scr
  | exc0 (a C : Addr) : Dv K Tp H (.ref a) (.exc a C none [])
  | exc1 {a C b : Addr} {vs : List (Str × V)} {fs : List (Str × D)} (h : H b = some (.xd vs)) (t : DvF K Tp H vs fs) : Dv K Tp H (.ref a) (.exc a C (some b) fs)
inductive DvL (K : PySem.W.Frag) (Tp : Addr → Prop) (H : Hp) : List V → List D → Prop
  | nil : DvL K Tp H [] []
  | cons {v : V} {d : D} {vs : List V} {ds : List D} (h : Dv K Tp H v d) (t : DvL K Tp H vs ds) : DvL K Tp H (v :: vs) (d :: ds)
inductive DvK (K : PySem.W.Frag) (Tp : Addr → Prop) (H : Hp) : List (Key × V) → List (Key × D) → Prop
  | nil : DvK K Tp H [] []
  | cons {k : Key} {v : V} {d : D} {vs : List (Key × V)} {ds : List (Key × D)} (h : Dv K Tp H v d) (t : DvK K Tp H vs ds) : DvK K Tp H ((k, v) :: vs) ((k, d) :: ds)
inductive DvF (K : PySem.W.Frag) (Tp : Addr → Prop) (H : Hp) : List (Str × V) → List (Str × D) → Prop
  | nil : DvF K Tp H [] []
  | cons {k : Str} {v : V} {d : D} {vs : List (Str × V)} {ds : List (Str × D)} (h : Dv K Tp H v d) (t : DvF K Tp H vs ds) : DvF K Tp H ((k, v) :: vs) ((k, d) :: ds)
end
def Lq (H H' : Hp) : Prop := ∀ b o, H b = some o → H' b = some o ∨ ∃ kvs, (o = .dK kvs ∨ ∃ od, o = .frz od (.dK kvs)) ∧ Rd H' b (.dK kvs)
theorem Same.lq {H H' : Hp} (e : Same H H') : Lq H H' := fun b o h => .inl (e b o h)
theorem Lq.refl (H : Hp) : Lq H H := fun b o h => .inl h
theorem Lq.tup {H H' : Hp} (e : Lq H H') {a : Addr} {xs : List V} (h : Rd H a (.tup xs)) : Rd H' a (.tup xs) := by
  rcases h with h | ⟨o, h⟩
  · rcases e _ _ h with h | ⟨k, h | ⟨_, h⟩, _⟩
    · exact .inl h
    · cases h
    · cases h
  · rcases e _ _ h with h | ⟨k, h | ⟨_, h⟩, _⟩
    · exact .inr ⟨o, h⟩
    · cases h
    · cases h
theorem Lq.dct {H H' : Hp} (e : Lq H H') {a : Addr} {xs : List (Key × V)} (h : Rd H a (.dK xs)) : Rd H' a (.dK xs) := by
  rcases h with h | ⟨o, h⟩
  · rcases e _ _ h with h | ⟨k, h | ⟨_, h⟩, r⟩
    · exact .inl h
    · cases h; exact r
    · cases h
  · rcases e _ _ h with h | ⟨k, h | ⟨_, h⟩, r⟩
    · exact .inr ⟨o, h⟩
    · cases h
    · cases h; exact r
theorem Lq.lst {H H' : Hp} (e : Lq H H') {a : Addr} {xs : List V} (h : H a = some (.lst xs)) : H' a = some (.lst xs) := by
  rcases e _ _ h with h | ⟨k, h | ⟨_, h⟩, r⟩
  · exact h
  · cases h
  · cases h
theorem Lq.lstR {H H' : Hp} (e : Lq H H') {a : Addr} {xs : List V} (h : Rd H a (.lst xs)) : Rd H' a (.lst xs) := by
  rcases h with h | ⟨o, h⟩
  · rcases e _ _ h with h | ⟨k, h | ⟨_, h⟩, _⟩
    · exact .inl h
    · cases h
    · cases h
  · rcases e _ _ h with h | ⟨k, h | ⟨_, h⟩, _⟩
    · exact .inr ⟨o, h⟩
    · cases h
    · cases h
theorem Lq.ins {H H' : Hp} (e : Lq H H') {a C dx : Addr} {xs : List (Str × V)} (h : H a = some (.ins C dx xs)) : H' a = some (.ins C dx xs) := by
  rcases e _ _ h with h | ⟨k, h | ⟨_, h⟩, r⟩
  · exact h
  · cases h
  · cases h
theorem Lq.xd {H H' : Hp} (e : Lq H H') {a : Addr} {xs : List (Str × V)} (h : H a = some (.xd xs)) : H' a = some (.xd xs) := by
  rcases e _ _ h with h | ⟨k, h | ⟨_, h⟩, r⟩
  · exact h
  · cases h
  · cases h
section
variable {K : PySem.W.Frag} {Tp Tp' : Addr → Prop} {H H' : Hp}
mutual
theorem Dv.le (e : Lq H H') (et : ∀ t, Tp t → Tp' t) : ∀ {v : V} {d : D}, Dv K Tp H v d → Dv K Tp' H' v d
  | _, _, .non => .non
  | _, _, .bl b => .bl b
  | _, _, .int i => .int i
  | _, _, .str x => .str x
  | _, _, .ty n => .ty n
  | _, _, .tup h t => .tup (match h with | .inl h => .inl (e.tup h) | .inr h => .inr h) (DvL.le e et t)
  | _, _, .lst h t => .lst (e.lst h) (DvL.le e et t)
  | _, _, .dct h t => .dct (e.dct h) (DvK.le e et t)
  | _, _, .obj h t => .obj (e.ins h) (DvF.le e et t)
  | _, _, .ref a => .ref a
  | _, _, .tape h => .tape (et _ h)
  | _, _, .scr h hl => .scr (match h with | .inl h => .inl (e.lstR h) | .inr h => .inr h) hl
  | _, _, .exc0 a C => .exc0 a C
  | _, _, .exc1 h t => .exc1 (e.xd h) (DvF.le e et t)
theorem DvL.le (e : Lq H H') (et : ∀ t, Tp t → Tp' t) : ∀ {v : List V} {d : List D}, DvL K Tp H v d → DvL K Tp' H' v d
  | _, _, .nil => .nil
  | _, _, .cons h t => .cons (Dv.le e et h) (DvL.le e et t)
theorem DvK.le (e : Lq H H') (et : ∀ t, Tp t → Tp' t) : ∀ {v : List (Key × V)} {d : List (Key × D)}, DvK K Tp H v d → DvK K Tp' H' v d
  | _, _, .nil => .nil
  | _, _, .cons h t => .cons (Dv.le e et h) (DvK.le e et t)
theorem DvF.le (e : Lq H H') (et : ∀ t, Tp t → Tp' t) : ∀ {v : List (Str × V)} {d : List (Str × D)}, DvF K Tp H v d → DvF K Tp' H' v d
  | _, _, .nil => .nil
  | _, _, .cons h t => .cons (Dv.le e et h) (DvF.le e et t)
end
theorem DvL.len : ∀ {vs : List V} {ds : List D}, DvL K Tp H vs ds → vs.length = ds.length
  | _, _, .nil => rfl
  | _, _, .cons _ t => by simp [DvL.len t]
theorem DvK.len : ∀ {vs : List (Key × V)} {ds : List (Key × D)}, DvK K Tp H vs ds → vs.length = ds.length
  | _, _, .nil => rfl
  | _, _, .cons _ t => by simp [DvK.len t]
theorem DvF.len : ∀ {vs : List (Str × V)} {ds : List (Str × D)}, DvF K Tp H vs ds → vs.length = ds.length
  | _, _, .nil => rfl
  | _, _, .cons _ t => by simp [DvF.len t]
theorem DvL.get : ∀ {vs : List V} {ds : List D} {i : Nat} {d : D}, DvL K Tp H vs ds → ds[i]? = some d → ∃ v, vs[i]? = some v ∧ Dv K Tp H v d
  | _, _, _, _, .nil, e => by simp at e
  | _, _, 0, _, .cons h _, e => by simp at e; subst e; exact ⟨_, rfl, h⟩
  | _, _, i + 1, d, .cons _ a, e => by
    obtain ⟨v, h1, h2⟩ := DvL.get (i := i) (d := d) a (by simpa using e)
    exact ⟨v, by simpa using h1, h2⟩
theorem DvL.app : ∀ {vs ws : List V} {ds es : List D}, DvL K Tp H vs ds → DvL K Tp H ws es → DvL K Tp H (vs ++ ws) (ds ++ es)
  | _, _, _, _, .nil, h => h
  | _, _, _, _, .cons g a, h => .cons g (DvL.app a h)
theorem DvL.take : ∀ (n : Nat) {vs : List V} {ds : List D}, DvL K Tp H vs ds → DvL K Tp H (vs.take n) (ds.take n)
  | 0, _, _, _ => by simp; exact .nil
  | _ + 1, _, _, .nil => .nil
  | n + 1, _, _, .cons h a => .cons h (DvL.take n a)
theorem DvL.drop : ∀ (n : Nat) {vs : List V} {ds : List D}, DvL K Tp H vs ds → DvL K Tp H (vs.drop n) (ds.drop n)
  | 0, _, _, a => a
  | _ + 1, _, _, .nil => .nil
  | n + 1, _, _, .cons _ a => DvL.drop n a
theorem DvL.rev : ∀ {vs : List V} {ds : List D}, DvL K Tp H vs ds → DvL K Tp H vs.reverse ds.reverse
  | _, _, .nil => .nil
  | _, _, .cons h a => by
    rw [List.reverse_cons, List.reverse_cons]
    exact DvL.app (DvL.rev a) (.cons h .nil)
theorem DvL.ints_inv : ∀ {ns : List Int} {vs : List V}, DvL K Tp H vs (ns.map D.int) → vs = ns.map V.int
  | [], _, .nil => rfl
  | n :: ns, _, .cons (.int _) a => by rw [DvL.ints_inv a]; rfl
theorem DvL.ints : ∀ (ns : List Int), DvL K Tp H (ns.map V.int) (ns.map D.int)
  | [] => .nil
  | n :: ns => .cons (.int n) (DvL.ints ns)
theorem DvL.bls_inv : ∀ {ns : List Bool} {vs : List V}, DvL K Tp H vs (ns.map D.bl) → vs = ns.map V.bl
  | [], _, .nil => rfl
  | n :: ns, _, .cons (.bl _) a => by rw [DvL.bls_inv a]; rfl
theorem DvL.strs : ∀ (ns : List Str), DvL K Tp H (ns.map V.str) (ns.map D.str)
  | [] => .nil
  | n :: ns => .cons (.str n) (DvL.strs ns)
def look {κ : Type} [DecidableEq κ] : List (κ × D) → κ → Option D
  | [], _ => none
  | p :: l, k => if p.1 = k then some p.2 else look l k
theorem DvK.look_some : ∀ {vs : List (Key × V)} {ds : List (Key × D)} {k : Key} {d : D}, DvK K Tp H vs ds → look ds k = some d → ∃ v, valV vs k = some v ∧ Dv K Tp H v d
  | _, _, _, _, .nil, e => by simp [look] at e
  | (k', v) :: vs, _, k, d, .cons h a, e => by
    by_cases c : k' = k
    · rw [look, if_pos c] at e; cases e
      exact ⟨v, valV_pos (p := (k', v)) c, h⟩
    · rw [look, if_neg c] at e
      obtain ⟨w, h1, h2⟩ := DvK.look_some a e
      exact ⟨w, by rw [valV_neg (p := (k', v)) c]; exact h1, h2⟩
theorem DvK.look_none : ∀ {vs : List (Key × V)} {ds : List (Key × D)} {k : Key}, DvK K Tp H vs ds → look ds k = none → valV vs k = none
  | _, _, _, .nil, e => rfl
  | (k', v) :: vs, _, k, .cons h a, e => by
    by_cases c : k' = k
    · rw [look, if_pos c] at e; cases e
    · rw [look, if_neg c] at e
      rw [valV_neg (p := (k', v)) c]; exact DvK.look_none a e
def put (ks : List (Key × D)) (k : Key) (x : D) : List (Key × D) := if (ks.any fun p => decide (p.1 = k)) = true then ks.map fun p => if p.1 = k then (p.1, x) else p else ks ++ [(k, x)]
theorem DvK.any : ∀ {vs : List (Key × V)} {ds : List (Key × D)} (k : Key), DvK K Tp H vs ds → (vs.any fun p => decide (p.1 = k)) = ds.any fun p => decide (p.1 = k)
  | _, _, _, .nil => rfl
  | _, _, k, .cons _ a => by rw [List.any_cons, List.any_cons, DvK.any k a]
theorem DvK.mapPut : ∀ {vs : List (Key × V)} {ds : List (Key × D)} {k : Key} {v : V} {d : D}, DvK K Tp H vs ds → Dv K Tp H v d → DvK K Tp H (vs.map fun p => if p.1 = k then (p.1, v) else p) (ds.map fun p => if p.1 = k then (p.1, d) else p)
  | _, _, _, _, _, .nil, _ => .nil
  | (k', v') :: vs, (_, d') :: ds, k, v, d, .cons h a, g => by
    rw [List.map_cons, List.map_cons]
    by_cases c : k' = k
    · rw [if_pos c, if_pos c]; exact .cons g (DvK.mapPut a g)
    · rw [if_neg c, if_neg c]; exact .cons h (DvK.mapPut a g)
theorem DvK.snoc : ∀ {vs : List (Key × V)} {ds : List (Key × D)} {k : Key} {v : V} {d : D}, DvK K Tp H vs ds → Dv K Tp H v d → DvK K Tp H (vs ++ [(k, v)]) (ds ++ [(k, d)])
  | _, _, _, _, _, .nil, g => .cons g .nil
  | _, _, _, _, _, .cons h a, g => .cons h (DvK.snoc a g)
theorem DvK.put {vs : List (Key × V)} {ds : List (Key × D)} {k : Key} {v : V} {d : D} (a : DvK K Tp H vs ds) (g : Dv K Tp H v d) : DvK K Tp H (putK vs k v) (put ds k d) := by
  unfold putK Kn.put
  rw [a.any k]
  split
  · exact a.mapPut g
  · exact a.snoc g
def putFd (f : Str) (x : D) : List (Str × D) → List (Str × D)
  | [] => [(f, x)]
  | p :: r => if p.1 = f then (p.1, x) :: r else p :: putFd f x r
theorem DvF.put {f : Str} {v : V} {d : D} (g : Dv K Tp H v d) : ∀ {vs : List (Str × V)} {ds : List (Str × D)}, DvF K Tp H vs ds → DvF K Tp H (putF f v vs) (putFd f d ds)
  | _, _, .nil => .cons g .nil
  | (k, x) :: vs, _, .cons (d := y) (ds := es) h a => by
    show DvF K Tp H (if k = f then (k, v) :: vs else (k, x) :: putF f v vs) (if k = f then (k, d) :: es else (k, y) :: putFd f d es)
    by_cases c : k = f
    · rw [if_pos c, if_pos c]; exact .cons g a
    · rw [if_neg c, if_neg c]; exact .cons h (DvF.put g a)
theorem valV_look : ∀ {vs : List (Key × V)} {ds : List (Key × D)} {k : Key}, DvK K Tp H vs ds → (valV vs k).isSome = (look ds k).isSome
  | vs, ds, k, h => by
    cases e : look ds k with
    | none => rw [DvK.look_none h e]; rfl
    | some d => obtain ⟨v, h1, _⟩ := DvK.look_some h e; rw [h1]; rfl
theorem DvF.look_some : ∀ {vs : List (Str × V)} {ds : List (Str × D)} {k : Str} {d : D}, DvF K Tp H vs ds → look ds k = some d → ∃ v, vs.lookup k = some v ∧ Dv K Tp H v d
  | _, _, _, _, .nil, e => by simp [look] at e
  | (k', v) :: vs, _, k, d, .cons h a, e => by
    by_cases c : k' = k
    · rw [look, if_pos c] at e; cases e
      subst c
      exact ⟨v, by rw [List.lookup_cons_self], h⟩
    · rw [look, if_neg c] at e
      obtain ⟨w, h1, h2⟩ := DvF.look_some a e
      refine ⟨w, ?_, h2⟩
      rw [List.lookup_cons, beq_eq_false_iff_ne.mpr (fun z => c z.symm)]; exact h1
theorem DvF.look_none : ∀ {vs : List (Str × V)} {ds : List (Str × D)} {k : Str}, DvF K Tp H vs ds → look ds k = none → vs.lookup k = none
  | _, _, _, .nil, e => rfl
  | (k', v) :: vs, _, k, .cons h a, e => by
    by_cases c : k' = k
    · rw [look, if_pos c] at e; cases e
    · rw [look, if_neg c] at e
      rw [List.lookup_cons, beq_eq_false_iff_ne.mpr (fun z => c z.symm)]; exact DvF.look_none a e
end
end Kn
set_option Elab.async false
set_option maxRecDepth 100000
set_option linter.all false
set_option autoImplicit false
namespace Kn
open PySem L2
open Classical in
noncomputable def Hd (U : Addr → Prop) (H : Hp) : Hp := fun b => if U b then none else H b
theorem Hd.get {U : Addr → Prop} {H : Hp} {b : Addr} {o : HO} (h : H b = some o) (n : ¬ U b) : Hd U H b = some o := by unfold Hd; rw [if_neg n]; exact h
theorem Hd.of {U : Addr → Prop} {H : Hp} {b : Addr} {o : HO} (h : Hd U H b = some o) : H b = some o ∧ ¬ U b := by
  unfold Hd at h
  by_cases c : U b
  · rw [if_pos c] at h; cases h
  · rw [if_neg c] at h; exact ⟨h, c⟩
theorem Hd.sub {U : Addr → Prop} {H : Hp} : Same (Hd U H) H := fun b o h => (Hd.of h).1
mutual
def kD : NK → D
  | .none => .non
  | .num i => .int i
  | .text x => .str x
  | .tup ks => .tup (kDs ks)
def kDs : List NK → List D
  | [] => []
  | k :: ks => kD k :: kDs ks
end
inductive DvN (K : PySem.W.Frag) (Tp : Addr → Prop) (H : Hp) : List (NK × Addr × V) → List (NK × D) → Prop
  | nil : DvN K Tp H [] []
  | cons {k : NK} {q : Addr} {v : V} {d : D} {xs : List (NK × Addr × V)} {ks : List (NK × D)} (hk : Dv K Tp H (.ref q) (kD k)) (hd : k.depth ≤ 8) (h : Dv K Tp H v d) (t : DvN K Tp H xs ks) : DvN K Tp H ((k, q, v) :: xs) ((k, d) :: ks)
theorem DvN.le {K : PySem.W.Frag} {Tp Tp' : Addr → Prop} {H H' : Hp} (e : Lq H H') (et : ∀ t, Tp t → Tp' t) : ∀ {xs : List (NK × Addr × V)} {ks : List (NK × D)}, DvN K Tp H xs ks → DvN K Tp' H' xs ks
  | _, _, .nil => .nil
  | _, _, .cons hk hd h t => .cons (Dv.le e et hk) hd (Dv.le e et h) (DvN.le e et t)
inductive Cell where
  | ins (C : Addr) (fs : List (Str × D)) | lst (ds : List D) | dct (ks : List (Key × D)) | lk (od : Obj) (vs : List (Key × V)) (ks : List (Key × D))
  | dtn (w : World) (o : Obj) (ks : List (NK × D))
structure Wd where
  Tp : Addr → Prop
  ω : Addr → Option Cell
def Cell.isMut : Cell → Prop
  | .lk _ _ _ => False
  | _ => True
def Wd.mt (W : Wd) (b : Addr) : Prop := W.Tp b ∨ ∃ c, W.ω b = some c ∧ c.isMut
def CellOk (K : PySem.W.Frag) (Tp U : Addr → Prop) (H : Hp) (a : Addr) : Cell → Prop
  | .ins C fs => ∃ dx vs, H a = some (.ins C dx vs) ∧ DvF K Tp (Hd U H) vs fs
  | .lst ds => ∃ vs, H a = some (.lst vs) ∧ DvL K Tp (Hd U H) vs ds
  | .dct ks => ∃ vs, H a = some (.dK vs) ∧ DvK K Tp (Hd U H) vs ks
  | .lk od vs ks => H a = some (.frz od (.dK vs)) ∧ DvK K Tp (Hd U H) vs ks
  | .dtn w o ks => ∃ xs, H a = some (ndO w a o xs) ∧ DvN K Tp (Hd U H) xs ks
structure Rw (K : PySem.W.Frag) (U : Addr → Prop) (W : Wd) (H : Hp) : Prop where
  dom : ∀ b, U b → H b ≠ none
  tape : ∀ t, W.Tp t → U t ∧ Tape H t ∧ W.ω t = none
  cell : ∀ a c, W.ω a = some c → U a ∧ CellOk K W.Tp U H a c
structure Ent where
  U : Addr → Prop
  W : Wd
  H : Hp
def Kp (U : Addr → Prop) (b : Addr) (o : HO) (x : Option HO) : Prop := x = some o ∨ (¬ U b ∧ ∃ kvs od, o = .dK kvs ∧ x = some (.frz od (.dK kvs)))
theorem Kp.hid {U : Addr → Prop} {b : Addr} {o : HO} {x : Option HO} (h : Kp U b o x) (u : U b) : x = some o := h.resolve_right fun z => z.1 u
theorem Kp.frz {U : Addr → Prop} {b : Addr} {od : Obj} {w : HO} {x : Option HO} (h : Kp U b (.frz od w) x) : x = some (.frz od w) := h.resolve_right fun ⟨_, _, _, z, _⟩ => by cases z
structure Fr (e : Ent) (U : Addr → Prop) (W : Wd) (H : Hp) : Prop where
  keep : ∀ b o, e.H b = some o → ¬ e.W.mt b → Kp e.U b o (H b)
  up : ∀ b, e.U b → U b
  new : ∀ b, U b → e.U b ∨ e.H b = none
  wnew : ∀ b, W.Tp b ∨ (∃ c, W.ω b = some c) → (e.W.Tp b ∨ ∃ c, e.W.ω b = some c) ∨ e.H b = none
  tp : ∀ b, e.W.Tp b → W.Tp b
  there : ∀ b, e.H b ≠ none → H b ≠ none
  lk : ∀ b c, e.W.ω b = some c → ¬ c.isMut → W.ω b = some c
theorem Wd.mt_w {W : Wd} {b : Addr} (h : W.mt b) : W.Tp b ∨ ∃ c, W.ω b = some c := by
  rcases h with h | ⟨c, h, _⟩
  · exact .inl h
  · exact .inr ⟨c, h⟩
theorem Rw.hid {K : PySem.W.Frag} {U : Addr → Prop} {W : Wd} {H : Hp} (r : Rw K U W H) {b : Addr} (h : W.Tp b ∨ ∃ c, W.ω b = some c) : U b := by
  rcases h with h | ⟨c, h⟩
  · exact (r.tape b h).1
  · exact (r.cell b c h).1
theorem Fr.refl (U : Addr → Prop) (W : Wd) (H : Hp) : Fr ⟨U, W, H⟩ U W H := ⟨fun _ _ h _ => .inl h, fun _ h => h, fun _ h => .inl h, fun _ h => .inl h, fun _ h => h, fun _ h => h, fun _ _ h _ => h⟩
theorem Fr.lq {K : PySem.W.Frag} {U U' : Addr → Prop} {W W' : Wd} {H H' : Hp} (r : Rw K U W H) (f : Fr ⟨U, W, H⟩ U' W' H') : Lq (Hd U H) (Hd U' H') := fun b o h => by
  obtain ⟨h, n⟩ := Hd.of h
  have nu : ¬ U' b := fun u => by
    rcases f.new b u with z | z
    · exact n z
    · have z : H b = none := z
      rw [h] at z; cases z
  rcases f.keep b o h fun m => n (r.hid (Wd.mt_w m)) with q | ⟨_, kvs, od, rfl, q⟩
  · exact .inl (Hd.get q nu)
  · exact .inr ⟨kvs, .inl rfl, .inr ⟨od, Hd.get q nu⟩⟩
theorem Fr.trans {K : PySem.W.Frag} {e : Ent} {U U' : Addr → Prop} {W W' : Wd} {H H' : Hp} (f : Fr e U W H) (g : Fr ⟨U, W, H⟩ U' W' H') (r : Rw K U W H) : Fr e U' W' H' where
  keep := fun b o h n => by
    have nm : ¬ W.mt b := fun m => by
      rcases f.wnew b (Wd.mt_w m) with z | z
      · rcases z with z | ⟨c, z⟩
        · exact n (.inl z)
        · by_cases q : c.isMut
          · exact n (.inr ⟨c, z, q⟩)
          · have := f.lk b c z q
            rcases m with m | ⟨c', m, q'⟩
            · rw [(r.tape b m).2.2] at this; cases this
            · rw [this] at m; cases m; exact q q'
      · rw [h] at z; cases z
    rcases f.keep b o h n with q | ⟨nu, kvs, od, rfl, q⟩
    · rcases g.keep b o q nm with z | ⟨nu, z⟩
      · exact .inl z
      · exact .inr ⟨fun u => nu (f.up b u), z⟩
    · exact .inr ⟨nu, kvs, od, rfl, (g.keep b _ q nm).frz⟩
  up := fun b h => g.up b (f.up b h)
  new := fun b h => by
    rcases g.new b h with z | z
    · exact f.new b z
    · refine .inr ?_
      cases e1 : e.H b with
      | none => rfl
      | some o => exact absurd z (f.there b (by rw [e1]; intro q; cases q))
  wnew := fun b h => by
    rcases g.wnew b h with z | z
    · exact f.wnew b z
    · refine .inr ?_
      cases e1 : e.H b with
      | none => rfl
      | some o => exact absurd z (f.there b (by rw [e1]; intro q; cases q))
  tp := fun b h => g.tp b (f.tp b h)
  there := fun b h => g.there b (f.there b h)
  lk := fun b c h n => g.lk b c (f.lk b c h n) n
inductive PC where
  | val (d : D) | ownL (ds : List D) | ownD (ks : List (Key × D))
structure PSt where
  ρ : List (Option PC)
  W : Wd
inductive Rv where
  | d (d : D) | own (j : Nat)
inductive Tm where
  | v (v : V) (r : Rv) | pin (b : Addr) (o : Obj) (w : HO) | nw (l : Addr) (ds : List D)
structure Ow (e : Ent) (U : Addr → Prop) (W : Wd) (l : Addr) : Prop where
  u : U l
  e0 : e.H l = none
  tp : ¬ W.Tp l
  w : W.ω l = none
def SlotOk (K : PySem.W.Frag) (e : Ent) (U : Addr → Prop) (W : Wd) (H : Hp) (v : V) : PC → Prop
  | .val d => Dv K W.Tp (Hd U H) v d
  | .ownL ds => ∃ l vs, v = .ref l ∧ Ow e U W l ∧ H l = some (.lst vs) ∧ DvL K W.Tp (Hd U H) vs ds
  | .ownD ks => ∃ l vs, v = .ref l ∧ Ow e U W l ∧ H l = some (.dK vs) ∧ DvK K W.Tp (Hd U H) vs ks
def PC.isOwn : PC → Prop
  | .val _ => False
  | _ => True
def NoSlot (σ : St) (S : PSt) (l : Addr) : Prop := ∀ (i : Nat) (c : PC), S.ρ[i]? = some (some c) → c.isOwn → σ[i]? ≠ some (some (.ref l))
def NoTm (T : List Tm) (l : Addr) : Prop := ∀ ds, Tm.nw l ds ∉ T
def TmOk (K : PySem.W.Frag) (e : Ent) (U : Addr → Prop) (S : PSt) (H : Hp) (σ : St) : Tm → Prop
  | .v v (.d d) => Dv K S.W.Tp (Hd U H) v d
  | .v v (.own j) => σ[j]? = some (some v)
  | .pin b o w => ¬ U b ∧ H b = some (.frz o w)
  | .nw l ds => Ow e U S.W l ∧ NoSlot σ S l ∧ ∃ vs, H l = some (.lst vs) ∧ DvL K S.W.Tp (Hd U H) vs ds
structure RU (K : PySem.W.Frag) (e : Ent) (σ : St) (H : Hp) (S : PSt) (T : List Tm) (U : Addr → Prop) : Prop where
  wo : Rw K U S.W H
  fr : Fr e U S.W H
  ed : ∀ b, e.U b → e.H b ≠ none
  len : σ.length = S.ρ.length
  slot : ∀ (i : Nat) (c : PC), S.ρ[i]? = some (some c) → ∃ v, σ[i]? = some (some v) ∧ SlotOk K e U S.W H v c
  sep : ∀ (i j : Nat) (c c' : PC) (l : Addr), i ≠ j → S.ρ[i]? = some (some c) → c.isOwn → S.ρ[j]? = some (some c') → c'.isOwn → σ[i]? = some (some (.ref l)) → σ[j]? = some (some (.ref l)) → False
  tmp : ∀ p ∈ T, TmOk K e U S H σ p
def R (K : PySem.W.Frag) (e : Ent) (σ : St) (H : Hp) (S : PSt) (T : List Tm) : Prop := ∃ U, RU K e σ H S T U
section
variable {K : PySem.W.Frag} {e : Ent} {σ : St} {H H' : Hp} {S : PSt} {T : List Tm} {U U' : Addr → Prop} {W' : Wd}
theorem Ow.to (g : Fr ⟨U, S.W, H⟩ U' W' H') {l : Addr} {u : HO} (o : Ow e U S.W l) (h2 : H l = some u) : Ow e U' W' l ∧ H' l = some u := by
  have nm : ¬ S.W.mt l := fun m => by
    rcases m with m | ⟨c, m, _⟩
    · exact o.tp m
    · rw [o.w] at m; cases m
  have nw : ¬ (W'.Tp l ∨ ∃ c, W'.ω l = some c) := fun m => by
    rcases g.wnew l m with z | z
    · rcases z with z | ⟨c, z⟩
      · exact o.tp z
      · have z : S.W.ω l = some c := z
        rw [o.w] at z; cases z
    · have z : H l = none := z
      rw [h2] at z; cases z
  refine ⟨⟨g.up l o.u, o.e0, fun z => nw (.inl z), ?_⟩, (g.keep l _ h2 nm).hid o.u⟩
  cases q : W'.ω l with
  | none => rfl
  | some c => exact (nw (.inr ⟨c, q⟩)).elim
theorem SlotOk.to (r : Rw K U S.W H) (g : Fr ⟨U, S.W, H⟩ U' W' H') {v : V} : ∀ {c : PC}, SlotOk K e U S.W H v c → SlotOk K e U' W' H' v c
  | .val d, h => Dv.le (g.lq r) g.tp h
  | .ownL ds, ⟨l, vs, h1, o, h2, h3⟩ => let ⟨a, b⟩ := Ow.to g o h2; ⟨l, vs, h1, a, b, DvL.le (g.lq r) g.tp h3⟩
  | .ownD ks, ⟨l, vs, h1, o, h2, h3⟩ => let ⟨a, b⟩ := Ow.to g o h2; ⟨l, vs, h1, a, b, DvK.le (g.lq r) g.tp h3⟩
theorem TmOk.to (r : Rw K U S.W H) (g : Fr ⟨U, S.W, H⟩ U' W' H') : ∀ {p : Tm}, TmOk K e U S H σ p → TmOk K e U' ⟨S.ρ, W'⟩ H' σ p
  | .v v (.d d), h => Dv.le (g.lq r) g.tp h
  | .v v (.own j), h => h
  | .pin b o w, ⟨n, h⟩ => by
      refine ⟨fun u => ?_, (g.keep b _ h fun m => n (r.hid (Wd.mt_w m))).frz⟩
      rcases g.new b u with z | z
      · exact n z
      · have z : H b = none := z
        rw [h] at z; cases z
  | .nw l ds, ⟨o, ns, vs, h2, h3⟩ => let ⟨a, b⟩ := Ow.to g o h2; ⟨a, ns, vs, b, DvL.le (g.lq r) g.tp h3⟩
theorem RU.to (x : RU K e σ H S T U) (r' : Rw K U' W' H') (g : Fr ⟨U, S.W, H⟩ U' W' H') : RU K e σ H' ⟨S.ρ, W'⟩ T U' where
  wo := r'
  fr := x.fr.trans g x.wo
  ed := x.ed
  len := x.len
  slot := fun i c h => let ⟨v, h1, h2⟩ := x.slot i c h; ⟨v, h1, h2.to x.wo g⟩
  sep := x.sep
  tmp := fun p hp => (x.tmp p hp).to x.wo g
theorem RU.less {T' : List Tm} (x : RU K e σ H S T U) (h : ∀ p ∈ T', p ∈ T) : RU K e σ H S T' U := { x with tmp := fun p hp => x.tmp p (h p hp) }
theorem R.less {T' : List Tm} (x : R K e σ H S T) (h : ∀ p ∈ T', p ∈ T) : R K e σ H S T' := let ⟨U, x⟩ := x; ⟨U, x.less h⟩
theorem R.pop {p : Tm} (x : R K e σ H S (p :: T)) : R K e σ H S T := x.less fun _ h => List.mem_cons_of_mem _ h
theorem RU.push (x : RU K e σ H S T U) {p : Tm} (h : TmOk K e U S H σ p) : RU K e σ H S (p :: T) U := by
  refine { x with tmp := fun q hq => ?_ }
  rcases List.mem_cons.mp hq with rfl | hq
  · exact h
  · exact x.tmp q hq
theorem same_upd {U : Addr → Prop} {H : Hp} {p : Addr} {o : HO} (hp : H p = none) : Same (Hd U H) (Hd U (upd H p o)) := fun b u h => by
  obtain ⟨h, n⟩ := Hd.of h
  exact Hd.get (by rw [upd_ne (ne_of_none h hp)]; exact h) n
theorem CellOk.le {Tp Tp' : Addr → Prop} {a : Addr} (e1 : Lq (Hd U H) (Hd U' H')) (et : ∀ t, Tp t → Tp' t) (ha : ∀ o, H a = some o → H' a = some o) : ∀ {c : Cell}, CellOk K Tp U H a c → CellOk K Tp' U' H' a c
  | .ins C fs, ⟨dx, vs, h1, h2⟩ => ⟨dx, vs, ha _ h1, DvF.le e1 et h2⟩
  | .lst ds, ⟨vs, h1, h2⟩ => ⟨vs, ha _ h1, DvL.le e1 et h2⟩
  | .dct ks, ⟨vs, h1, h2⟩ => ⟨vs, ha _ h1, DvK.le e1 et h2⟩
  | .lk od vs ks, ⟨h1, h2⟩ => ⟨ha _ h1, DvK.le e1 et h2⟩
  | .dtn w o ks, ⟨xs, h1, h2⟩ => ⟨xs, ha _ h1, DvN.le e1 et h2⟩
theorem Tape.le {t : Addr} (ha : ∀ o, H t = some o → H' t = some o) (h : Tape H t) : Tape H' t := let ⟨ns, h⟩ := h; ⟨ns, ha _ h⟩
theorem Rw.alloc {W : Wd} {p : Addr} {o : HO} (r : Rw K U W H) (hp : H p = none) : Rw K U W (upd H p o) where
  dom := fun b u => by
    by_cases c : b = p
    · subst c; exact absurd hp (r.dom b u)
    · rw [upd_ne c]; exact r.dom b u
  tape := fun t h => let ⟨a, b, c⟩ := r.tape t h; ⟨a, b.le fun o q => by rw [upd_ne (ne_of_none q hp)]; exact q, c⟩
  cell := fun a c h => let ⟨u, q⟩ := r.cell a c h; ⟨u, q.le (Same.lq (same_upd hp)) (fun _ z => z) fun o q => by rw [upd_ne (ne_of_none q hp)]; exact q⟩
theorem Fr.alloc {W : Wd} {p : Addr} {o : HO} (hp : H p = none) : Fr ⟨U, W, H⟩ U W (upd H p o) where
  keep := fun b u h _ => by rw [upd_ne (ne_of_none h hp)]; exact .inl h
  up := fun _ h => h
  new := fun _ h => .inl h
  wnew := fun _ h => .inl h
  tp := fun _ h => h
  there := fun b h => by
    by_cases c : b = p
    · subst c; exact absurd hp h
    · rw [upd_ne c]; exact h
  lk := fun _ _ h _ => h
theorem RU.alloc (x : RU K e σ H S T U) {p : Addr} {o : HO} (hp : H p = none) : RU K e σ (upd H p o) S T U := x.to (x.wo.alloc hp) (Fr.alloc hp)
theorem RU.fresh (x : RU K e σ H S T U) {p : Addr} (hp : H p = none) : ¬ U p := fun u => x.wo.dom p u hp
theorem RU.free0 (x : RU K e σ H S T U) {p : Addr} (hp : H p = none) : e.H p = none := by
  cases q : e.H p with
  | none => rfl
  | some o => exact absurd hp (x.fr.there p (by rw [q]; intro z; cases z))
theorem RU.setVal (x : RU K e σ H S T U) {i : Nat} {v : V} {d : D} (h : Dv K S.W.Tp (Hd U H) v d) (ht : ∀ p ∈ T, ∀ w, p ≠ .v w (.own i)) : RU K e (σ.set i (some v)) H ⟨S.ρ.set i (some (.val d)), S.W⟩ T U where
  wo := x.wo
  fr := x.fr
  ed := x.ed
  len := by simp [x.len]
  slot := fun j c hj => by
    rw [List.getElem?_set] at hj ⊢
    by_cases q : i = j
    · subst q
      rw [if_pos rfl] at hj ⊢
      by_cases z : i < S.ρ.length
      · rw [if_pos z] at hj
        cases hj
        rw [if_pos (by rw [x.len]; exact z)]
        exact ⟨v, rfl, h⟩
      · rw [if_neg z] at hj; cases hj
    · rw [if_neg q] at hj ⊢
      exact x.slot j c hj
  sep := fun j k c c' l n hj oj hk ok sj sk => by
    rw [List.getElem?_set] at hj hk sj sk
    by_cases q : i = j
    · subst q
      rw [if_pos rfl] at hj
      split at hj
      · cases hj; exact oj
      · cases hj
    · by_cases q2 : i = k
      · subst q2
        rw [if_pos rfl] at hk
        split at hk
        · cases hk; exact ok
        · cases hk
      · rw [if_neg q] at hj sj
        rw [if_neg q2] at hk sk
        exact x.sep j k c c' l n hj oj hk ok sj sk
  tmp := fun p hp => by
    have := x.tmp p hp
    match p, this, ht p hp with
    | .v w (.d d), h, _ => exact h
    | .v w (.own j), h, n =>
      show (σ.set i (some v))[j]? = some (some w)
      have z : i ≠ j := fun z => n w (by rw [z])
      rw [List.getElem?_set, if_neg z]; exact h
    | .pin b o w, h, _ => exact h
    | .nw l ds, ⟨o, ns, h⟩, _ =>
      refine ⟨o, fun j c hj oc => ?_, h⟩
      have hj : (S.ρ.set i (some (.val d)))[j]? = some (some c) := hj
      show (σ.set i (some v))[j]? ≠ _
      rw [List.getElem?_set] at hj ⊢
      by_cases q : i = j
      · rw [if_pos q] at hj
        split at hj
        · cases hj; exact oc.elim
        · cases hj
      · rw [if_neg q] at hj ⊢
        exact ns j c hj oc
theorem Hd.lock {a : Addr} {od : Obj} {xs : List (Key × V)} (h : H a = some (.dK xs)) (n : ¬ U a) : Lq (Hd U H) (Hd U (upd H a (.frz od (.dK xs)))) := fun b o q => by
  obtain ⟨q, nb⟩ := Hd.of q
  by_cases c : b = a
  · subst c
    rw [h] at q; cases q
    exact .inr ⟨xs, .inl rfl, .inr ⟨od, Hd.get upd_same nb⟩⟩
  · exact .inl (Hd.get (by rw [upd_ne c]; exact q) nb)
theorem Rw.lock {W : Wd} {a : Addr} {od : Obj} {xs : List (Key × V)} (r : Rw K U W H) (h : H a = some (.dK xs)) (n : ¬ U a) : Rw K U W (upd H a (.frz od (.dK xs))) where
  dom := fun b u => by
    by_cases c : b = a
    · subst c; rw [upd_same]; intro z; cases z
    · rw [upd_ne c]; exact r.dom b u
  tape := fun t ht => let ⟨a1, b, c⟩ := r.tape t ht; ⟨a1, b.le fun o q => by rw [upd_ne (show t ≠ a from fun z => n (z ▸ a1))]; exact q, c⟩
  cell := fun b c hc => let ⟨u, q⟩ := r.cell b c hc; ⟨u, q.le (Hd.lock h n) (fun _ z => z) fun o q => by rw [upd_ne (show b ≠ a from fun z => n (z ▸ u))]; exact q⟩
theorem Fr.lock {W : Wd} {a : Addr} {od : Obj} {xs : List (Key × V)} (h : H a = some (.dK xs)) (n : ¬ U a) : Fr ⟨U, W, H⟩ U W (upd H a (.frz od (.dK xs))) where
  keep := fun b o q _ => by
    by_cases c : b = a
    · subst c
      have q : H b = some o := q
      rw [h] at q; cases q
      exact .inr ⟨n, xs, od, rfl, upd_same⟩
    · exact .inl (by rw [upd_ne c]; exact q)
  up := fun _ h => h
  new := fun _ h => .inl h
  wnew := fun _ h => .inl h
  tp := fun _ h => h
  there := fun b q => by
    by_cases c : b = a
    · subst c; rw [upd_same]; intro z; cases z
    · rw [upd_ne c]; exact q
  lk := fun _ _ h _ => h
theorem RU.lock (x : RU K e σ H S T U) {a : Addr} {od : Obj} {xs : List (Key × V)} (h : H a = some (.dK xs)) (n : ¬ U a) : RU K e σ (upd H a (.frz od (.dK xs))) S (.pin a od (.dK xs) :: T) U := (x.to (x.wo.lock h n) (Fr.lock h n)).push ⟨n, upd_same⟩
end
end Kn
set_option Elab.async false
set_option maxRecDepth 100000
set_option linter.all false
set_option autoImplicit false
namespace Kn
open PySem L2
section
variable {K : PySem.W.Frag} {e : Ent} {σ : St} {H H' : Hp} {S : PSt} {T : List Tm} {U U' : Addr → Prop} {W' : Wd}
theorem Hd.less {l : Addr} : Same (Hd U H) (Hd (fun b => U b ∧ b ≠ l) H) := fun b o h => by
  obtain ⟨h, n⟩ := Hd.of h
  exact Hd.get h fun z => n z.1
theorem Rw.less {W : Wd} {l : Addr} (r : Rw K U W H) (tp : ¬ W.Tp l) (w : W.ω l = none) : Rw K (fun b => U b ∧ b ≠ l) W H where
  dom := fun b u => r.dom b u.1
  tape := fun t h => let ⟨a, b, c⟩ := r.tape t h; ⟨⟨a, fun z => tp (z ▸ h)⟩, b, c⟩
  cell := fun a c h => let ⟨u, q⟩ := r.cell a c h; ⟨⟨u, fun z => by rw [z, w] at h; cases h⟩, q.le (Same.lq Hd.less) (fun _ z => z) fun o q => q⟩
theorem SlotOk.less {W : Wd} {l : Addr} {v : V} : ∀ {c : PC}, (c.isOwn → v ≠ .ref l) → SlotOk K e U W H v c → SlotOk K e (fun b => U b ∧ b ≠ l) W H v c
  | .val d, _, h => Dv.le (Same.lq Hd.less) (fun _ z => z) h
  | .ownL ds, n, ⟨m, vs, h1, o, h2, h3⟩ => ⟨m, vs, h1, ⟨⟨o.u, fun z => n trivial (by rw [h1, z])⟩, o.e0, o.tp, o.w⟩, h2, DvL.le (Same.lq Hd.less) (fun _ z => z) h3⟩
  | .ownD ds, n, ⟨m, vs, h1, o, h2, h3⟩ => ⟨m, vs, h1, ⟨⟨o.u, fun z => n trivial (by rw [h1, z])⟩, o.e0, o.tp, o.w⟩, h2, DvK.le (Same.lq Hd.less) (fun _ z => z) h3⟩
theorem TmOk.less {l : Addr} : ∀ {p : Tm}, (∀ ds, p ≠ .nw l ds) → TmOk K e U S H σ p → TmOk K e (fun b => U b ∧ b ≠ l) S H σ p
  | .v v (.d d), _, h => Dv.le (Same.lq Hd.less) (fun _ z => z) h
  | .v v (.own j), _, h => h
  | .pin b o w, _, ⟨n, h⟩ => ⟨fun z => n z.1, h⟩
  | .nw m ds, n, ⟨o, ns, vs, h, h2⟩ => ⟨⟨⟨o.u, fun z => n ds (by rw [z])⟩, o.e0, o.tp, o.w⟩, ns, vs, h, DvL.le (Same.lq Hd.less) (fun _ z => z) h2⟩
theorem NoTm.ne {l : Addr} (h : NoTm T l) : ∀ p ∈ T, ∀ ds, p ≠ .nw l ds := fun p hp ds z => h ds (z ▸ hp)
theorem RU.thaw (x : RU K e σ H S T U) {l : Addr} (o : Ow e U S.W l) (ns : NoSlot σ S l) (nt : NoTm T l) : RU K e σ H S T (fun b => U b ∧ b ≠ l) where
  wo := x.wo.less o.tp o.w
  fr := { x.fr with
    up := fun b h => ⟨x.fr.up b h, fun z => x.ed b h (z ▸ o.e0)⟩
    new := fun b h => x.fr.new b h.1 }
  ed := x.ed
  len := x.len
  slot := fun i c h => by
    obtain ⟨v, h1, h2⟩ := x.slot i c h
    exact ⟨v, h1, h2.less fun q z => ns i c h q (by rw [h1, z])⟩
  sep := x.sep
  tmp := fun p hp => (x.tmp p hp).less (nt.ne p hp)
structure RN (K : PySem.W.Frag) (e : Ent) (σ : St) (H : Hp) (S : PSt) (T : List Tm) (l : Addr) (ds : List D) : Prop where
  ex : ∃ U vs, RU K e σ H S T U ∧ Ow e U S.W l ∧ NoSlot σ S l ∧ NoTm T l ∧ H l = some (.lst vs) ∧ DvL K S.W.Tp (Hd U H) vs ds
structure RNd (K : PySem.W.Frag) (e : Ent) (σ : St) (H : Hp) (S : PSt) (T : List Tm) (l : Addr) (ks : List (Key × D)) : Prop where
  ex : ∃ U vs, RU K e σ H S T U ∧ Ow e U S.W l ∧ NoSlot σ S l ∧ NoTm T l ∧ H l = some (.dK vs) ∧ DvK K S.W.Tp (Hd U H) vs ks
theorem RN.frozen {l : Addr} {ds : List D} (x : RN K e σ H S T l ds) : R K e σ H S (.v (.ref l) (.d (.lst ds)) :: T) := by
  obtain ⟨U, vs, x, o, ns, nt, h, hv⟩ := x.ex
  exact ⟨_, (x.thaw o ns nt).push (.lst (Hd.get h fun z => z.2 rfl) (DvL.le (Same.lq Hd.less) (fun _ z => z) hv))⟩
theorem RNd.frozen {l : Addr} {ks : List (Key × D)} (x : RNd K e σ H S T l ks) : R K e σ H S (.v (.ref l) (.d (.dct ks)) :: T) := by
  obtain ⟨U, vs, x, o, ns, nt, h, hv⟩ := x.ex
  exact ⟨_, (x.thaw o ns nt).push (.dct (.inl (Hd.get h fun z => z.2 rfl)) (DvK.le (Same.lq Hd.less) (fun _ z => z) hv))⟩
theorem Hd.more {p : Addr} {o : HO} (hp : H p = none) : Same (Hd U H) (Hd (fun b => U b ∨ b = p) (upd H p o)) := fun b u h => by
  obtain ⟨h, n⟩ := Hd.of h
  have nb := ne_of_none h hp
  exact Hd.get (by rw [upd_ne nb]; exact h) fun z => z.elim n nb
theorem Rw.more {W : Wd} {p : Addr} {o : HO} (r : Rw K U W H) (hp : H p = none) : Rw K (fun b => U b ∨ b = p) W (upd H p o) where
  dom := fun b u => by
    by_cases c : b = p
    · subst c; rw [upd_same]; intro z; cases z
    · rw [upd_ne c]; exact r.dom b (u.resolve_right c)
  tape := fun t h => let ⟨a, b, c⟩ := r.tape t h; ⟨.inl a, b.le fun o q => by rw [upd_ne (ne_of_none q hp)]; exact q, c⟩
  cell := fun a c h => let ⟨u, q⟩ := r.cell a c h; ⟨.inl u, q.le (Same.lq (Hd.more hp)) (fun _ z => z) fun o q => by rw [upd_ne (ne_of_none q hp)]; exact q⟩
theorem Fr.more {W : Wd} {p : Addr} {o : HO} (hp : H p = none) : Fr ⟨U, W, H⟩ (fun b => U b ∨ b = p) W (upd H p o) where
  keep := fun b u h _ => by rw [upd_ne (ne_of_none h hp)]; exact .inl h
  up := fun _ h => .inl h
  new := fun b h => h.elim .inl fun z => .inr (z ▸ hp)
  wnew := fun _ h => .inl h
  tp := fun _ h => h
  there := fun b h => by
    by_cases c : b = p
    · subst c; exact absurd hp h
    · rw [upd_ne c]; exact h
  lk := fun _ _ h _ => h
theorem RU.moreU (x : RU K e σ H S T U) {p : Addr} {o : HO} (hp : H p = none) : RU K e σ (upd H p o) S T (fun b => U b ∨ b = p) ∧ Ow e (fun b => U b ∨ b = p) S.W p ∧ NoSlot σ S p ∧ NoTm T p := by
  have nU := x.fresh hp
  have ntp : ¬ S.W.Tp p := fun h => nU (x.wo.hid (.inl h))
  have nw : S.W.ω p = none := by
    cases q : S.W.ω p with
    | none => rfl
    | some c => exact (nU (x.wo.hid (.inr ⟨c, q⟩))).elim
  refine ⟨x.to (x.wo.more hp) (Fr.more hp), ⟨.inr rfl, x.free0 hp, ntp, nw⟩, fun i c h oc z => ?_, fun ds hm => ?_⟩
  rotate_left
  · obtain ⟨o, _⟩ := x.tmp _ hm
    exact nU o.u
  obtain ⟨v, h1, h2⟩ := x.slot i c h
  rw [h1] at z; cases z
  match c, oc, h2 with
  | .ownL ds, _, ⟨l, vs, e1, o1, _⟩ => cases e1; exact nU o1.u
  | .ownD ds, _, ⟨l, vs, e1, o1, _⟩ => cases e1; exact nU o1.u
theorem RU.newL (x : RU K e σ H S T U) {p : Addr} {vs : List V} {ds : List D} (hp : H p = none) (hv : DvL K S.W.Tp (Hd U H) vs ds) : RN K e σ (upd H p (.lst vs)) S T p ds := by
  obtain ⟨a, b, c, f⟩ := x.moreU (o := .lst vs) hp
  exact ⟨_, vs, a, b, c, f, upd_same, DvL.le (Same.lq (Hd.more hp)) (fun _ z => z) hv⟩
def NoOwn (T : List Tm) : Prop := ∀ p ∈ T, ∀ w j, p ≠ .v w (.own j)
theorem RU.setOwn (x : RU K e σ H S T U) {i : Nat} {l : Addr} {c : PC} (h : SlotOk K e U S.W H (.ref l) c) (ns : NoSlot σ S l) (nt : NoTm T l) (ht : NoOwn T) : RU K e (σ.set i (some (.ref l))) H ⟨S.ρ.set i (some c), S.W⟩ T U where
  wo := x.wo
  fr := x.fr
  ed := x.ed
  len := by simp [x.len]
  slot := fun j c' hj => by
    rw [List.getElem?_set] at hj ⊢
    by_cases q : i = j
    · subst q
      rw [if_pos rfl] at hj ⊢
      by_cases z : i < S.ρ.length
      · rw [if_pos z] at hj
        cases hj
        rw [if_pos (by rw [x.len]; exact z)]
        exact ⟨_, rfl, h⟩
      · rw [if_neg z] at hj; cases hj
    · rw [if_neg q] at hj ⊢
      exact x.slot j c' hj
  sep := fun j k c1 c2 m n hj oj hk ok sj sk => by
    rw [List.getElem?_set] at hj hk sj sk
    by_cases q : i = j
    · subst q
      rw [if_neg n] at hk sk
      rw [if_pos rfl] at sj
      split at sj
      · cases sj; exact ns k c2 hk ok sk
      · cases sj
    · rw [if_neg q] at hj sj
      by_cases q2 : i = k
      · subst q2
        rw [if_pos rfl] at sk
        split at sk
        · cases sk; exact ns j c1 hj oj sj
        · cases sk
      · rw [if_neg q2] at hk sk
        exact x.sep j k c1 c2 m n hj oj hk ok sj sk
  tmp := fun p hp => by
    have := x.tmp p hp
    match p, this, ht p hp with
    | .v w (.d d), h, _ => exact h
    | .v w (.own j), h, n => exact (n w j rfl).elim
    | .pin b o w, h, _ => exact h
    | .nw m ds, ⟨o, ms, h⟩, _ =>
      refine ⟨o, fun j c' hj oc => ?_, h⟩
      have hj : (S.ρ.set i (some c))[j]? = some (some c') := hj
      show (σ.set i (some (.ref l)))[j]? ≠ _
      rw [List.getElem?_set] at hj ⊢
      by_cases q : i = j
      · rw [if_pos q]
        split
        · intro z; cases z; exact nt ds hp
        · intro z; cases z
      · rw [if_neg q] at hj ⊢
        exact ms j c' hj oc
theorem RN.slot {l : Addr} {ds : List D} (x : RN K e σ H S T l ds) (i : Nat) (ht : NoOwn T) : R K e (σ.set i (some (.ref l))) H ⟨S.ρ.set i (some (.ownL ds)), S.W⟩ T := by
  obtain ⟨U, vs, x, o, ns, nt, h, hv⟩ := x.ex
  exact ⟨U, x.setOwn ⟨l, vs, rfl, o, h, hv⟩ ns nt ht⟩
theorem RNd.slot {l : Addr} {ks : List (Key × D)} (x : RNd K e σ H S T l ks) (i : Nat) (ht : NoOwn T) : R K e (σ.set i (some (.ref l))) H ⟨S.ρ.set i (some (.ownD ks)), S.W⟩ T := by
  obtain ⟨U, vs, x, o, ns, nt, h, hv⟩ := x.ex
  exact ⟨U, x.setOwn ⟨l, vs, rfl, o, h, hv⟩ ns nt ht⟩
theorem RU.freeze (x : RU K e σ H S T U) {j : Nat} {l : Addr} {c : PC} (hc : S.ρ[j]? = some (some c)) (oc : c.isOwn) (hs : σ[j]? = some (some (.ref l))) (o : Ow e U S.W l) {d : D} (hd : Dv K S.W.Tp (Hd (fun b => U b ∧ b ≠ l) H) (.ref l) d) :
    RU K e σ H ⟨S.ρ.set j (some (.val d)), S.W⟩ T (fun b => U b ∧ b ≠ l) where
  wo := x.wo.less o.tp o.w
  fr := { x.fr with
    up := fun b h => ⟨x.fr.up b h, fun z => x.ed b h (z ▸ o.e0)⟩
    new := fun b h => x.fr.new b h.1 }
  ed := x.ed
  len := by simp [x.len]
  slot := fun i c' h => by
    rw [List.getElem?_set] at h
    by_cases q : j = i
    · subst q
      rw [if_pos rfl] at h
      split at h
      · cases h; exact ⟨_, hs, hd⟩
      · cases h
    · rw [if_neg q] at h
      obtain ⟨v, h1, h2⟩ := x.slot i c' h
      exact ⟨v, h1, h2.less fun oc' z => x.sep j i c c' l q hc oc h oc' hs (by rw [h1, z])⟩
  sep := fun i k c1 c2 m n hi oi hk ok si sk => by
    rw [List.getElem?_set] at hi hk
    by_cases q : j = i
    · rw [if_pos q] at hi
      split at hi
      · cases hi; exact oi
      · cases hi
    · rw [if_neg q] at hi
      by_cases q2 : j = k
      · rw [if_pos q2] at hk
        split at hk
        · cases hk; exact ok
        · cases hk
      · rw [if_neg q2] at hk
        exact x.sep i k c1 c2 m n hi oi hk ok si sk
  tmp := fun p hp => by
    have h := x.tmp p hp
    have n : ∀ ds, p ≠ .nw l ds := fun ds z => by
      subst z
      exact h.2.1 j c hc oc hs
    have h := h.less n
    match p, h with
    | .v v (.d d), h => exact h
    | .v v (.own j), h => exact h
    | .pin b o w, h => exact h
    | .nw m ds, ⟨o, ms, h⟩ =>
      refine ⟨o, fun i c' hi oc' => ?_, h⟩
      have hi : (S.ρ.set j (some (.val d)))[i]? = some (some c') := hi
      rw [List.getElem?_set] at hi
      by_cases q : j = i
      · rw [if_pos q] at hi
        split at hi
        · cases hi; exact oc'.elim
        · cases hi
      · rw [if_neg q] at hi
        exact ms i c' hi oc'
end
end Kn
set_option Elab.async false
set_option maxRecDepth 100000
set_option linter.all false
set_option autoImplicit false
namespace Kn
open PySem L2
section
variable {K : PySem.W.Frag} {e : Ent} {σ : St} {H H' : Hp} {S : PSt} {T : List Tm} {U U' : Addr → Prop} {W' : Wd}
theorem Hd.upd {l : Addr} {o : HO} (u : U l) : Same (Hd U H) (Hd U (L2.upd H l o)) := fun b q h => by
  obtain ⟨h, n⟩ := Hd.of h
  exact Hd.get (by rw [upd_ne (show b ≠ _ from fun z => n (z ▸ u))]; exact h) n
theorem Rw.upd {W : Wd} {l : Addr} {o : HO} (r : Rw K U W H) (u : U l) (tp : ¬ W.Tp l) (w : W.ω l = none) : Rw K U W (L2.upd H l o) where
  dom := fun b h => by
    by_cases c : b = l
    · subst c; rw [upd_same]; intro z; cases z
    · rw [upd_ne c]; exact r.dom b h
  tape := fun t h => let ⟨a, b, c⟩ := r.tape t h; ⟨a, b.le fun o q => by rw [upd_ne (show t ≠ l from fun z => tp (z ▸ h))]; exact q, c⟩
  cell := fun a c h => let ⟨u', q⟩ := r.cell a c h; ⟨u', q.le (Same.lq (Hd.upd u)) (fun _ z => z) fun o q => by rw [upd_ne (show a ≠ l from fun z => by rw [z, w] at h; cases h)]; exact q⟩
theorem Fr.upd (x : Fr e U S.W H) {l : Addr} {o : HO} (h0 : e.H l = none ∨ e.W.mt l) : Fr e U S.W (L2.upd H l o) := { x with
  keep := fun b q h n => by
    have nb : b ≠ l := fun z => by
      rcases h0 with h0 | h0
      · rw [z, h0] at h; cases h
      · exact n (z ▸ h0)
    rw [upd_ne nb]; exact x.keep b q h n
  there := fun b h => by
    by_cases c : b = l
    · subst c; rw [upd_same]; intro z; cases z
    · rw [upd_ne c]; exact x.there b h }
theorem SlotOk.upd {W : Wd} {l : Addr} {o : HO} {v : V} (u : U l) : ∀ {c : PC}, (c.isOwn → v ≠ .ref l) → SlotOk K e U W H v c → SlotOk K e U W (L2.upd H l o) v c
  | .val d, _, h => Dv.le (Same.lq (Hd.upd u)) (fun _ z => z) h
  | .ownL ds, n, ⟨m, vs, h1, ow, h2, h3⟩ => ⟨m, vs, h1, ow, by rw [upd_ne (show m ≠ l from fun z => n trivial (by rw [h1, z]))]; exact h2, DvL.le (Same.lq (Hd.upd u)) (fun _ z => z) h3⟩
  | .ownD ds, n, ⟨m, vs, h1, ow, h2, h3⟩ => ⟨m, vs, h1, ow, by rw [upd_ne (show m ≠ l from fun z => n trivial (by rw [h1, z]))]; exact h2, DvK.le (Same.lq (Hd.upd u)) (fun _ z => z) h3⟩
theorem TmOk.upd {l : Addr} {o : HO} (u : U l) : ∀ {p : Tm}, (∀ ds, p ≠ .nw l ds) → TmOk K e U S H σ p → TmOk K e U S (L2.upd H l o) σ p
  | .v v (.d d), _, h => Dv.le (Same.lq (Hd.upd u)) (fun _ z => z) h
  | .v v (.own j), _, h => h
  | .nw m ds, n, ⟨ow, ns, vs, h, h2⟩ => ⟨ow, ns, vs, by rw [upd_ne (show m ≠ l from fun z => n ds (by rw [z]))]; exact h, DvL.le (Same.lq (Hd.upd u)) (fun _ z => z) h2⟩
  | .pin b o w, _, ⟨n, h⟩ => ⟨n, by rw [upd_ne (show b ≠ _ from fun z => n (z ▸ u))]; exact h⟩
theorem RU.updN (x : RU K e σ H S T U) {l : Addr} {o : HO} (ow : Ow e U S.W l) (ns : NoSlot σ S l) (nt : NoTm T l) : RU K e σ (L2.upd H l o) S T U where
  wo := x.wo.upd ow.u ow.tp ow.w
  fr := x.fr.upd (.inl ow.e0)
  ed := x.ed
  len := x.len
  slot := fun i c h => let ⟨v, h1, h2⟩ := x.slot i c h; ⟨v, h1, h2.upd ow.u fun q z => ns i c h q (by rw [h1, z])⟩
  sep := x.sep
  tmp := fun p hp => (x.tmp p hp).upd ow.u (nt.ne p hp)
theorem RN.tail {T1 : List Tm} {l : Addr} {ds : List D} (x : RN K e σ H S (T1 ++ T) l ds) : RN K e σ H S T l ds := by
  obtain ⟨U, vs, x, ow, ns, nt, h, hv⟩ := x.ex
  exact ⟨U, vs, x.less fun p hp => List.mem_append_right _ hp, ow, ns, fun ds hm => nt ds (List.mem_append_right _ hm), h, hv⟩
theorem RN.app {l : Addr} {ds : List D} {v : V} {d : D} (x : RN K e σ H S (.v v (.d d) :: T) l ds) : ∃ vs, H l = some (.lst vs) ∧ vs.length = ds.length ∧ RN K e σ (L2.upd H l (.lst (vs ++ [v]))) S T l (ds ++ [d]) := by
  obtain ⟨U, vs, x, ow, ns, nt, h, hv⟩ := x.ex
  have nt' : NoTm T l := fun ds hm => nt ds (List.mem_cons_of_mem _ hm)
  refine ⟨vs, h, hv.len, U, vs ++ [v], (x.less fun p hp => List.mem_cons_of_mem _ hp).updN ow ns nt', ow, ns, nt', upd_same, ?_⟩
  refine DvL.le (Same.lq (Hd.upd ow.u)) (fun _ z => z) (hv.app (.cons ?_ .nil))
  exact x.tmp (.v v (.d d)) (by simp)
theorem RU.updO (x : RU K e σ H S T U) {j : Nat} {l : Addr} {o : HO} {c c' : PC} (hc : S.ρ[j]? = some (some c)) (oc : c.isOwn) (oc' : c'.isOwn) (hs : σ[j]? = some (some (.ref l))) (ow : Ow e U S.W l) (hn : SlotOk K e U S.W (L2.upd H l o) (.ref l) c') :
    RU K e σ (L2.upd H l o) ⟨S.ρ.set j (some c'), S.W⟩ T U where
  wo := x.wo.upd ow.u ow.tp ow.w
  fr := x.fr.upd (.inl ow.e0)
  ed := x.ed
  len := by simp [x.len]
  slot := fun i k h => by
    rw [List.getElem?_set] at h
    by_cases q : j = i
    · subst q
      rw [if_pos rfl] at h
      split at h
      · cases h; exact ⟨_, hs, hn⟩
      · cases h
    · rw [if_neg q] at h
      obtain ⟨v, h1, h2⟩ := x.slot i k h
      exact ⟨v, h1, h2.upd ow.u fun ok z => x.sep j i c k l q hc oc h ok hs (by rw [h1, z])⟩
  sep := fun i k c1 c2 m n hi oi hk ok si sk => by
    rw [List.getElem?_set] at hi hk
    by_cases q : j = i
    · subst q
      rw [if_neg n] at hk
      exact x.sep j k c c2 m n hc oc hk ok si sk
    · rw [if_neg q] at hi
      by_cases q2 : j = k
      · subst q2
        exact x.sep i j c1 c m n hi oi hc oc si sk
      · rw [if_neg q2] at hk
        exact x.sep i k c1 c2 m n hi oi hk ok si sk
  tmp := fun p hp => by
    have h := x.tmp p hp
    have n : ∀ ds, p ≠ .nw l ds := fun ds z => by
      subst z
      exact h.2.1 j c hc oc hs
    have h := h.upd (o := o) ow.u n
    match p, h with
    | .v v (.d d), h => exact h
    | .v v (.own j), h => exact h
    | .pin b o w, h => exact h
    | .nw m ds, ⟨om, ms, h⟩ =>
      refine ⟨om, fun i c1 hi oc1 => ?_, h⟩
      have hi : (S.ρ.set j (some c'))[i]? = some (some c1) := hi
      rw [List.getElem?_set] at hi
      by_cases q : j = i
      · subst q
        exact ms j c hc oc
      · rw [if_neg q] at hi
        exact ms i c1 hi oc1
theorem RU.ownL (x : RU K e σ H S T U) {j : Nat} {ds : List D} (hc : S.ρ[j]? = some (some (.ownL ds))) : ∃ l vs, σ[j]? = some (some (.ref l)) ∧ Ow e U S.W l ∧ H l = some (.lst vs) ∧ DvL K S.W.Tp (Hd U H) vs ds := by
  obtain ⟨v, h1, l, vs, rfl, h2⟩ := x.slot j _ hc
  exact ⟨l, vs, h1, h2⟩
theorem RU.ownD (x : RU K e σ H S T U) {j : Nat} {ds : List (Key × D)} (hc : S.ρ[j]? = some (some (.ownD ds))) : ∃ l vs, σ[j]? = some (some (.ref l)) ∧ Ow e U S.W l ∧ H l = some (.dK vs) ∧ DvK K S.W.Tp (Hd U H) vs ds := by
  obtain ⟨v, h1, l, vs, rfl, h2⟩ := x.slot j _ hc
  exact ⟨l, vs, h1, h2⟩
open Classical in
noncomputable def Wd.put (W : Wd) (a : Addr) (c : Cell) : Wd := ⟨W.Tp, fun b => if b = a then some c else W.ω b⟩
theorem Wd.put_same {W : Wd} {a : Addr} {c : Cell} : (W.put a c).ω a = some c := by unfold Wd.put; simp
theorem Wd.put_ne {W : Wd} {a b : Addr} {c : Cell} (h : b ≠ a) : (W.put a c).ω b = W.ω b := by unfold Wd.put; simp [h]
theorem RU.updC (x : RU K e σ H S T U) {a : Addr} {o : HO} {c c' : Cell} (hc : S.W.ω a = some c) (mc : c.isMut) (hn : CellOk K S.W.Tp U (L2.upd H a o) a c') : RU K e σ (L2.upd H a o) ⟨S.ρ, S.W.put a c'⟩ T U := by
  have u := (x.wo.cell a c hc).1
  have h0 : e.H a = none ∨ e.W.mt a := by
    rcases x.fr.wnew a (.inr ⟨c, hc⟩) with (z | ⟨c0, z⟩) | z
    · exact .inr (.inl z)
    · by_cases q : c0.isMut
      · exact .inr (.inr ⟨c0, z, q⟩)
      · have := x.fr.lk a c0 z q
        rw [hc] at this; cases this; exact (q mc).elim
    · exact .inl z
  have f1 : Fr e U (S.W.put a c') (L2.upd H a o) := by
    have f := x.fr.upd (o := o) h0
    exact { f with
      wnew := fun b h => by
        by_cases q : b = a
        · subst q; exact x.fr.wnew b (.inr ⟨c, hc⟩)
        · refine x.fr.wnew b ?_
          rcases h with h | ⟨c1, h⟩
          · exact .inl h
          · rw [Wd.put_ne q] at h; exact .inr ⟨c1, h⟩
      lk := fun b c1 h n => by
        by_cases q : b = a
        · subst q
          have := x.fr.lk b c1 h n
          rw [hc] at this; cases this; exact (n mc).elim
        · rw [Wd.put_ne q]; exact x.fr.lk b c1 h n }
  exact {
    wo := {
      dom := fun b h => by
        by_cases q : b = a
        · subst q; rw [upd_same]; intro z; cases z
        · rw [upd_ne q]; exact x.wo.dom b h
      tape := fun t h => by
        obtain ⟨a1, b1, c1⟩ := x.wo.tape t h
        have nt : t ≠ a := fun z => by rw [z, hc] at c1; cases c1
        exact ⟨a1, b1.le fun o q => by rw [upd_ne nt]; exact q, by rw [Wd.put_ne nt]; exact c1⟩
      cell := fun b c1 h => by
        by_cases q : b = a
        · subst q
          rw [Wd.put_same] at h; cases h
          exact ⟨u, hn⟩
        · rw [Wd.put_ne q] at h
          obtain ⟨u', k⟩ := x.wo.cell b c1 h
          exact ⟨u', k.le (Same.lq (Hd.upd u)) (fun _ z => z) fun o k => by rw [upd_ne q]; exact k⟩ }
    fr := f1
    ed := x.ed
    len := x.len
    slot := fun i c1 h => by
      obtain ⟨v, h1, h2⟩ := x.slot i c1 h
      refine ⟨v, h1, ?_⟩
      have nv : ∀ m, Ow e U S.W m → m ≠ a := fun m ow z => by rw [← z, ow.w] at hc; cases hc
      match c1, h2 with
      | .val d, h2 => exact Dv.le (Same.lq (Hd.upd u)) (fun _ z => z) h2
      | .ownL ds, ⟨m, vs, e1, ow, e2, e3⟩ => exact ⟨m, vs, e1, ⟨ow.u, ow.e0, ow.tp, by rw [Wd.put_ne (nv m ow)]; exact ow.w⟩, by rw [upd_ne (nv m ow)]; exact e2, DvL.le (Same.lq (Hd.upd u)) (fun _ z => z) e3⟩
      | .ownD ds, ⟨m, vs, e1, ow, e2, e3⟩ => exact ⟨m, vs, e1, ⟨ow.u, ow.e0, ow.tp, by rw [Wd.put_ne (nv m ow)]; exact ow.w⟩, by rw [upd_ne (nv m ow)]; exact e2, DvK.le (Same.lq (Hd.upd u)) (fun _ z => z) e3⟩
    sep := x.sep
    tmp := fun p hp => by
      have := x.tmp p hp
      match p, this with
      | .v v (.d d), h => exact Dv.le (Same.lq (Hd.upd u)) (fun _ z => z) h
      | .v v (.own j), h => exact h
      | .nw m ds, ⟨om, ms, vs, h, h2⟩ =>
        have nv : m ≠ a := fun z => by rw [← z, om.w] at hc; cases hc
        exact ⟨⟨om.u, om.e0, om.tp, by rw [Wd.put_ne nv]; exact om.w⟩, ms, vs, by rw [upd_ne nv]; exact h, DvL.le (Same.lq (Hd.upd u)) (fun _ z => z) h2⟩
      | .pin b o w, ⟨n, h⟩ => exact ⟨n, by rw [upd_ne (show b ≠ _ from fun z => n (z ▸ u))]; exact h⟩ }
end
end Kn
set_option Elab.async false
set_option maxRecDepth 100000
set_option linter.all false
set_option autoImplicit false
namespace Kn
open PySem L2
mutual
def beqD : D → D → Bool
  | .non, .non => true
  | .bl a, .bl b => decide (a = b)
  | .int a, .int b => decide (a = b)
  | .str a, .str b => decide (a = b)
  | .ty a, .ty b => decide (a = b)
  | .tup a, .tup b => beqL a b
  | .lst a, .lst b => beqL a b
  | .dct a, .dct b => beqK a b
  | .obj c a, .obj d b => decide (c = d) && beqF a b
  | .ref a, .ref b => decide (a = b)
  | .tape, .tape => true
  | .scr, .scr => true
  | .exc a C d fs, .exc a' C' d' fs' => decide (a = a') && decide (C = C') && decide (d = d') && beqF fs fs'
  | _, _ => false
def beqL : List D → List D → Bool
  | [], [] => true
  | a :: as, b :: bs => beqD a b && beqL as bs
  | _, _ => false
def beqK : List (Key × D) → List (Key × D) → Bool
  | [], [] => true
  | (k, a) :: as, (l, b) :: bs => decide (k = l) && beqD a b && beqK as bs
  | _, _ => false
def beqF : List (Str × D) → List (Str × D) → Bool
  | [], [] => true
  | (k, a) :: as, (l, b) :: bs => decide (k = l) && beqD a b && beqF as bs
  | _, _ => false
end
mutual
theorem beqD_iff : ∀ a b : D, beqD a b = true ↔ a = b
  | .non, b => by cases b <;> simp [beqD]
  | .bl a, b => by cases b <;> simp [beqD]
  | .int a, b => by cases b <;> simp [beqD]
  | .str a, b => by cases b <;> simp [beqD]
  | .ty a, b => by cases b <;> simp [beqD]
  | .tup a, b => by cases b <;> simp [beqD, beqL_iff a]
  | .lst a, b => by cases b <;> simp [beqD, beqL_iff a]
  | .dct a, b => by cases b <;> simp [beqD, beqK_iff a]
  | .obj c a, b => by cases b <;> simp [beqD, beqF_iff a]
  | .ref a, b => by cases b <;> simp [beqD]
  | .tape, b => by cases b <;> simp [beqD]
  | .scr, b => by cases b <;> simp [beqD]
  | .exc a C d fs, b => by cases b <;> simp [beqD, beqF_iff fs, and_assoc]
theorem beqL_iff : ∀ a b : List D, beqL a b = true ↔ a = b
  | [], b => by cases b <;> simp [beqL]
  | a :: as, b => by cases b <;> simp [beqL, beqD_iff a, beqL_iff as]
theorem beqK_iff : ∀ a b : List (Key × D), beqK a b = true ↔ a = b
  | [], b => by cases b <;> simp [beqK]
  | (k, a) :: as, b => by
    cases b with
    | nil => simp [beqK]
    | cons p bs => obtain ⟨l, b⟩ := p; simp [beqK, beqD_iff a, beqK_iff as, and_assoc]
theorem beqF_iff : ∀ a b : List (Str × D), beqF a b = true ↔ a = b
  | [], b => by cases b <;> simp [beqF]
  | (k, a) :: as, b => by
    cases b with
    | nil => simp [beqF]
    | cons p bs => obtain ⟨l, b⟩ := p; simp [beqF, beqD_iff a, beqF_iff as, and_assoc]
end
instance : DecidableEq D := fun a b => decidable_of_iff _ (beqD_iff a b)
mutual
def toP : D → PyData
  | .non => .none
  | .int i => .int i
  | .str x => .str x
  | .bl b => .bool b
  | .tup ds => .tuple (toPs ds)
  | .lst ds => .list (toPs ds)
  | _ => .none
def toPs : List D → List PyData
  | [] => []
  | d :: ds => toP d :: toPs ds
end
mutual
def okD (b : Bool) : D → Bool
  | .non => true
  | .int _ => !b
  | .bl _ => b
  | .str x => PyData.strOk x
  | .tup ds => okL b ds
  | .lst ds => okL b ds
  | _ => false
def okL (b : Bool) : List D → Bool
  | [] => true
  | d :: ds => okD b d && okL b ds
end
mutual
def dpD : D → Nat
  | .tup ds => dpL ds + 1
  | .lst ds => dpL ds + 1
  | _ => 0
def dpL : List D → Nat
  | [] => 0
  | d :: ds => max (dpD d) (dpL ds)
end
section
variable {K : PySem.W.Frag} {Tp : Addr → Prop} {H H' : Hp} {b : Bool}
mutual
theorem Dv.dp (e : Same H H') : ∀ {v : V} {d : D}, Dv K Tp H v d → okD b d = true → Dp K H' v (toP d)
  | _, _, .non, _ => by rw [toP]; exact .non
  | _, _, .bl b, _ => by rw [toP]; exact .bl b
  | _, _, .int i, _ => by rw [toP]; exact .int i
  | _, _, .str x, _ => by rw [toP]; exact .str x
  | _, _, .ty n, h => by simp [okD] at h
  | _, _, .tup h t, g => by rw [okD] at g; rw [toP]; exact .tup (SqT.same e h) (DvL.dp e t g)
  | _, _, .lst h t, g => by rw [okD] at g; rw [toP]; exact .lst (SqL.of (e _ _ h)) (DvL.dp e t g)
  | _, _, .dct h t, g => by simp [okD] at g
  | _, _, .obj h t, g => by simp [okD] at g
  | _, _, .ref a, g => by simp [okD] at g
  | _, _, .tape h, g => by simp [okD] at g
  | _, _, .scr h _, g => by simp [okD] at g
  | _, _, .exc0 a C, g => by simp [okD] at g
  | _, _, .exc1 h t, g => by simp [okD] at g
theorem DvL.dp (e : Same H H') : ∀ {v : List V} {d : List D}, DvL K Tp H v d → okL b d = true → DpAll K H' v (toPs d)
  | _, _, .nil, _ => by rw [toPs]; exact .nil
  | _, _, .cons h t, g => by
    rw [okL, Bool.and_eq_true] at g
    rw [toPs]
    exact .cons (Dv.dp e h g.1) (DvL.dp e t g.2)
end
mutual
theorem toP_lay : ∀ d : D, okD b d = true → (toP d).canLay0 = true
  | .non, _ => by simp [toP, PyData.canLay0]
  | .bl _, _ => by simp [toP, PyData.canLay0]
  | .int _, _ => by simp [toP, PyData.canLay0]
  | .str x, h => by rw [okD] at h; rw [toP, PyData.canLay0]; exact h
  | .ty _, h => by simp [okD] at h
  | .tup ds, h => by rw [okD] at h; rw [toP, PyData.canLay0]; exact toPs_lay ds h
  | .lst ds, h => by rw [okD] at h; rw [toP, PyData.canLay0]; exact toPs_lay ds h
  | .dct _, h => by simp [okD] at h
  | .obj _ _, h => by simp [okD] at h
  | .ref _, h => by simp [okD] at h
  | .tape, h => by simp [okD] at h
  | .scr, h => by simp [okD] at h
  | .exc _ _ _ _, h => by simp [okD] at h
theorem toPs_lay : ∀ d : List D, okL b d = true → PyData.canLayAll0 (toPs d) = true
  | [], _ => by simp [toPs, PyData.canLayAll0]
  | d :: ds, h => by
    rw [okL, Bool.and_eq_true] at h
    rw [toPs, PyData.canLayAll0, toP_lay d h.1, toPs_lay ds h.2]; rfl
end
mutual
theorem toP_depth : ∀ d : D, (toP d).depth ≤ dpD d
  | .non => by simp [toP, PyData.depth]
  | .bl _ => by simp [toP, PyData.depth]
  | .int _ => by simp [toP, PyData.depth]
  | .str x => by simp [toP, PyData.depth]
  | .ty _ => by simp [toP, PyData.depth]
  | .tup ds => by rw [toP, dpD, PyData.depth]; have := toPs_depth ds; omega
  | .lst ds => by rw [toP, dpD, PyData.depth]; have := toPs_depth ds; omega
  | .dct _ => by simp [toP, PyData.depth]
  | .obj _ _ => by simp [toP, PyData.depth]
  | .ref _ => by simp [toP, PyData.depth]
  | .tape => by simp [toP, PyData.depth]
  | .scr => by simp [toP, PyData.depth]
  | .exc _ _ _ _ => by simp [toP, PyData.depth]
theorem toPs_depth : ∀ d : List D, PyData.depthAll (toPs d) ≤ dpL d
  | [] => by simp [toPs, PyData.depthAll]
  | d :: ds => by
    rw [toPs, PyData.depthAll, dpL]
    have := toP_depth d
    have := toPs_depth ds
    omega
end
theorem toP_shaped {d : D} (h : okD b d = true) (hd : dpD d ≤ 64) : SeqAt.shaped (toP d) = true := by
  unfold SeqAt.shaped
  rw [toP_lay d h, decide_eq_true (Nat.le_trans (toP_depth d) hd)]; rfl
mutual
theorem eqv_toP : ∀ a c : D, okD b a = true → okD b c = true → PyData.eqv (toP a) (toP c) = beqD a c
  | .non, c, _, h => by cases c <;> simp [okD] at h <;> simp [toP, PyData.eqv, beqD]
  | .bl x, c, g, h => by cases c <;> simp [okD] at g h <;> simp_all [toP, PyData.eqv, beqD] <;> rfl
  | .int x, c, g, h => by cases c <;> simp [okD] at g h <;> simp_all [toP, PyData.eqv, beqD] <;> rfl
  | .str x, c, g, h => by cases c <;> simp [okD] at g h <;> simp_all [toP, PyData.eqv, beqD] <;> rfl
  | .ty x, c, g, h => by simp [okD] at g
  | .tup x, c, g, h => by cases c <;> simp [okD] at g h <;> simp [toP, PyData.eqv, beqD] <;> exact eqv_toPs x _ g h
  | .lst x, c, g, h => by cases c <;> simp [okD] at g h <;> simp [toP, PyData.eqv, beqD] <;> exact eqv_toPs x _ g h
  | .dct _, c, g, h => by simp [okD] at g
  | .obj _ _, c, g, h => by simp [okD] at g
  | .ref _, c, g, h => by simp [okD] at g
  | .tape, c, g, h => by simp [okD] at g
  | .scr, c, g, h => by simp [okD] at g
  | .exc _ _ _ _, c, g, h => by simp [okD] at g
theorem eqv_toPs : ∀ a c : List D, okL b a = true → okL b c = true → PyData.eqvAll (toPs a) (toPs c) = beqL a c
  | [], [], _, _ => by simp [toPs, PyData.eqvAll, beqL]
  | [], c :: cs, _, _ => by simp [toPs, PyData.eqvAll, beqL]
  | a :: as, [], _, _ => by simp [toPs, PyData.eqvAll, beqL]
  | a :: as, c :: cs, g, h => by
    rw [okL, Bool.and_eq_true] at g h
    rw [toPs, toPs, PyData.eqvAll, beqL, eqv_toP a c g.1 h.1, eqv_toPs as cs g.2 h.2]
end
theorem beqD_dec (a c : D) : beqD a c = decide (a = c) := by
  by_cases h : a = c
  · rw [decide_eq_true h]; exact (beqD_iff a c).mpr h
  · rw [decide_eq_false h]
    cases q : beqD a c with
    | false => rfl
    | true => exact absurd ((beqD_iff a c).mp q) h
end
end Kn
set_option Elab.async false
set_option maxRecDepth 100000
set_option linter.all false
set_option autoImplicit false
namespace Kn
open PySem L2
section
variable {X : Cx}
theorem OpR.or {f : Value → Value → Sem Value} {r r' : R2} (h : OpR X f r) (h' : OpR X f r') : OpR X f (fun x y H Q => r x y H Q ∨ r' x y H Q) := by
  intro pins s σ H x y v u Q I rx ry q
  rcases q with q | q
  · exact h pins s σ H x y v u Q I rx ry q
  · exact h' pins s σ H x y v u Q I rx ry q
theorem CallR.or {f : Value} {r r' : List V → Hp → VK → Prop} (h : CallR X f r) (h' : CallR X f r') : CallR X f (fun xs H Q => r xs H Q ∨ r' xs H Q) := by
  intro pins s σ H xs us Q I rx q
  rcases q with q | q
  · exact h pins s σ H xs us Q I rx q
  · exact h' pins s σ H xs us Q I rx q
theorem SlR.or {r r' : V → Option Int → Option Int → Hp → VK → Prop} (h : SlR X r) (h' : SlR X r') : SlR X (fun x l u H Q => r x l u H Q ∨ r' x l u H Q) := by
  intro pins s σ H x v vl vu lo hi sl Q I rx hs pl pu q
  rcases q with q | q
  · exact h pins s σ H x v vl vu lo hi sl Q I rx hs pl pu q
  · exact h' pins s σ H x v vl vu lo hi sl Q I rx hs pl pu q
def rAddS : R2 := fun x y H Q => ∃ i j, x = .str i ∧ y = .str j ∧ i.length + j.length ≤ sizeLine ∧ Q (.str (i ++ j)) H
def rAddU (K : PySem.W.Frag) : R2 := fun x y H Q => rI0 (fun i j => .int (i + j)) x y H Q ∨ rAddS x y H Q ∨ rCat x y H Q ∨ rCatA K x y H Q
theorem op_addU (K : PySem.W.Frag) (h : X.K = K := by rfl) : OpR X (binaryOp .Add) (rAddU K) := OpR.or op_add (OpR.or op_add_str (OpR.or op_cat (op_catAK K h)))
def rEqU (K : PySem.W.Frag) : R2 := fun x y H Q => rEq x y H Q ∨ rEqD K x y H Q
def rNeU (K : PySem.W.Frag) : R2 := fun x y H Q => rNe x y H Q ∨ rNeD K x y H Q
theorem op_eqU (K : PySem.W.Frag) (hu : X.A.units + 64 < cLine) (h : X.K = K := by rfl) : OpR X (compareOp .Eq) (rEqU K) := OpR.or op_eq (op_eqDK K hu h)
theorem op_neU (K : PySem.W.Frag) (hu : X.A.units + 64 < cLine) (h : X.K = K := by rfl) : OpR X (compareOp .NotEq) (rNeU K) := OpR.or op_ne (op_neDK K hu h)
def rDIn (neg : Bool) : R2 := fun y x H Q => ∃ a o, x = .ref a ∧ DGet H a y o ∧ Q (.bl (if neg then !o.isSome else o.isSome)) H
theorem op_dIn (hu : X.A.units + 1 < cLine) : OpR X (compareOp .In) (rDIn false) := by
  intro pins s σ H x y v u Q I rx ry h
  obtain ⟨a, o, rfl, g, q⟩ := h
  cases ry
  exact d_in hu I g rx fun s' I' => ⟨.bl o.isSome, H, I', rfl, q⟩
theorem op_dNotIn (hu : X.A.units + 1 < cLine) : OpR X (compareOp .NotIn) (rDIn true) := by
  intro pins s σ H x y v u Q I rx ry h
  obtain ⟨a, o, rfl, g, q⟩ := h
  cases ry
  exact d_notIn hu I g rx fun s' I' => ⟨.bl (!o.isSome), H, I', rfl, q⟩
def rInS (neg : Bool) : R2 := fun x y H Q => ∃ i j, x = .str i ∧ y = .str j ∧ Q (.bl (if neg then !!(Builtin.Str.occurrences j i 0 j.length 1).isEmpty else !(Builtin.Str.occurrences j i 0 j.length 1).isEmpty)) H
def rInU (K : PySem.W.Frag) : R2 := fun x y H Q => rIn K false x y H Q ∨ rInS false x y H Q ∨ rDIn false x y H Q ∨ rInD K x y H Q
def rNotInU (K : PySem.W.Frag) : R2 := fun x y H Q => rIn K true x y H Q ∨ rInS true x y H Q ∨ rDIn true x y H Q ∨ rNotInD K x y H Q
theorem op_inU (K : PySem.W.Frag) (hu : X.A.units + 65 < cLine) (h : X.K = K := by rfl) : OpR X (compareOp .In) (rInU K) :=
  OpR.or (op_in_seqK K h) (OpR.or op_in_str (OpR.or (op_dIn (by omega)) (op_inDK K hu h)))
theorem op_notInU (K : PySem.W.Frag) (hu : X.A.units + 65 < cLine) (h : X.K = K := by rfl) : OpR X (compareOp .NotIn) (rNotInU K) :=
  OpR.or (op_notIn_seqK K h) (OpR.or op_notin_str (OpR.or (op_dNotIn (by omega)) (op_notInDK K hu h)))
def rIxDc : R2 := fun x y H Q => ∃ a v, x = .ref a ∧ DGet H a y (some v) ∧ Q v H
theorem ix_dict (hu : X.A.units + 1 < cLine) : IxR X rIxDc := by
  intro value slice pins s σ H x y v u Q I rx ry h hs
  obtain ⟨a, z, rfl, g, q⟩ := h
  cases rx
  exact PyProof.Rows.tail_any (ops := [.ref a, u]) (dict_typeIs I g) PySem.F.slot_dict_getitem.lookup (d_getItem hu I g ry fun w' s' I' rw' => ⟨z, H, I', rw', q⟩) hs
def rIxU (K : PySem.W.Frag) : R2 := fun x y H Q => rIx K x y H Q ∨ rIxDc x y H Q
theorem ix_U (K : PySem.W.Frag) (hu : X.A.units + 1 < cLine) (h : X.K = K := by rfl) : IxR X (rIxU K) := IxR.or (ix_seqK K h) (ix_dict hu)
def rSlU (K : PySem.W.Frag) : V → Option Int → Option Int → Hp → VK → Prop := fun x lo hi H Q => rSlL K x lo hi H Q ∨ rSlA K x lo hi H Q ∨ rSlS x lo hi H Q
theorem sl_U (K : PySem.W.Frag) (h : X.K = K := by rfl) : SlR X (rSlU K) := SlR.or (sl_listK K h) (SlR.or (sl_tupAK K h) sl_str)
def rLenD : List V → Hp → VK → Prop := fun xs H Q => ∃ a kvs, xs = [V.ref a] ∧ Rd H a (.dK kvs) ∧ Q (.int kvs.length) H
theorem call_lenDR : CallR X (.builtin "len") rLenD := by
  intro pins s σ H xs us Q I r h
  obtain ⟨a, kvs, rfl, ha, q⟩ := h
  obtain ⟨u, rfl, ru⟩ := vals1 r
  cases ru
  exact d_len I ha fun t s' I' => ⟨.int kvs.length, H, I', ⟨t, rfl⟩, q⟩
def rLenS : List V → Hp → VK → Prop := fun xs H Q => ∃ z, xs = [.str z] ∧ z.length ≤ sizeLine ∧ Q (.int z.length) H
def rLenU (K : PySem.W.Frag) : List V → Hp → VK → Prop := fun xs H Q => rLenSq K xs H Q ∨ rLenS xs H Q ∨ rLenD xs H Q
theorem call_lenU (K : PySem.W.Frag) (h : X.K = K := by rfl) : CallR X (.builtin "len") (rLenU K) := CallR.or (call_len_seqK K h) (CallR.or call_len_str call_lenDR)
end
end Kn
set_option Elab.async false
set_option maxRecDepth 100000
set_option linter.all false
set_option autoImplicit false
namespace Kn
open PySem L2
abbrev TDE := PSt → (Rv → PSt → Prop) → Prop
abbrev TDT := PSt → (Bool → PSt → Prop) → Prop
abbrev TDA := PSt → (List Rv → PSt → Prop) → Prop
abbrev TDN := PSt → (List D → PSt → Prop) → Prop
structure DEnds where
  nx : PSt → Prop
  rt : D → Wd → Prop
  bk : PSt → Prop := fun _ => False
  ct : PSt → Prop := fun _ => False
  rn : List D → Wd → Prop := fun _ _ => False
abbrev TDS := DEnds → PSt → Prop
abbrev TDG := D → PSt → (PSt → Prop) → Prop
abbrev TDGs := List D → PSt → (PSt → Prop) → Prop
def tms : List V → List Rv → List Tm
  | v :: vs, r :: rs => .v v r :: tms vs rs
  | _, _ => []
structure Lnk (K : PySem.W.Frag) (e : Ent) (T : List Tm) (Ed : DEnds) (E : Ends) : Prop where
  nx : ∀ S σ H, Ed.nx S → R K e σ H S T → E.nx σ H
  rt : ∀ d S σ v H, Ed.rt d S.W → R K e σ H S (.v v (.d d) :: T) → E.rt v H
  bk : ∀ S σ H, Ed.bk S → R K e σ H S T → E.bk σ H
  ct : ∀ S σ H, Ed.ct S → R K e σ H S T → E.ct σ H
  rn : ∀ ds S σ l H, Ed.rn ds S.W → RN K e σ H S T l ds → E.rt (.ref l) H
class SimE (K : PySem.W.Frag) (e : Ent) (te : TE) (t : outParam TDE) : Prop where
  run : ∀ (σ : St) (H : Hp) (S : PSt) (T : List Tm) (Qd : Rv → PSt → Prop) (Q : VK), R K e σ H S T → t S Qd → (∀ r S' v H', Qd r S' → R K e σ H' S' (.v v r :: T) → Q v H') → te σ H Q
class SimT (K : PySem.W.Frag) (e : Ent) (te : TT) (t : outParam TDT) : Prop where
  run : ∀ (σ : St) (H : Hp) (S : PSt) (T : List Tm) (Qd : Bool → PSt → Prop) (Q : Bool → Hp → Prop), R K e σ H S T → t S Qd → (∀ b S' H', Qd b S' → R K e σ H' S' T → Q b H') → te σ H Q
class SimA (K : PySem.W.Frag) (e : Ent) (ta : TA) (t : outParam TDA) : Prop where
  run : ∀ (σ : St) (H : Hp) (S : PSt) (T : List Tm) (Qd : List Rv → PSt → Prop) (Q : List V → Hp → Prop), R K e σ H S T → t S Qd → (∀ rs S' vs H', Qd rs S' → vs.length = rs.length → R K e σ H' S' (tms vs rs ++ T) → Q vs H') → ta σ H Q
class SimN (K : PySem.W.Frag) (e : Ent) (te : TE) (t : outParam TDN) : Prop where
  run : ∀ (σ : St) (H : Hp) (S : PSt) (T : List Tm) (Qd : List D → PSt → Prop) (Q : VK), R K e σ H S T → t S Qd → (∀ ds S' l H', Qd ds S' → RN K e σ H' S' T l ds → Q (.ref l) H') → te σ H Q
class SimS (K : PySem.W.Frag) (e : Ent) (ts : TS) (t : outParam TDS) : Prop where
  run : ∀ (σ : St) (H : Hp) (S : PSt) (T : List Tm) (Ed : DEnds) (E : Ends), NoOwn T → R K e σ H S T → t Ed S → Lnk K e T Ed E → ts E σ H
class SimG (K : PySem.W.Frag) (e : Ent) (g : TG) (t : outParam TDG) : Prop where
  run : ∀ (v : V) (d : D) (σ : St) (H : Hp) (S : PSt) (T : List Tm) (Qd : PSt → Prop) (Q : St → Hp → Prop), NoOwn T → R K e σ H S (.v v (.d d) :: T) → t d S Qd → (∀ S' σ' H', Qd S' → R K e σ' H' S' T → Q σ' H') → g v σ H Q
class SimGs (K : PySem.W.Frag) (e : Ent) (g : TGs) (t : outParam TDGs) : Prop where
  run : ∀ (vs : List V) (ds : List D) (σ : St) (H : Hp) (S : PSt) (T : List Tm) (Qd : PSt → Prop) (Q : St → Hp → Prop), NoOwn T → vs.length = ds.length → R K e σ H S (tms vs (ds.map .d) ++ T) → t ds S Qd → (∀ S' σ' H', Qd S' → R K e σ' H' S' T → Q σ' H') → g vs σ H Q
class SimO (K : PySem.W.Frag) (e : Ent) (r : R2) (o : outParam (PSt → Rv → Rv → (D → PSt → Prop) → Prop)) : Prop where
  run : ∀ (σ : St) (H : Hp) (S : PSt) (T : List Tm) (x y : V) (rx ry : Rv) (Qd : D → PSt → Prop) (Q : VK), R K e σ H S (.v y ry :: .v x rx :: T) → o S rx ry Qd → (∀ d S' v H', Qd d S' → R K e σ H' S' (.v v (.d d) :: T) → Q v H') → r x y H Q
class SimC (K : PySem.W.Frag) (e : Ent) (r : List V → Hp → VK → Prop) (o : outParam (PSt → List Rv → (D → PSt → Prop) → Prop)) : Prop where
  run : ∀ (σ : St) (H : Hp) (S : PSt) (T : List Tm) (vs : List V) (rs : List Rv) (Qd : D → PSt → Prop) (Q : VK), vs.length = rs.length → R K e σ H S (tms vs rs ++ T) → o S rs Qd → (∀ d S' v H', Qd d S' → R K e σ H' S' (.v v (.d d) :: T) → Q v H') → r vs H Q
class SimCN (K : PySem.W.Frag) (e : Ent) (r : List V → Hp → VK → Prop) (o : outParam (PSt → List Rv → (List D → PSt → Prop) → Prop)) : Prop where
  run : ∀ (σ : St) (H : Hp) (S : PSt) (T : List Tm) (vs : List V) (rs : List Rv) (Qd : List D → PSt → Prop) (Q : VK), vs.length = rs.length → R K e σ H S (tms vs rs ++ T) → o S rs Qd → (∀ ds S' l H', Qd ds S' → RN K e σ H' S' T l ds → Q (.ref l) H') → r vs H Q
def PSt.set (S : PSt) (i : Nat) (c : PC) : PSt := ⟨S.ρ.set i (some c), S.W⟩
def derefD (S : PSt) : Rv → Option D
  | .d (.ref a) => match S.W.ω a with
    | some (.lst ds) => some (.lst ds)
    | some (.dct ks) => some (.dct ks)
    | some (.lk _ _ ks) => some (.dct ks)
    | some (.ins C fs) => some (.obj C fs)
    | some (.dtn _ _ _) => some (.ref a)
    | none => some (.ref a)
  | .d d => some d
  | .own j => match S.ρ[j]? with
    | some (some (.val (.ref _))) => none
    | some (some (.val d)) => some d
    | some (some (.ownL ds)) => some (.lst ds)
    | some (some (.ownD ks)) => some (.dct ks)
    | _ => none
def Vw (K : PySem.W.Frag) (Tp U : Addr → Prop) (H : Hp) (v : V) : D → Prop
  | .tup ds => ∃ a xs, v = .ref a ∧ SqT K (Hd U H) a xs ∧ DvL K Tp (Hd U H) xs ds
  | .lst ds => ∃ a xs, v = .ref a ∧ H a = some (.lst xs) ∧ DvL K Tp (Hd U H) xs ds
  | .dct ks => ∃ a xs, v = .ref a ∧ Rd H a (.dK xs) ∧ DvK K Tp (Hd U H) xs ks
  | .obj C fs => ∃ a dx xs, v = .ref a ∧ H a = some (.ins C dx xs) ∧ DvF K Tp (Hd U H) xs fs
  | d => Dv K Tp (Hd U H) v d
section
variable {K : PySem.W.Frag} {e : Ent} {σ : St} {H H' : Hp} {S : PSt} {T : List Tm} {U U' : Addr → Prop} {W' : Wd}
theorem Dv.vw {Tp : Addr → Prop} {v : V} : ∀ {d : D}, Dv K Tp (Hd U H) v d → Vw K Tp U H v d
  | .non, h => h
  | .bl _, h => h
  | .int _, h => h
  | .str _, h => h
  | .ty _, h => h
  | .tup _, .tup h t => ⟨_, _, rfl, h, t⟩
  | .lst _, .lst h t => ⟨_, _, rfl, Hd.sub _ _ h, t⟩
  | .dct _, .dct h t => ⟨_, _, rfl, Rd.same Hd.sub h, t⟩
  | .obj _ _, .obj h t => ⟨_, _, _, rfl, Hd.sub _ _ h, t⟩
  | .ref _, h => h
  | .tape, h => h
  | .scr, h => h
  | .exc _ _ _ _, h => h
theorem RU.vw (x : RU K e σ H S T U) {v : V} {r : Rv} {d : D} (h : TmOk K e U S H σ (.v v r)) (hd : derefD S r = some d) : Vw K S.W.Tp U H v d := by
  match r, h, hd with
  | .d (.ref a), h, hd =>
    have h : Dv K S.W.Tp (Hd U H) v (.ref a) := h
    cases h
    rw [derefD] at hd
    cases q : S.W.ω a with
    | none => rw [q] at hd; cases hd; exact .ref a
    | some c =>
      rw [q] at hd
      obtain ⟨_, k⟩ := x.wo.cell a c q
      match c, k, hd with
      | .lst ds, ⟨vs, h1, h2⟩, hd => cases hd; exact ⟨a, vs, rfl, h1, h2⟩
      | .dct ds, ⟨vs, h1, h2⟩, hd => cases hd; exact ⟨a, vs, rfl, .inl h1, h2⟩
      | .lk od vs ds, ⟨h1, h2⟩, hd => cases hd; exact ⟨a, vs, rfl, .inr ⟨od, h1⟩, h2⟩
      | .ins C fs, ⟨dx, vs, h1, h2⟩, hd => cases hd; exact ⟨a, dx, vs, rfl, h1, h2⟩
      | .dtn _ _ _, _, hd => cases hd; exact .ref a
  | .d .non, h, hd => cases hd; exact Dv.vw h
  | .d (.bl _), h, hd => cases hd; exact Dv.vw h
  | .d (.int _), h, hd => cases hd; exact Dv.vw h
  | .d (.str _), h, hd => cases hd; exact Dv.vw h
  | .d (.ty _), h, hd => cases hd; exact Dv.vw h
  | .d (.tup _), h, hd => cases hd; exact Dv.vw h
  | .d (.lst _), h, hd => cases hd; exact Dv.vw h
  | .d (.dct _), h, hd => cases hd; exact Dv.vw h
  | .d (.obj _ _), h, hd => cases hd; exact Dv.vw h
  | .d .tape, h, hd => cases hd; exact Dv.vw h
  | .d .scr, h, hd => cases hd; exact Dv.vw h
  | .d (.exc _ _ _ _), h, hd => cases hd; exact Dv.vw h
  | .own j, h, hd =>
    have h : σ[j]? = some (some v) := h
    rw [derefD] at hd
    cases q : S.ρ[j]? with
    | none => rw [q] at hd; cases hd
    | some c =>
      cases c with
      | none => rw [q] at hd; cases hd
      | some c =>
        obtain ⟨v', h1, h2⟩ := x.slot j c q
        rw [h] at h1; cases h1
        rw [q] at hd
        match c, h2, hd with
        | .val d', h2, hd =>
          have e1 : d = d' := by
            cases d' <;> simp at hd <;> first | exact hd.symm | exact absurd hd (by intro z; cases z)
          subst e1
          exact Dv.vw h2
        | .ownL ds, ⟨l, vs, e1, _, h1, h2⟩, hd => cases hd; exact ⟨l, vs, e1, h1, h2⟩
        | .ownD ds, ⟨l, vs, e1, _, h1, h2⟩, hd => cases hd; exact ⟨l, vs, e1, .inl h1, h2⟩
def frc : Rv → PSt → (D → PSt → Prop) → Prop
  | .d d, S, Q => Q d S
  | .own j, S, Q => match S.ρ[j]? with
    | some (some (.val d)) => Q d S
    | some (some (.ownL ds)) => Q (.lst ds) (S.set j (.val (.lst ds)))
    | some (some (.ownD ks)) => Q (.dct ks) (S.set j (.val (.dct ks)))
    | _ => False
def frcL : List Rv → PSt → (List D → PSt → Prop) → Prop
  | [], S, Q => Q [] S
  | r :: rs, S, Q => frc r S fun d S1 => frcL rs S1 fun ds S2 => Q (d :: ds) S2
theorem R.frc {v : V} {r : Rv} {Qd : D → PSt → Prop} {C : Prop} (x : R K e σ H S (.v v r :: T)) (h : Kn.frc r S Qd) (k : ∀ d S', Qd d S' → R K e σ H S' (.v v (.d d) :: T) → C) : C := by
  match r, x, h with
  | .d d, x, h => exact k d S h x
  | .own j, ⟨U, x⟩, h =>
    have hs : σ[j]? = some (some v) := x.tmp (.v v (.own j)) (by simp)
    have xt := x.less (T' := T) fun p hp => List.mem_cons_of_mem _ hp
    rw [Kn.frc] at h
    cases q : S.ρ[j]? with
    | none => rw [q] at h; exact h.elim
    | some c =>
      cases c with
      | none => rw [q] at h; exact h.elim
      | some c =>
        obtain ⟨v', h1, h2⟩ := x.slot j c q
        rw [hs] at h1; cases h1
        rw [q] at h
        match c, h2, h with
        | .val d, h2, h => exact k d S h ⟨U, xt.push h2⟩
        | .ownL ds, ⟨l, vs, e1, ow, h1, h3⟩, h =>
          subst e1
          have hd : Dv K S.W.Tp (Hd (fun b => U b ∧ b ≠ l) H) (.ref l) (.lst ds) := .lst (Hd.get h1 fun z => z.2 rfl) (DvL.le (Same.lq Hd.less) (fun _ z => z) h3)
          exact k _ _ h ⟨_, (xt.freeze q trivial hs ow hd).push hd⟩
        | .ownD ds, ⟨l, vs, e1, ow, h1, h3⟩, h =>
          subst e1
          have hd : Dv K S.W.Tp (Hd (fun b => U b ∧ b ≠ l) H) (.ref l) (.dct ds) := .dct (.inl (Hd.get h1 fun z => z.2 rfl)) (DvK.le (Same.lq Hd.less) (fun _ z => z) h3)
          exact k _ _ h ⟨_, (xt.freeze q trivial hs ow hd).push hd⟩
theorem R.frcL : ∀ {vs : List V} {rs : List Rv} {S : PSt} {T : List Tm} {Qd : List D → PSt → Prop} {C : Prop}, vs.length = rs.length → R K e σ H S (tms vs rs ++ T) → Kn.frcL rs S Qd → (∀ ds S', Qd ds S' → vs.length = ds.length → R K e σ H S' (tms vs (ds.map .d) ++ T) → C) → C
  | [], [], S, T, Qd, C, _, x, h, k => k [] S h rfl x
  | v :: vs, r :: rs, S, T, Qd, C, hl, x, h, k => by
    refine R.frc (v := v) (r := r) (T := tms vs rs ++ T) x h fun d S1 h1 x1 => ?_
    have x1' : R K e σ H S1 (tms vs rs ++ (.v v (.d d) :: T)) := x1.less fun p hp => by
      rcases List.mem_append.mp hp with hp | hp
      · exact List.mem_cons_of_mem _ (List.mem_append_left _ hp)
      · rcases List.mem_cons.mp hp with rfl | hp
        · exact List.mem_cons_self
        · exact List.mem_cons_of_mem _ (List.mem_append_right _ hp)
    refine R.frcL (by simpa using hl) x1' h1 fun ds S2 h2 hl2 x2 => k (d :: ds) S2 h2 (by simp [hl2]) (x2.less fun p hp => ?_)
    rcases List.mem_cons.mp hp with rfl | hp
    · exact List.mem_append_right _ List.mem_cons_self
    · rcases List.mem_append.mp hp with hp | hp
      · exact List.mem_append_left _ hp
      · exact List.mem_append_right _ (List.mem_cons_of_mem _ hp)
theorem RU.tms : ∀ {vs : List V} {ds : List D}, vs.length = ds.length → RU K e σ H S (Kn.tms vs (ds.map .d) ++ T) U → DvL K S.W.Tp (Hd U H) vs ds
  | [], [], _, _ => .nil
  | v :: vs, d :: ds, h, x => .cons (x.tmp (.v v (.d d)) (by simp [Kn.tms])) (RU.tms (by simpa using h) (x.less fun p hp => List.mem_cons_of_mem _ hp))
theorem R.tail {T1 : List Tm} (x : R K e σ H S (T1 ++ T)) : R K e σ H S T := x.less fun _ h => List.mem_append_right _ h
end
end Kn
set_option Elab.async false
set_option maxRecDepth 100000
set_option linter.all false
set_option autoImplicit false
namespace Kn
open PySem L2
section
variable {K : PySem.W.Frag} {e : Ent}
theorem big_of {n : Nat} (h : n ≤ 1000000) : n ≤ sizeLine := Nat.le_trans h (by decide)
theorem bigl_of {n : Nat} (h : n ≤ 1000000) : n < sizeLine := Nat.lt_of_le_of_lt h (by decide)
def tdVar (i : Nat) : TDE := fun S Q => match S.ρ[i]? with
  | some (some (.val d)) => Q (.d d) S
  | some (some (.ownL _)) => Q (.own i) S
  | some (some (.ownD _)) => Q (.own i) S
  | _ => False
instance simVar {i : Nat} : SimE K e (tVar i) (tdVar i) := ⟨fun σ H S T Qd Q ⟨U, x⟩ h k => by
  unfold tdVar at h
  cases q : S.ρ[i]? with
  | none => rw [q] at h; exact h.elim
  | some c =>
    cases c with
    | none => rw [q] at h; exact h.elim
    | some c =>
      obtain ⟨v, h1, h2⟩ := x.slot i c q
      rw [q] at h
      refine ⟨v, h1, ?_⟩
      match c, h2, h with
      | .val d, h2, h => exact k _ _ _ _ h ⟨U, x.push h2⟩
      | .ownL ds, h2, h => exact k _ _ _ _ h ⟨U, x.push h1⟩
      | .ownD ds, h2, h => exact k _ _ _ _ h ⟨U, x.push h1⟩⟩
def tdC (d : D) : TDE := fun S Q => Q (.d d) S
theorem simC_ {v : V} {d : D} (hv : ∀ (Tp : Addr → Prop) (H : Hp), Dv K Tp H v d) : SimE K e (tC v) (tdC d) := ⟨fun σ H S T Qd Q ⟨U, x⟩ h k => k _ _ _ _ h ⟨U, x.push (hv _ _)⟩⟩
instance simBl {b : Bool} : SimE K e (tC (.bl b)) (tdC (.bl b)) := simC_ fun _ _ => .bl b
instance simInt {i : Int} : SimE K e (tC (.int i)) (tdC (.int i)) := simC_ fun _ _ => .int i
instance simStr {x : Str} : SimE K e (tC (.str x)) (tdC (.str x)) := simC_ fun _ _ => .str x
instance simTy {x : String} : SimE K e (tC (.ty x)) (tdC (.ty x)) := simC_ fun _ _ => .ty x
instance simRef {x : Addr} : SimE K e (tC (.ref x)) (tdC (.ref x)) := simC_ fun _ _ => .ref x
def tdOp (o : PSt → Rv → Rv → (D → PSt → Prop) → Prop) (ta tb : TDE) : TDE := fun S Q => ta S fun x S1 => tb S1 fun y S2 => o S2 x y fun d S3 => Q (.d d) S3
instance simOp {r : R2} {o : PSt → Rv → Rv → (D → PSt → Prop) → Prop} {ta tb : TE} {ta' tb' : TDE} [ha : SimE K e ta ta'] [hb : SimE K e tb tb'] [ho : SimO K e r o] : SimE K e (tOp r ta tb) (tdOp o ta' tb') := ⟨fun σ H S T Qd Q x h k => by
  refine ha.run σ H S T _ _ x h fun r1 S1 v1 H1 h1 x1 => ?_
  refine hb.run σ H1 S1 _ _ _ x1 h1 fun r2 S2 v2 H2 h2 x2 => ?_
  exact ho.run σ H2 S2 T v1 v2 r1 r2 _ _ x2 h2 fun d S3 v H3 h3 x3 => k _ _ _ _ h3 x3⟩
def tdNil : TDA := fun S Q => Q [] S
def tdCons (ta : TDE) (tr : TDA) : TDA := fun S Q => ta S fun r S1 => tr S1 fun rs S2 => Q (r :: rs) S2
instance simNil : SimA K e tNil tdNil := ⟨fun σ H S T Qd Q x h k => k _ _ _ _ h rfl x⟩
instance simCons {ta : TE} {tr : TA} {ta' : TDE} {tr' : TDA} [ha : SimE K e ta ta'] [hb : SimA K e tr tr'] : SimA K e (tCons ta tr) (tdCons ta' tr') := ⟨fun σ H S T Qd Q x h k => by
  refine ha.run σ H S T _ _ x h fun r1 S1 v1 H1 h1 x1 => ?_
  refine hb.run σ H1 S1 _ _ _ x1 h1 fun rs S2 vs H2 h2 hl x2 => ?_
  refine k _ _ _ _ h2 (by simp [hl]) (x2.less fun p hp => ?_)
  rcases List.mem_cons.mp hp with rfl | hp
  · exact List.mem_append_right _ List.mem_cons_self
  · rcases List.mem_append.mp hp with hp | hp
    · exact List.mem_append_left _ hp
    · exact List.mem_append_right _ (List.mem_cons_of_mem _ hp)⟩
theorem RU.newT {σ : St} {H : Hp} {S : PSt} {T : List Tm} {U : Addr → Prop} (x : RU K e σ H S T U) {p : Addr} {vs : List V} {ds : List D} (hp : H p = none) (hv : DvL K S.W.Tp (Hd U H) vs ds) : R K e σ (upd H p (.tup vs)) S (.v (.ref p) (.d (.tup ds)) :: T) :=
  ⟨U, (x.alloc hp).push (.tup (SqT.of (Hd.get upd_same (x.fresh hp))) (DvL.le (Same.lq (same_upd hp)) (fun _ z => z) hv))⟩
def tdTup (ta : TDA) : TDE := fun S Q => ta S fun rs S1 => frcL rs S1 fun ds S2 => ds.length ≤ 1000000 ∧ Q (.d (.tup ds)) S2
instance simTup {ta : TA} {ta' : TDA} [ha : SimA K e ta ta'] : SimE K e (tTup ta) (tdTup ta') := ⟨fun σ H S T Qd Q x h k => by
  refine ha.run σ H S T _ _ x h fun rs S1 vs H1 h1 hl x1 => ?_
  refine R.frcL hl x1 h1 fun ds S2 h2 hl2 x2 => ?_
  obtain ⟨U, x2⟩ := x2
  refine ⟨big_of (by rw [hl2]; exact h2.1), fun p hp => k _ _ _ _ h2.2 ?_⟩
  exact (x2.less fun q hq => List.mem_append_right _ hq).newT hp (RU.tms hl2 x2)⟩
def tnLst (ta : TDA) : TDN := fun S Q => ta S fun rs S1 => frcL rs S1 fun ds S2 => ds.length ≤ 1000000 ∧ Q ds S2
instance simLst {ta : TA} {ta' : TDA} [ha : SimA K e ta ta'] : SimN K e (tLst ta) (tnLst ta') := ⟨fun σ H S T Qd Q x h k => by
  refine ha.run σ H S T _ _ x h fun rs S1 vs H1 h1 hl x1 => ?_
  refine R.frcL hl x1 h1 fun ds S2 h2 hl2 x2 => ?_
  obtain ⟨U, x2⟩ := x2
  refine ⟨big_of (by rw [hl2]; exact h2.1), fun p hp => k _ _ _ _ h2.2 ?_⟩
  exact (x2.less fun q hq => List.mem_append_right _ hq).newL hp (RU.tms hl2 x2)⟩
def tdFrz (t : TDN) : TDE := fun S Q => t S fun ds S1 => Q (.d (.lst ds)) S1
instance (priority := low) simFrz {te : TE} {t : TDN} [h : SimN K e te t] : SimE K e te (tdFrz t) := ⟨fun σ H S T Qd Q x ht k => h.run σ H S T _ _ x ht fun ds S1 l H1 h1 x1 => k _ _ _ _ h1 x1.frozen⟩
def asB (r : Rv) (F : Bool → Prop) : Prop := match r with
  | .d (.bl b) => F b
  | _ => False
def tdTest (t : TDE) : TDT := fun S Q => t S fun r S1 => asB r fun b => Q b S1
theorem simTest_ {te : TE} {t : TDE} (h : SimE K e te t) {σ : St} {H : Hp} {S : PSt} {T : List Tm} {Qd : Bool → PSt → Prop} {Q : Bool → Hp → Prop} (x : R K e σ H S T) (ht : tdTest t S Qd) (k : ∀ b S' H', Qd b S' → R K e σ H' S' T → Q b H') : te σ H fun v H' => ∃ b, v = .bl b ∧ Q b H' := by
  refine h.run σ H S T _ _ x ht fun r S1 v H1 h1 x1 => ?_
  match r, h1, x1 with
  | .d (.bl b), h1, ⟨U, x1⟩ =>
    have hv : Dv K S1.W.Tp (Hd U H1) v (.bl b) := x1.tmp (.v v (.d (.bl b))) (by simp)
    cases hv
    exact ⟨b, rfl, k _ _ _ h1 (R.pop ⟨U, x1⟩)⟩
instance simTB {te : TE} {t : TDE} [h : SimE K e te t] : SimT K e (tB te) (tdTest t) := ⟨fun σ H S T Qd Q x ht k => simTest_ h x ht k⟩
instance simTT {te : TE} {t : TDE} [h : SimE K e te t] : SimT K e (tTest te) (tdTest t) := ⟨fun σ H S T Qd Q x ht k => simTest_ h x ht k⟩
def tdOr (t u : TDT) : TDT := fun S Q => t S fun c S1 => if c = true then Q true S1 else u S1 Q
def tdNot (t : TDT) : TDT := fun S Q => t S fun c S1 => Q (!c) S1
instance simOr {t u : TT} {t' u' : TDT} [h1 : SimT K e t t'] [h2 : SimT K e u u'] : SimT K e (tOr t u) (tdOr t' u') := ⟨fun σ H S T Qd Q x h k => by
  refine h1.run σ H S T _ _ x h fun c S1 H1 hc x1 => ?_
  cases c
  · exact h2.run σ H1 S1 T _ _ x1 hc k
  · exact k _ _ _ hc x1⟩
instance simNot {t : TT} {t' : TDT} [h1 : SimT K e t t'] : SimT K e (tNot t) (tdNot t') := ⟨fun σ H S T Qd Q x h k => h1.run σ H S T _ _ x h fun c S1 H1 hc x1 => k _ _ _ hc x1⟩
def tdYes : TDT := fun S Q => Q true S
instance simYes : SimT K e tYes tdYes := ⟨fun σ H S T Qd Q x h k => k _ _ _ h x⟩
def tdAndV (ta tb : TDE) : TDE := fun S Q => tdTest ta S fun c S1 => if c = true then tb S1 Q else Q (.d (.bl false)) S1
def tdNotV (ta : TDE) : TDE := fun S Q => tdTest ta S fun c S1 => Q (.d (.bl (!c))) S1
instance simAndV {t u : TE} {t' u' : TDE} [h1 : SimE K e t t'] [h2 : SimE K e u u'] : SimE K e (tAndV t u) (tdAndV t' u') := ⟨fun σ H S T Qd Q x h k => by
  refine simTest_ h1 x h fun c S1 H1 hc x1 => ?_
  cases c
  · obtain ⟨U, x1⟩ := x1
    exact k _ _ _ _ hc ⟨U, x1.push (.bl false)⟩
  · exact h2.run σ H1 S1 T _ _ x1 hc k⟩
instance simNotV {t : TE} {t' : TDE} [h1 : SimE K e t t'] : SimE K e (tNotV t) (tdNotV t') := ⟨fun σ H S T Qd Q x h k => by
  refine simTest_ h1 x h fun c S1 H1 hc x1 => ?_
  obtain ⟨U, x1⟩ := x1
  exact k _ _ _ _ hc ⟨U, x1.push (.bl (!c))⟩⟩
def tdCB (o : PSt → List Rv → (D → PSt → Prop) → Prop) (t : TDA) : TDE := fun S Q => t S fun rs S1 => o S1 rs fun d S2 => Q (.d d) S2
instance simCB {r : List V → Hp → VK → Prop} {o : PSt → List Rv → (D → PSt → Prop) → Prop} {t : TA} {t' : TDA} [h1 : SimA K e t t'] [h2 : SimC K e r o] : SimE K e (tCB r t) (tdCB o t') := ⟨fun σ H S T Qd Q x h k => by
  refine h1.run σ H S T _ _ x h fun rs S1 vs H1 hc hl x1 => ?_
  exact h2.run σ H1 S1 T vs rs _ _ hl x1 hc fun d S2 v H2 h2 x2 => k _ _ _ _ h2 x2⟩
def tnCB (o : PSt → List Rv → (List D → PSt → Prop) → Prop) (t : TDA) : TDN := fun S Q => t S fun rs S1 => o S1 rs Q
instance simCBN {r : List V → Hp → VK → Prop} {o : PSt → List Rv → (List D → PSt → Prop) → Prop} {t : TA} {t' : TDA} [h1 : SimA K e t t'] [h2 : SimCN K e r o] : SimN K e (tCB r t) (tnCB o t') := ⟨fun σ H S T Qd Q x h k => by
  refine h1.run σ H S T _ _ x h fun rs S1 vs H1 hc hl x1 => ?_
  exact h2.run σ H1 S1 T vs rs _ _ hl x1 hc fun ds S2 l H2 h2 x2 => k _ _ _ _ h2 x2⟩
end
end Kn
set_option Elab.async false
set_option maxRecDepth 100000
set_option linter.all false
set_option autoImplicit false
namespace Kn
open PySem L2
section
variable {K : PySem.W.Frag} {e : Ent}
theorem R.two {σ : St} {H : Hp} {S : PSt} {T : List Tm} {x y : V} {rx ry : Rv} {a b : D} (w : R K e σ H S (.v y ry :: .v x rx :: T)) (ha : derefD S rx = some a) (hb : derefD S ry = some b) :
    ∃ U, RU K e σ H S T U ∧ Vw K S.W.Tp U H x a ∧ Vw K S.W.Tp U H y b ∧ RU K e σ H S (.v y ry :: .v x rx :: T) U := by
  obtain ⟨U, w⟩ := w
  exact ⟨U, w.less fun p hp => by simp [hp], w.vw (w.tmp (.v x rx) (by simp)) ha, w.vw (w.tmp (.v y ry) (by simp)) hb, w⟩
theorem R.one {σ : St} {H : Hp} {S : PSt} {T : List Tm} {x : V} {rx : Rv} {a : D} (w : R K e σ H S (.v x rx :: T)) (ha : derefD S rx = some a) :
    ∃ U, RU K e σ H S T U ∧ Vw K S.W.Tp U H x a ∧ RU K e σ H S (.v x rx :: T) U := by
  obtain ⟨U, w⟩ := w
  exact ⟨U, w.less fun p hp => by simp [hp], w.vw (w.tmp (.v x rx) (by simp)) ha, w⟩
theorem Vw.int {Tp U : Addr → Prop} {H : Hp} {v : V} {i : Int} (h : Vw K Tp U H v (.int i)) : v = .int i := by
  have h : Dv K Tp (Hd U H) v (.int i) := h
  cases h; rfl
theorem Vw.str {Tp U : Addr → Prop} {H : Hp} {v : V} {i : Str} (h : Vw K Tp U H v (.str i)) : v = .str i := by
  have h : Dv K Tp (Hd U H) v (.str i) := h
  cases h; rfl
theorem Vw.bl {Tp U : Addr → Prop} {H : Hp} {v : V} {i : Bool} (h : Vw K Tp U H v (.bl i)) : v = .bl i := by
  have h : Dv K Tp (Hd U H) v (.bl i) := h
  cases h; rfl
theorem Vw.non {Tp U : Addr → Prop} {H : Hp} {v : V} (h : Vw K Tp U H v .non) : v = .non := by
  have h : Dv K Tp (Hd U H) v .non := h
  cases h; rfl
theorem Vw.ty {Tp U : Addr → Prop} {H : Hp} {v : V} {n : String} (h : Vw K Tp U H v (.ty n)) : v = .ty n := by
  have h : Dv K Tp (Hd U H) v (.ty n) := h
  cases h; rfl
def dd2 (S : PSt) (rx ry : Rv) (F : D → D → Prop) : Prop := match derefD S rx, derefD S ry with
  | some a, some b => F a b
  | _, _ => False
theorem dd2_inv {S : PSt} {rx ry : Rv} {F : D → D → Prop} (h : dd2 S rx ry F) : ∃ a b, derefD S rx = some a ∧ derefD S ry = some b ∧ F a b := by
  unfold dd2 at h
  cases ha : derefD S rx with
  | none => rw [ha] at h; exact h.elim
  | some a =>
    cases hb : derefD S ry with
    | none => rw [ha, hb] at h; exact h.elim
    | some b => rw [ha, hb] at h; exact ⟨a, b, rfl, rfl, h⟩
def dd1 (S : PSt) (rx : Rv) (F : D → Prop) : Prop := match derefD S rx with
  | some a => F a
  | _ => False
theorem dd1_inv {S : PSt} {rx : Rv} {F : D → Prop} (h : dd1 S rx F) : ∃ a, derefD S rx = some a ∧ F a := by
  unfold dd1 at h
  cases ha : derefD S rx with
  | none => rw [ha] at h; exact h.elim
  | some a => rw [ha] at h; exact ⟨a, rfl, h⟩
def addF (Q : D → Prop) : D → D → Prop
  | .int i, .int j => Q (.int (i + j))
  | .str a, .str b => a.length + b.length ≤ 1000000 ∧ Q (.str (a ++ b))
  | .tup a, .tup b => a.length + b.length ≤ 1000000 ∧ Q (.tup (a ++ b))
  | .lst a, .lst b => a.length + b.length ≤ 1000000 ∧ Q (.lst (a ++ b))
  | _, _ => False
def addD (S : PSt) (rx ry : Rv) (Q : D → PSt → Prop) : Prop := dd2 S rx ry (addF fun d => Q d S)
instance simAdd : SimO K e (rAddU K) addD := ⟨fun σ H S T x y rx ry Qd Q w h k => by
  obtain ⟨a, b, ha, hb, h⟩ := dd2_inv h
  obtain ⟨U, wT, vx, vy, w2⟩ := w.two ha hb
  match a, b, h, vx, vy with
  | .int i, .int j, h, vx, vy =>
    rw [vx.int, vy.int]
    exact .inl ⟨i, j, rfl, rfl, k _ _ _ _ h ⟨U, wT.push (.int _)⟩⟩
  | .str i, .str j, h, vx, vy =>
    rw [vx.str, vy.str]
    exact .inr (.inl ⟨i, j, rfl, rfl, big_of h.1, k _ _ _ _ h.2 ⟨U, wT.push (.str _)⟩⟩)
  | .lst ds, .lst es, h, ⟨p, xs, e1, h1, h2⟩, ⟨q, ys, e2, h3, h4⟩ =>
    subst e1 e2
    refine .inr (.inr (.inl ⟨p, q, xs, ys, rfl, rfl, h1, h3, big_of (by rw [h2.len, h4.len]; exact h.1), fun l hl => k _ _ _ _ h.2 ?_⟩))
    exact (wT.newL hl (h2.app h4)).frozen
  | .tup ds, .tup es, h, ⟨p, xs, e1, h1, h2⟩, ⟨q, ys, e2, h3, h4⟩ =>
    subst e1 e2
    refine .inr (.inr (.inr ⟨p, q, xs, ys, rfl, rfl, SqT.same Hd.sub h1, SqT.same Hd.sub h3, big_of (by rw [h2.len, h4.len]; exact h.1), fun z => ?_, fun _ z => ?_, fun _ _ l hl => k _ _ _ _ h.2 (wT.newT hl (h2.app h4))⟩))
    · subst z
      have e0 : ds = [] := List.length_eq_zero_iff.mp h2.len.symm
      subst e0
      exact k _ _ _ _ h.2 ⟨U, wT.push (.tup h3 h4)⟩
    · subst z
      have e0 : es = [] := List.length_eq_zero_iff.mp h4.len.symm
      subst e0
      exact k _ _ _ _ h.2 ⟨U, wT.push (.tup h1 (by rw [List.append_nil]; exact h2))⟩⟩
def tnAdd (ta tb : TDE) : TDN := fun S Q => ta S fun x S1 => tb S1 fun y S2 => dd2 S2 x y fun a b => match a, b with
  | .lst a, .lst b => a.length + b.length ≤ 1000000 ∧ Q (a ++ b) S2
  | _, _ => False
instance simAddN {ta tb : TE} {ta' tb' : TDE} [h1 : SimE K e ta ta'] [h2 : SimE K e tb tb'] : SimN K e (tOp (rAddU K) ta tb) (tnAdd ta' tb') := ⟨fun σ H S T Qd Q x h k => by
  refine h1.run σ H S T _ _ x h fun r1 S1 v1 H1 h1 x1 => ?_
  refine h2.run σ H1 S1 _ _ _ x1 h1 fun r2 S2 v2 H2 h2 x2 => ?_
  obtain ⟨a, b, ha, hb, h⟩ := dd2_inv h2
  obtain ⟨U, wT, vx, vy, w2⟩ := x2.two ha hb
  match a, b, h, vx, vy with
  | .lst ds, .lst es, h, ⟨p, xs, e1, h1, h2⟩, ⟨q, ys, e2, h3, h4⟩ =>
    subst e1 e2
    exact .inr (.inr (.inl ⟨p, q, xs, ys, rfl, rfl, h1, h3, big_of (by rw [h2.len, h4.len]; exact h.1), fun l hl => k _ _ _ _ h.2 (wT.newL hl (h2.app h4))⟩))⟩
def iiF (P : Int → Int → Prop) (f : Int → Int → D) (Q : D → Prop) : D → D → Prop
  | .int i, .int j => P i j ∧ Q (f i j)
  | _, _ => False
def iiD (P : Int → Int → Prop) (f : Int → Int → D) (S : PSt) (rx ry : Rv) (Q : D → PSt → Prop) : Prop := dd2 S rx ry (iiF P f fun d => Q d S)
theorem simII {r : R2} {P : Int → Int → Prop} {f : Int → Int → D} {g : Int → Int → V} (hg : ∀ i j (Tp : Addr → Prop) (H : Hp), Dv K Tp H (g i j) (f i j)) (hr : ∀ i j H (Q : VK), P i j → Q (g i j) H → r (.int i) (.int j) H Q) : SimO K e r (iiD P f) := ⟨fun σ H S T x y rx ry Qd Q w h k => by
  obtain ⟨a, b, ha, hb, h⟩ := dd2_inv h
  obtain ⟨U, wT, vx, vy, w2⟩ := w.two ha hb
  match a, b, h, vx, vy with
  | .int i, .int j, h, vx, vy =>
    rw [vx.int, vy.int]
    exact hr i j H Q h.1 (k _ _ _ _ h.2 ⟨U, wT.push (hg _ _ _ _)⟩)⟩
def rLtI : R2 := rI0 fun i j => .bl (decide (i < j))
def rGtI : R2 := rI0 fun i j => .bl (decide (j < i))
def rGeI : R2 := rI0 fun i j => .bl (decide (j ≤ i))
theorem op_ltU {X : Cx} : OpR X (compareOp .Lt) rLtI := op_lt
theorem op_gtU {X : Cx} : OpR X (compareOp .Gt) rGtI := op_gt
theorem op_geU {X : Cx} : OpR X (compareOp .GtE) rGeI := op_ge
abbrev ltD := iiD (fun _ _ => True) fun i j => .bl (decide (i < j))
abbrev gtD := iiD (fun _ _ => True) fun i j => .bl (decide (j < i))
abbrev geD := iiD (fun _ _ => True) fun i j => .bl (decide (j ≤ i))
instance simLt : SimO K e rLtI ltD := simII (fun _ _ _ _ => .bl _) fun i j H Q _ q => ⟨i, j, rfl, rfl, q⟩
instance simGt : SimO K e rGtI gtD := simII (fun _ _ _ _ => .bl _) fun i j H Q _ q => ⟨i, j, rfl, rfl, q⟩
instance simGe : SimO K e rGeI geD := simII (fun _ _ _ _ => .bl _) fun i j H Q _ q => ⟨i, j, rfl, rfl, q⟩
def toV : D → Option V
  | .non => some .non
  | .bl b => some (.bl b)
  | .int i => some (.int i)
  | .str x => some (.str x)
  | _ => none
def scD (a b : D) : Bool := match toV a, toV b with
  | some x, some y => scal x y
  | _, _ => false
def eqOk (a b : D) : Prop := scD a b = true ∨ ∃ c, okD c a = true ∧ okD c b = true ∧ dpD a ≤ 64 ∧ dpD b ≤ 64
theorem toV_inj : ∀ {a b : D} {x y : V}, toV a = some x → toV b = some y → (decide (x = y) = decide (a = b)) := by
  intro a b x y h1 h2
  cases a <;> simp [toV] at h1 <;> cases b <;> simp [toV] at h2 <;> subst h1 <;> subst h2 <;> simp
theorem Vw.dv0 {Tp U : Addr → Prop} {H : Hp} {v : V} {d : D} {x : V} (h : Vw K Tp U H v d) (e : toV d = some x) : v = x := by
  cases d <;> simp [toV] at e <;> subst e <;> first | exact Vw.non h | exact Vw.bl h | exact Vw.int h | exact Vw.str h
theorem Vw.dp {Tp U : Addr → Prop} {H : Hp} {v : V} {c : Bool} : ∀ {d : D}, Vw K Tp U H v d → okD c d = true → Dp K H v (toP d)
  | .non, h, g => Dv.dp Hd.sub (show Dv K Tp (Hd U H) v .non from h) g
  | .bl b, h, g => Dv.dp Hd.sub (show Dv K Tp (Hd U H) v (.bl b) from h) g
  | .int b, h, g => Dv.dp Hd.sub (show Dv K Tp (Hd U H) v (.int b) from h) g
  | .str b, h, g => Dv.dp Hd.sub (show Dv K Tp (Hd U H) v (.str b) from h) g
  | .ty b, h, g => by simp [okD] at g
  | .tup ds, ⟨a, xs, e1, h, t⟩, g => by rw [okD] at g; rw [toP, e1]; exact .tup (SqT.same Hd.sub h) (DvL.dp Hd.sub t g)
  | .lst ds, ⟨a, xs, e1, h, t⟩, g => by rw [okD] at g; rw [toP, e1]; exact .lst (SqL.of h) (DvL.dp Hd.sub t g)
  | .dct _, h, g => by simp [okD] at g
  | .obj _ _, h, g => by simp [okD] at g
  | .ref _, h, g => by simp [okD] at g
  | .tape, h, g => by simp [okD] at g
  | .scr, h, g => by simp [okD] at g
  | .exc _ _ _ _, h, g => by simp [okD] at g
def eqD (neg : Bool) (S : PSt) (rx ry : Rv) (Q : D → PSt → Prop) : Prop := dd2 S rx ry fun a b => eqOk a b ∧ Q (.bl (if neg then !decide (a = b) else decide (a = b))) S
theorem simEq_ {σ : St} {H : Hp} {S : PSt} {T : List Tm} {x y : V} {rx ry : Rv} {Qd : D → PSt → Prop} {neg : Bool} {C : Prop} (w : R K e σ H S (.v y ry :: .v x rx :: T)) (h : eqD neg S rx ry Qd)
    (k1 : ∀ b, scal x y = true → decide (x = y) = b → Qd (.bl (if neg then !b else b)) S → R K e σ H S T → C) (k2 : ∀ d d' b, Dp K H x d → Dp K H y d' → SeqAt.shaped d = true → SeqAt.shaped d' = true → PyData.eqv d d' = b → Qd (.bl (if neg then !b else b)) S → R K e σ H S T → C) : C := by
  obtain ⟨a, b, ha, hb, h0, h⟩ := dd2_inv h
  obtain ⟨U, wT, vx, vy, w2⟩ := w.two ha hb
  rcases h0 with h0 | ⟨c, h1, h2, h3, h4⟩
  · unfold scD at h0
    cases ea : toV a with
    | none => rw [ea] at h0; exact absurd h0 Bool.false_ne_true
    | some va =>
      cases eb : toV b with
      | none => rw [ea, eb] at h0; exact absurd h0 Bool.false_ne_true
      | some vb =>
        rw [ea, eb] at h0
        have e1 := vx.dv0 ea
        have e2 := vy.dv0 eb
        subst e1 e2
        exact k1 _ h0 rfl (by rw [toV_inj ea eb]; exact h) ⟨U, wT⟩
  · exact k2 _ _ _ (vx.dp h1) (vy.dp h2) (toP_shaped h1 h3) (toP_shaped h2 h4) rfl (by rw [eqv_toP a b h1 h2, beqD_dec]; exact h) ⟨U, wT⟩
theorem R.bl {σ : St} {H : Hp} {S : PSt} {T : List Tm} {b : Bool} (w : R K e σ H S T) : R K e σ H S (.v (.bl b) (.d (.bl b)) :: T) := let ⟨U, w⟩ := w; ⟨U, w.push (.bl b)⟩
instance simEq : SimO K e (rEqU K) (eqD false) := ⟨fun σ H S T x y rx ry Qd Q w h k => simEq_ w h (fun b h1 h2 q w => .inl ⟨h1, by rw [h2]; exact k _ _ _ _ q w.bl⟩) fun d d' b g1 g2 g3 g4 g5 q w => .inr ⟨d, d', g1, g2, g3, g4, by rw [g5]; exact k _ _ _ _ q w.bl⟩⟩
instance simNe : SimO K e (rNeU K) (eqD true) := ⟨fun σ H S T x y rx ry Qd Q w h k => simEq_ w h (fun b h1 h2 q w => .inl ⟨h1, by rw [h2]; exact k _ _ _ _ q w.bl⟩) fun d d' b g1 g2 g3 g4 g5 q w => .inr ⟨d, d', g1, g2, g3, g4, by rw [g5]; exact k _ _ _ _ q w.bl⟩⟩
def isNn : D → Bool
  | .non => true
  | _ => false
end
end Kn
set_option Elab.async false
set_option maxRecDepth 100000
set_option linter.all false
set_option autoImplicit false
namespace Kn
open PySem L2
section
variable {K : PySem.W.Frag} {e : Ent}
def strIn (i j : Str) : Bool := !(Builtin.Str.occurrences j i 0 j.length 1).isEmpty
def fl (c : Bool) : D → Bool
  | .non => true
  | .int _ => !c
  | .bl _ => c
  | .str _ => true
  | _ => false
def keyD : D → Option Key
  | .int i => some (.inl i)
  | .str x => some (.inr x)
  | _ => none
theorem fl_flat {Tp : Addr → Prop} {H : Hp} {v : V} {d : D} {c : Bool} (h : Dv K Tp H v d) (f : fl c d = true) : flatV v = true := by
  cases h <;> simp [fl] at f <;> rfl
theorem fl_eq {Tp : Addr → Prop} {H : Hp} {v w : V} {d d' : D} {c : Bool} (h : Dv K Tp H v d) (h' : Dv K Tp H w d') (f : fl c d = true) (f' : fl c d' = true) : eqV w v = decide (d = d') := by
  cases h <;> simp [fl] at f <;> cases h' <;> simp_all [fl, eqV] <;> (rw [Bool.eq_iff_iff]; simp; constructor <;> exact fun z => z.symm)
theorem fl_all {Tp : Addr → Prop} {H : Hp} {c : Bool} : ∀ {vs : List V} {ds : List D}, DvL K Tp H vs ds → ds.all (fl c) = true → vs.all flatV = true
  | _, _, .nil, _ => rfl
  | _, _, .cons h t, f => by
    rw [List.all_cons, Bool.and_eq_true] at f
    rw [List.all_cons, fl_flat h f.1, fl_all t f.2]; rfl
theorem fl_in {Tp : Addr → Prop} {H : Hp} {c : Bool} {x : V} {d : D} (hx : Dv K Tp H x d) (f0 : fl c d = true) : ∀ {vs : List V} {ds : List D}, DvL K Tp H vs ds → ds.all (fl c) = true → inV x vs = decide (d ∈ ds)
  | _, _, .nil, _ => by simp [inV]
  | w :: vs, d' :: ds, .cons h t, f => by
    rw [List.all_cons, Bool.and_eq_true] at f
    have ih := fl_in hx f0 t f.2
    unfold inV at ih ⊢
    rw [List.any_cons, ih, fl_eq hx h f0 f.1]
    rw [Bool.eq_iff_iff]; simp
def inOk (x : D) (ds : List D) : Prop := ∃ c, (fl c x = true ∧ ds.all (fl c) = true) ∨ (okD c x = true ∧ okL c ds = true ∧ dpD x ≤ 64 ∧ dpL ds < 64)
def inF (Q : Bool → Prop) (x : D) : D → Prop
  | .lst ds => inOk x ds ∧ Q (decide (x ∈ ds))
  | .tup ds => (∃ c, fl c x = true ∧ ds.all (fl c) = true) ∧ Q (decide (x ∈ ds))
  | .str j => match x with
    | .str i => Q (strIn i j)
    | _ => False
  | .dct ks => match keyD x with
    | some k => Q (look ks k).isSome
    | none => False
  | _ => False
def inD (neg : Bool) (S : PSt) (rx ry : Rv) (Q : D → PSt → Prop) : Prop := dd2 S rx ry (inF fun b => Q (.bl (if neg then !b else b)) S)
theorem fl_dv {Tp U : Addr → Prop} {H : Hp} {v : V} {c : Bool} : ∀ {d : D}, Vw K Tp U H v d → fl c d = true → Dv K Tp (Hd U H) v d
  | .non, h, _ => h
  | .bl _, h, _ => h
  | .int _, h, _ => h
  | .str _, h, _ => h
  | .ty _, h, _ => h
  | .tup _, _, f => by simp [fl] at f
  | .lst _, _, f => by simp [fl] at f
  | .dct _, _, f => by simp [fl] at f
  | .obj _ _, _, f => by simp [fl] at f
  | .ref _, h, _ => h
  | .tape, h, _ => h
  | .scr, h, _ => h
  | .exc _ _ _ _, h, _ => h
theorem any_eqv {c : Bool} (d : D) (g : okD c d = true) : ∀ ds : List D, okL c ds = true → ((toPs ds).any fun z => PyData.eqv z (toP d)) = decide (d ∈ ds)
  | [], _ => by simp [toPs]
  | d' :: ds, h => by
    rw [okL, Bool.and_eq_true] at h
    rw [toPs, List.any_cons, any_eqv d g ds h.2, eqv_toP d' d h.1 g, beqD_dec]
    rw [Bool.eq_iff_iff]; simp
    constructor
    · rintro (z | z)
      · exact .inl z.symm
      · exact .inr z
    · rintro (z | z)
      · exact .inl z.symm
      · exact .inr z
theorem keyD_v {Tp U : Addr → Prop} {H : Hp} {v : V} {d : D} {k : Key} (h : Vw K Tp U H v d) (ek : keyD d = some k) : v = kV k := by
  cases d <;> simp [keyD] at ek <;> subst ek
  · exact h.int
  · exact h.str
theorem simIn_ {σ : St} {H : Hp} {S : PSt} {T : List Tm} {x y : V} {rx ry : Rv} {Qd : D → PSt → Prop} {neg : Bool} {C : Prop} (w : R K e σ H S (.v y ry :: .v x rx :: T)) (h : inD neg S rx ry Qd)
    (k1 : ∀ p xs b, y = .ref p → (SqL K H p xs ∨ SqT K H p xs) → flatV x = true → xs.all flatV = true → inV x xs = b → Qd (.bl (if neg then !b else b)) S → R K e σ H S T → C)
    (k2 : ∀ i j, x = .str i → y = .str j → Qd (.bl (if neg then !strIn i j else strIn i j)) S → R K e σ H S T → C)
    (k3 : ∀ a o, y = .ref a → DGet H a x o → Qd (.bl (if neg then !o.isSome else o.isSome)) S → R K e σ H S T → C)
    (k4 : ∀ d ds b, Dp K H x d → Dp K H y (.list ds) → SeqAt.shaped d = true → SeqAt.shaped (.list ds) = true → (ds.any fun z => PyData.eqv z d) = b → Qd (.bl (if neg then !b else b)) S → R K e σ H S T → C) : C := by
  obtain ⟨a, b, ha, hb, h⟩ := dd2_inv h
  obtain ⟨U, wT, vx, vy, w2⟩ := w.two ha hb
  match b, h, vy with
  | .lst ds, ⟨⟨c, .inl h0⟩, h⟩, ⟨p, xs, e1, h1, h2⟩ =>
    subst e1
    have dx := fl_dv vx h0.1
    exact k1 p xs _ rfl (.inl (SqL.of h1)) (fl_flat dx h0.1) (fl_all h2 h0.2) (fl_in dx h0.1 h2 h0.2) h ⟨U, wT⟩
  | .lst ds, ⟨⟨c, .inr ⟨g1, g2, g3, g4⟩⟩, h⟩, ⟨p, xs, e1, h1, h2⟩ =>
    subst e1
    have gl : okD c (.lst ds) = true := by rw [okD]; exact g2
    have dl : dpD (.lst ds) ≤ 64 := by rw [dpD]; omega
    have sh := toP_shaped gl dl
    have dp : Dp K H (.ref p) (toP (.lst ds)) := Vw.dp (d := .lst ds) ⟨p, xs, rfl, h1, h2⟩ gl
    rw [toP] at sh dp
    exact k4 _ _ _ (vx.dp g1) dp (toP_shaped g1 g3) sh (any_eqv a g1 ds g2) h ⟨U, wT⟩
  | .tup ds, ⟨⟨c, h0⟩, h⟩, ⟨p, xs, e1, h1, h2⟩ =>
    subst e1
    have dx := fl_dv vx h0.1
    exact k1 p xs _ rfl (.inr (SqT.same Hd.sub h1)) (fl_flat dx h0.1) (fl_all h2 h0.2) (fl_in dx h0.1 h2 h0.2) h ⟨U, wT⟩
  | .str j, h, vy =>
    match a, h, vx with
    | .str i, h, vx => exact k2 i j vx.str vy.str h ⟨U, wT⟩
  | .dct ks, h, ⟨p, xs, e1, h1, h2⟩ =>
    rw [inF] at h
    cases q : keyD a with
    | none => rw [q] at h; exact h.elim
    | some k =>
      rw [q] at h
      refine k3 p (valV xs k) e1 (.inl ⟨xs, k, h1, keyD_v vx q, rfl⟩) ?_ ⟨U, wT⟩
      rw [valV_look h2]; exact h
instance simIn : SimO K e (rInU K) (inD false) := ⟨fun σ H S T x y rx ry Qd Q w h k => simIn_ w h (fun p xs b h1 h2 h3 h4 h5 q w => .inl ⟨p, xs, h1, h2, h3, h4, by rw [h5]; exact k _ _ _ _ q w.bl⟩) (fun i j h1 h2 q w => .inr (.inl ⟨i, j, h1, h2, k _ _ _ _ q w.bl⟩))
  (fun a o h1 h2 q w => .inr (.inr (.inl ⟨a, o, h1, h2, k _ _ _ _ q w.bl⟩))) fun d ds b h1 h2 h3 h4 h5 q w => .inr (.inr (.inr ⟨d, ds, h1, h2, h3, h4, by rw [h5]; exact k _ _ _ _ q w.bl⟩))⟩
instance simNotIn : SimO K e (rNotInU K) (inD true) := ⟨fun σ H S T x y rx ry Qd Q w h k => simIn_ w h (fun p xs b h1 h2 h3 h4 h5 q w => .inl ⟨p, xs, h1, h2, h3, h4, by rw [h5]; exact k _ _ _ _ q w.bl⟩) (fun i j h1 h2 q w => .inr (.inl ⟨i, j, h1, h2, k _ _ _ _ q w.bl⟩))
  (fun a o h1 h2 q w => .inr (.inr (.inl ⟨a, o, h1, h2, k _ _ _ _ q w.bl⟩))) fun d ds b h1 h2 h3 h4 h5 q w => .inr (.inr (.inr ⟨d, ds, h1, h2, h3, h4, by rw [h5]; exact k _ _ _ _ q w.bl⟩))⟩
def opt {α : Type} (o : Option α) (F : α → Prop) : Prop := match o with
  | some a => F a
  | none => False
theorem opt_inv {α : Type} {o : Option α} {F : α → Prop} (h : opt o F) : ∃ a, o = some a ∧ F a := by
  cases o with
  | none => exact h.elim
  | some a => exact ⟨a, rfl, h⟩
def ixF (Q : D → Prop) : D → D → Prop
  | .lst ds, .int i => opt (atI ds i) Q
  | .tup ds, .int i => opt (atI ds i) Q
  | .str z, .int i => z.length ≤ 1000000 ∧ opt (atI z.cps.toList i) fun c => Q (.str ⟨#[c]⟩)
  | .dct ks, .int i => opt (look ks (.inl i)) Q
  | .dct ks, .str x => opt (look ks (.inr x)) Q
  | _, _ => False
def ixD (S : PSt) (rx ry : Rv) (Q : D → PSt → Prop) : Prop := dd2 S rx ry (ixF fun d => Q d S)
theorem DvL.atI {Tp : Addr → Prop} {H : Hp} {vs : List V} {ds : List D} {i : Int} {d : D} (h : DvL K Tp H vs ds) (he : L2.atI ds i = some d) : ∃ v, L2.atI vs i = some v ∧ Dv K Tp H v d := by
  unfold L2.atI at he ⊢
  rw [h.len]
  obtain ⟨j, h1, h2⟩ := Option.bind_eq_some_iff.mp he
  rw [h1]
  exact h.get h2
instance simIx : SimO K e (rIxU K) ixD := ⟨fun σ H S T x y rx ry Qd Q w h k => by
  obtain ⟨a, b, ha, hb, h⟩ := dd2_inv h
  obtain ⟨U, wT, vx, vy, w2⟩ := w.two ha hb
  match a, b, h, vx, vy with
  | .lst ds, .int i, h, ⟨p, xs, e1, h1, h2⟩, vy =>
    obtain ⟨d, h3, h4⟩ := opt_inv h
    obtain ⟨v, h5, h6⟩ := h2.atI h3
    subst e1
    rw [vy.int]
    exact .inl (.inl ⟨p, xs, i, v, rfl, rfl, SqL.of h1, h5, k _ _ _ _ h4 ⟨U, wT.push h6⟩⟩)
  | .tup ds, .int i, h, ⟨p, xs, e1, h1, h2⟩, vy =>
    obtain ⟨d, h3, h4⟩ := opt_inv h
    obtain ⟨v, h5, h6⟩ := h2.atI h3
    subst e1
    rw [vy.int]
    exact .inl (.inr (.inl ⟨p, xs, i, v, rfl, rfl, SqT.same Hd.sub h1, h5, k _ _ _ _ h4 ⟨U, wT.push h6⟩⟩))
  | .str z, .int i, ⟨h0, h⟩, vx, vy =>
    obtain ⟨c, h3, h4⟩ := opt_inv h
    rw [vx.str, vy.int]
    exact .inl (.inr (.inr ⟨z, i, c, rfl, rfl, big_of h0, h3, k _ _ _ _ h4 ⟨U, wT.push (.str _)⟩⟩))
  | .dct ks, .int i, h, ⟨p, xs, e1, h1, h2⟩, vy =>
    obtain ⟨d, h3, h4⟩ := opt_inv h
    obtain ⟨v, h5, h6⟩ := h2.look_some h3
    subst e1
    rw [vy.int]
    exact .inr ⟨p, v, rfl, .inl ⟨xs, .inl i, h1, rfl, h5.symm⟩, k _ _ _ _ h4 ⟨U, wT.push h6⟩⟩
  | .dct ks, .str i, h, ⟨p, xs, e1, h1, h2⟩, vy =>
    obtain ⟨d, h3, h4⟩ := opt_inv h
    obtain ⟨v, h5, h6⟩ := h2.look_some h3
    subst e1
    rw [vy.str]
    exact .inr ⟨p, v, rfl, .inl ⟨xs, .inr i, h1, rfl, h5.symm⟩, k _ _ _ _ h4 ⟨U, wT.push h6⟩⟩⟩
abbrev TDO := PSt → (Option Int → PSt → Prop) → Prop
class SimP (K : PySem.W.Frag) (e : Ent) (te : TO) (t : outParam TDO) : Prop where
  run : ∀ (σ : St) (H : Hp) (S : PSt) (T : List Tm) (Qd : Option Int → PSt → Prop) (Q : Option Int → Hp → Prop), R K e σ H S T → t S Qd → (∀ b S' H', Qd b S' → R K e σ H' S' T → Q b H') → te σ H Q
def tdNoPart : TDO := fun S Q => Q none S
def asI (r : Rv) (F : Int → Prop) : Prop := match r with
  | .d (.int b) => F b
  | _ => False
def tdPart (t : TDE) : TDO := fun S Q => t S fun r S1 => asI r fun i => Q (some i) S1
instance simNoPart : SimP K e tNoPart tdNoPart := ⟨fun σ H S T Qd Q x h k => k _ _ _ h x⟩
instance simPart {te : TE} {t : TDE} [h : SimE K e te t] : SimP K e (tPart te) (tdPart t) := ⟨fun σ H S T Qd Q x ht k => by
  refine h.run σ H S T _ _ x ht fun r S1 v H1 h1 x1 => ?_
  match r, h1, x1 with
  | .d (.int b), h1, ⟨U, x1⟩ =>
    have hv : Dv K S1.W.Tp (Hd U H1) v (.int b) := x1.tmp (.v v (.d (.int b))) (by simp)
    cases hv
    exact ⟨b, rfl, k _ _ _ h1 (R.pop ⟨U, x1⟩)⟩⟩
def cut {α : Type} (xs : List α) (lo hi : Option Int) : List α := (xs.drop (HT.sIx xs.length 0 lo)).take (HT.sIx xs.length xs.length hi - HT.sIx xs.length 0 lo)
theorem DvL.cut {Tp : Addr → Prop} {H : Hp} {vs : List V} {ds : List D} {lo hi : Option Int} (h : DvL K Tp H vs ds) : DvL K Tp H (cutV vs lo hi) (Kn.cut ds lo hi) := by
  unfold cutV Kn.cut
  rw [h.len]
  exact (h.drop _).take _
def slF (lo hi : Option Int) (Q : D → Prop) : D → Prop
  | .lst ds => Q (.lst (cut ds lo hi))
  | .tup ds => Q (.tup (cut ds lo hi))
  | .str z => z.length ≤ 1000000 ∧ Q (.str (cutS z lo hi))
  | _ => False
def tdSl (te : TDE) (tl th : TDO) : TDE := fun S Q => te S fun r S1 => tl S1 fun lo S2 => th S2 fun hi S3 => dd1 S3 r (slF lo hi fun d => Q (.d d) S3)
theorem cut_all {α : Type} {xs : List α} {lo hi : Option Int} (h : HT.sIx xs.length 0 lo = 0 ∧ HT.sIx xs.length xs.length hi = xs.length) : cut xs lo hi = xs := by
  unfold cut
  rw [h.1, h.2]; simp
instance simSl {te : TE} {tl th : TO} {te' : TDE} {tl' th' : TDO} [h1 : SimE K e te te'] [h2 : SimP K e tl tl'] [h3 : SimP K e th th'] : SimE K e (tSl (rSlU K) te tl th) (tdSl te' tl' th') := ⟨fun σ H S T Qd Q x h k => by
  refine h1.run σ H S T _ _ x h fun r S1 v H1 h1 x1 => ?_
  refine h2.run σ H1 S1 _ _ _ x1 h1 fun lo S2 H2 h2 x2 => ?_
  refine h3.run σ H2 S2 _ _ _ x2 h2 fun hi S3 H3 h3 x3 => ?_
  obtain ⟨a, ha, h⟩ := dd1_inv h3
  obtain ⟨U, wT, vx, w2⟩ := x3.one ha
  match a, h, vx with
  | .lst ds, h, ⟨p, xs, e1, g1, g2⟩ =>
    subst e1
    exact .inl ⟨p, xs, rfl, SqL.of g1, fun q hq => k _ _ _ _ h (wT.newL hq g2.cut).frozen⟩
  | .tup ds, h, ⟨p, xs, e1, g1, g2⟩ =>
    subst e1
    refine .inr (.inl ⟨p, xs, rfl, SqT.same Hd.sub g1, fun z => ?_, fun _ q hq => k _ _ _ _ h (wT.newT hq g2.cut)⟩)
    rw [g2.len] at z
    rw [slF, cut_all z] at h
    exact k _ _ _ _ h ⟨U, wT.push (.tup g1 g2)⟩
  | .str z, ⟨h0, h⟩, vx =>
    exact .inr (.inr ⟨z, vx.str, big_of h0, k _ _ _ _ h ⟨U, wT.push (.str _)⟩⟩)⟩
def tnSl (te : TDE) (tl th : TDO) : TDN := fun S Q => te S fun r S1 => tl S1 fun lo S2 => th S2 fun hi S3 => dd1 S3 r fun d => match d with
  | .lst ds => Q (cut ds lo hi) S3
  | _ => False
def tdRevT (te : TDE) (tk : TDO) : TDE := fun S Q => te S fun r S1 => tk S1 fun o S2 => o = some (-1) ∧ dd1 S2 r fun d => match d with
  | .tup ds => Q (.d (.tup ds.reverse)) S2
  | _ => False
def tnRevL (te : TDE) (tk : TDO) : TDN := fun S Q => te S fun r S1 => tk S1 fun o S2 => o = some (-1) ∧ dd1 S2 r fun d => match d with
  | .lst ds => Q ds.reverse S2
  | _ => False
instance simRevL {te : TE} {tk : TO} {te' : TDE} {tk' : TDO} [h1 : SimE K e te te'] [h2 : SimP K e tk tk'] : SimN K e (Kn.tRevL K te tk) (tnRevL te' tk') := ⟨fun σ H S T Qd Q x h k => by
  refine h1.run σ H S T _ _ x h fun r S1 v H1 h1 x1 => ?_
  refine h2.run σ H1 S1 _ _ _ x1 h1 fun o S2 H2 h2 x2 => ?_
  obtain ⟨a, ha, h⟩ := dd1_inv h2.2
  obtain ⟨U, wT, vx, w2⟩ := x2.one ha
  match a, h, vx with
  | .lst ds, h, ⟨p, xs, e1, g1, g2⟩ =>
    subst e1
    exact ⟨h2.1, p, xs, rfl, SqL.of g1, fun q hq => k _ _ _ _ h (wT.newL hq g2.rev)⟩⟩
end
end Kn
set_option Elab.async false
set_option maxRecDepth 100000
set_option linter.all false
set_option autoImplicit false
namespace Kn
open PySem L2
section
variable {K : PySem.W.Frag} {e : Ent}
def arg1 (rs : List Rv) (F : Rv → Prop) : Prop := match rs with
  | [r] => F r
  | _ => False
def arg2 (rs : List Rv) (F : Rv → Rv → Prop) : Prop := match rs with
  | [r, q] => F r q
  | _ => False
theorem arg1_inv {rs : List Rv} {F : Rv → Prop} (h : arg1 rs F) : ∃ r, rs = [r] ∧ F r := by
  match rs, h with
  | [r], h => exact ⟨r, rfl, h⟩
theorem arg2_inv {rs : List Rv} {F : Rv → Rv → Prop} (h : arg2 rs F) : ∃ r q, rs = [r, q] ∧ F r q := by
  match rs, h with
  | [r, q], h => exact ⟨r, q, rfl, h⟩
theorem len1 {vs : List V} (h : vs.length = 1) : ∃ v, vs = [v] := by
  match vs, h with
  | [v], _ => exact ⟨v, rfl⟩
theorem len2 {vs : List V} (h : vs.length = 2) : ∃ v w, vs = [v, w] := by
  match vs, h with
  | [v, w], _ => exact ⟨v, w, rfl⟩
theorem simC1 {r : List V → Hp → VK → Prop} {F : PSt → (D → Prop) → D → Prop}
    (hr : ∀ (σ : St) (H : Hp) (S : PSt) (T : List Tm) (U : Addr → Prop) (v : V) (a : D) (Qd : D → PSt → Prop) (Q : VK), RU K e σ H S T U → Vw K S.W.Tp U H v a → F S (fun d => Qd d S) a → (∀ d v' H', Qd d S → R K e σ H' S (.v v' (.d d) :: T) → Q v' H') → r [v] H Q) :
    SimC K e r (fun S rs Q => arg1 rs fun x => dd1 S x (F S fun d => Q d S)) := ⟨fun σ H S T vs rs Qd Q hl x h k => by
  obtain ⟨r1, rfl, h⟩ := arg1_inv h
  obtain ⟨v, rfl⟩ := len1 hl
  obtain ⟨a, ha, h⟩ := dd1_inv h
  obtain ⟨U, wT, vx, _⟩ := R.one (T := T) x ha
  exact hr σ H S T U v a Qd Q wT vx h fun d v' H' q x' => k _ _ _ _ q x'⟩
def lenF (_ : PSt) (Q : D → Prop) : D → Prop
  | .lst ds => Q (.int ds.length)
  | .tup ds => Q (.int ds.length)
  | .str z => z.length ≤ 1000000 ∧ Q (.int z.length)
  | .dct ks => Q (.int ks.length)
  | _ => False
instance simLen : SimC K e (rLenU K) (fun S rs Q => arg1 rs fun x => dd1 S x (lenF S fun d => Q d S)) := simC1 fun σ H S T U v a Qd Q x vw h k => by
  match a, h, vw with
  | .lst ds, h, ⟨p, xs, e1, h1, h2⟩ => subst e1; exact .inl ⟨p, xs, rfl, .inl (SqL.of h1), by rw [h2.len]; exact k _ _ _ h ⟨U, x.push (.int _)⟩⟩
  | .tup ds, h, ⟨p, xs, e1, h1, h2⟩ => subst e1; exact .inl ⟨p, xs, rfl, .inr (SqT.same Hd.sub h1), by rw [h2.len]; exact k _ _ _ h ⟨U, x.push (.int _)⟩⟩
  | .str z, h, vw => rw [vw.str]; exact .inr (.inl ⟨z, rfl, big_of h.1, k _ _ _ h.2 ⟨U, x.push (.int _)⟩⟩)
  | .dct ds, h, ⟨p, xs, e1, h1, h2⟩ => subst e1; exact .inr (.inr ⟨p, xs, rfl, h1, by rw [h2.len]; exact k _ _ _ h ⟨U, x.push (.int _)⟩⟩)
def tyN : D → Option String
  | .non => some "NoneType"
  | .bl _ => some "bool"
  | .int _ => some "int"
  | .str _ => some "str"
  | .lst _ => some "list"
  | .tup _ => some "tuple"
  | .dct _ => some "dict"
  | _ => none
theorem tyN_ty {Tp U : Addr → Prop} {H : Hp} {v : V} : ∀ {d : D} {n : String}, Vw K Tp U H v d → tyN d = some n → TyX K H v (.type n)
  | .non, _, h, q => by cases q; rw [Vw.non h]; exact .base .non
  | .bl b, _, h, q => by cases q; rw [Vw.bl h]; exact .base (.bl b)
  | .int b, _, h, q => by cases q; rw [Vw.int h]; exact .base (.int b)
  | .str b, _, h, q => by cases q; rw [Vw.str h]; exact .base (.str b)
  | .lst ds, _, ⟨a, xs, e1, h1, _⟩, q => by cases q; subst e1; exact .base (.lst h1)
  | .tup ds, _, ⟨a, xs, e1, h1, _⟩, q => by
    cases q; subst e1
    rcases SqT.same Hd.sub h1 with (h | ⟨o, h⟩) | ⟨o, its, n, h, c, _⟩
    · exact .base (.tup h)
    · exact .fTuple h
    · exact .kTuple h c
  | .dct ds, _, ⟨a, xs, e1, h1, _⟩, q => by
    cases q; subst e1
    rcases h1 with h | ⟨o, h⟩
    · exact .base (.dK h)
    · exact .fDict h
def isB (a b : String) : Bool := decide (a = b) || (decide (a = "bool") && decide (b = "int"))
def tyOk (n : String) : Bool := decide (n ∈ ["str", "tuple", "list", "int", "bool", "dict"])
theorem isB_kit : ∀ a ∈ ["NoneType", "bool", "int", "str", "list", "tuple", "dict"], ∀ b ∈ ["str", "tuple", "list", "int", "bool", "dict"], kitB a b = some (isB a b) := by decide +kernel
theorem tyN_mem {d : D} {n : String} (h : tyN d = some n) : n ∈ ["NoneType", "bool", "int", "str", "list", "tuple", "dict"] := by
  cases d <;> simp [tyN] at h <;> subst h <;> simp
theorem kit_isB {a b : String} (ha : a ∈ ["NoneType", "bool", "int", "str", "list", "tuple", "dict"]) (hb : tyOk b = true) : PySem.W.kitOne K (.type a) (.type b) = some (isB a b) := kit_ty (isB_kit a ha b (of_decide_eq_true hb))
def isiF (S : PSt) (n : String) (Q : D → Prop) (a : D) : Prop := tyOk n = true ∧ opt (tyN a) fun t => Q (.bl (isB t n))
def isiD (S : PSt) (rs : List Rv) (Q : D → PSt → Prop) : Prop := arg2 rs fun x c => match c with
  | .d (.ty n) => dd1 S x (isiF S n fun d => Q d S)
  | _ => False
instance simIsi : SimC K e (rIsi K) isiD := ⟨fun σ H S T vs rs Qd Q hl x h k => by
  obtain ⟨r1, r2, rfl, h⟩ := arg2_inv h
  obtain ⟨v, w, rfl⟩ := len2 hl
  match r2, h, x with
  | .d (.ty n), h, x =>
    obtain ⟨a, ha, h0, h⟩ := dd1_inv h
    obtain ⟨t, ht, h⟩ := opt_inv h
    obtain ⟨U, x⟩ := x
    have hw : Dv K S.W.Tp (Hd U H) w (.ty n) := x.tmp (.v w (.d (.ty n))) (by simp [tms])
    cases hw
    have vw := x.vw (x.tmp (.v v r1) (by simp [tms])) ha
    exact ⟨v, .ty n, .type t, .type n, _, rfl, .ty n, tyN_ty vw ht, kit_isB (tyN_mem ht) h0, k _ _ _ _ h ⟨U, (x.less fun p hp => by simp [tms, hp]).push (.bl _)⟩⟩⟩
def tysOf : List Rv → Option (List String)
  | [] => some []
  | .d (.ty n) :: rs => (tysOf rs).map (n :: ·)
  | _ => none
def tdIsiT (tx : TDE) (ta : TDA) : TDE := fun S Q => tx S fun x S1 => ta S1 fun rs S2 => opt (tysOf rs) fun ns => ns.all tyOk = true ∧ rs.length ≤ 1000 ∧ dd1 S2 x fun a => opt (tyN a) fun t => Q (.d (.bl (ns.any (isB t)))) S2
theorem tysOf_cls {σ : St} {H : Hp} {S : PSt} {T : List Tm} {U : Addr → Prop} : ∀ {rs : List Rv} {vs : List V} {ns : List String}, vs.length = rs.length → RU K e σ H S (tms vs rs ++ T) U → tysOf rs = some ns → vs = ns.map V.ty
  | [], [], _, _, _, h => by cases h; rfl
  | .d (.ty n) :: rs, v :: vs, ns, hl, x, h => by
    rw [tysOf] at h
    obtain ⟨ms, h1, rfl⟩ := Option.map_eq_some_iff.mp h
    have hw : Dv K S.W.Tp (Hd U H) v (.ty n) := x.tmp (.v v (.d (.ty n))) (by simp [tms])
    cases hw
    rw [tysOf_cls (by simpa using hl) (x.less fun p hp => List.mem_cons_of_mem _ hp) h1]; rfl
theorem paired_cls : ∀ ns : List String, Paired ClsV (ns.map V.ty) (ns.map Value.type)
  | [] => .nil
  | n :: ns => .cons (.ty n) (paired_cls ns)
theorem kitAny_ty {t : String} (ht : t ∈ ["NoneType", "bool", "int", "str", "list", "tuple", "dict"]) : ∀ ns : List String, ns.all tyOk = true → PySem.W.kitAny K (.type t) (ns.map Value.type) = some (ns.any (isB t))
  | [], _ => rfl
  | n :: ns, h => by
    rw [List.all_cons, Bool.and_eq_true] at h
    rw [List.map_cons, PySem.W.kitAny, kit_isB ht h.1, List.any_cons]
    cases isB t n with
    | true => rfl
    | false => rw [Bool.false_or]; exact kitAny_ty ht ns h.2
instance simIsiT {tx : TE} {ta : TA} {tx' : TDE} {ta' : TDA} [h1 : SimE K e tx tx'] [h2 : SimA K e ta ta'] : SimE K e (tCB (rIsiT K) (tCons tx (tCons (tTup ta) tNil))) (tdIsiT tx' ta') := ⟨fun σ H S T Qd Q x h k => by
  refine h1.run σ H S T _ _ x h fun r S1 v H1 h1 x1 => ?_
  refine h2.run σ H1 S1 _ _ _ x1 h1 fun rs S2 vs H2 h2 hl x2 => ?_
  obtain ⟨ns, hn, h0, hz, h3⟩ := opt_inv h2
  obtain ⟨a, ha, h⟩ := dd1_inv h3
  obtain ⟨t, ht, h⟩ := opt_inv h
  obtain ⟨U, x2⟩ := x2
  have ev := tysOf_cls hl x2 hn
  refine ⟨Nat.le_trans (by rw [hl]; exact hz) (show 1000 ≤ sizeLine by decide), fun p hp => ?_⟩
  have x3 := x2.alloc (o := .tup vs) hp
  have vw := x3.vw (x3.tmp (.v v r) (by simp)) ha
  refine ⟨v, p, vs, .type t, ns.map Value.type, _, rfl, upd_same, by rw [ev]; exact paired_cls ns, tyN_ty vw ht, kitAny_ty (tyN_mem ht) ns h0, k _ _ _ _ h ⟨U, (x3.less fun p hp => by simp [hp]).push (.bl _)⟩⟩⟩
def tupF (_ : PSt) (Q : D → Prop) : D → Prop
  | .lst ds => Q (.tup ds)
  | .tup ds => Q (.tup ds)
  | _ => False
instance simTupleOf : SimC K e (rTupleOf K) (fun S rs Q => arg1 rs fun x => dd1 S x (tupF S fun d => Q d S)) := simC1 fun σ H S T U v a Qd Q x vw h k => by
  match a, h, vw with
  | .lst ds, h, ⟨p, xs, e1, h1, h2⟩ => subst e1; exact ⟨p, xs, rfl, .inl ⟨SqL.of h1, fun l hl => k _ _ _ h (x.newT hl h2)⟩⟩
  | .tup ds, h, ⟨p, xs, e1, h1, h2⟩ => subst e1; exact ⟨p, xs, rfl, .inr ⟨SqT.same Hd.sub h1, k _ _ _ h ⟨U, x.push (.tup h1 h2)⟩⟩⟩
theorem simCN1 {r : List V → Hp → VK → Prop} {F : PSt → (List D → Prop) → D → Prop}
    (hr : ∀ (σ : St) (H : Hp) (S : PSt) (T : List Tm) (U : Addr → Prop) (v : V) (a : D) (Qd : List D → PSt → Prop) (Q : VK), RU K e σ H S T U → Vw K S.W.Tp U H v a → F S (fun d => Qd d S) a → (∀ ds l H', Qd ds S → RN K e σ H' S T l ds → Q (.ref l) H') → r [v] H Q) :
    SimCN K e r (fun S rs Q => arg1 rs fun x => dd1 S x (F S fun d => Q d S)) := ⟨fun σ H S T vs rs Qd Q hl x h k => by
  obtain ⟨r1, rfl, h⟩ := arg1_inv h
  obtain ⟨v, rfl⟩ := len1 hl
  obtain ⟨a, ha, h⟩ := dd1_inv h
  obtain ⟨U, wT, vx, _⟩ := R.one (T := T) x ha
  exact hr σ H S T U v a Qd Q wT vx h fun d v' H' q x' => k _ _ _ _ q x'⟩
def keyV : Key → D
  | .inl i => .int i
  | .inr x => .str x
def bls : List D → Option (List Bool)
  | [] => some []
  | .bl b :: ds => (bls ds).map (b :: ·)
  | _ => none
def nts : List D → Option (List Int)
  | [] => some []
  | .int b :: ds => (nts ds).map (b :: ·)
  | _ => none
theorem bls_some : ∀ {ds : List D} {bs : List Bool}, bls ds = some bs → ds = bs.map D.bl
  | [], _, h => by cases h; rfl
  | .bl b :: ds, _, h => by
    rw [bls] at h
    obtain ⟨ms, h1, rfl⟩ := Option.map_eq_some_iff.mp h
    rw [bls_some h1]; rfl
theorem nts_some : ∀ {ds : List D} {bs : List Int}, nts ds = some bs → ds = bs.map D.int
  | [], _, h => by cases h; rfl
  | .int b :: ds, _, h => by
    rw [nts] at h
    obtain ⟨ms, h1, rfl⟩ := Option.map_eq_some_iff.mp h
    rw [nts_some h1]; rfl
theorem bls_mapF {α : Type} (f : α → Bool) : ∀ xs : List α, bls (xs.map fun x => D.bl (f x)) = some (xs.map f)
  | [] => rfl
  | b :: bs => by rw [List.map_cons, bls, bls_mapF f bs]; rfl
theorem nts_map : ∀ bs : List Int, nts (bs.map D.int) = some bs
  | [] => rfl
  | b :: bs => by rw [List.map_cons, nts, nts_map bs]; rfl
def allF (_ : PSt) (Q : D → Prop) : D → Prop
  | .lst ds => opt (bls ds) fun bs => Q (.bl (bs.all id))
  | _ => False
instance simAll : SimC K e (rAll K) (fun S rs Q => arg1 rs fun x => dd1 S x (allF S fun d => Q d S)) := simC1 fun σ H S T U v a Qd Q x vw h k => by
  match a, h, vw with
  | .lst ds, h, ⟨p, xs, e1, h1, h2⟩ =>
    subst e1
    obtain ⟨bs, q, h⟩ := opt_inv h
    rw [bls_some q] at h2
    rw [h2.bls_inv] at h1
    exact ⟨p, bs, rfl, SqL.of h1, k _ _ _ h ⟨U, x.push (.bl _)⟩⟩
def srt (ns : List Int) : List Int := ns.mergeSort fun a b => decide (a ≤ b)
theorem srt_perm (ns : List Int) : (srt ns).Perm ns := List.mergeSort_perm ns _
theorem srt_sorted (ns : List Int) : (srt ns).Pairwise (· ≤ ·) := by
  have := List.pairwise_mergeSort (le := fun a b : Int => decide (a ≤ b)) (fun a b c h1 h2 => by simp at *; omega) (fun a b => by simp; omega) ns
  exact this.imp fun h => by simpa using h
theorem sorted_unique : ∀ {xs ys : List Int}, xs.Perm ys → xs.Pairwise (· ≤ ·) → ys.Pairwise (· ≤ ·) → xs = ys
  | [], ys, h, _, _ => (List.Perm.nil_eq h)
  | x :: xs, [], h, _, _ => by have := h.length_eq; simp at this
  | x :: xs, y :: ys, h, hx, hy => by
    have hx' := List.pairwise_cons.mp hx
    have hy' := List.pairwise_cons.mp hy
    have e1 : x = y := by
      have m1 : x ∈ y :: ys := h.mem_iff.mp (by simp)
      have m2 : y ∈ x :: xs := h.mem_iff.mpr (by simp)
      rcases List.mem_cons.mp m1 with z | z
      · exact z
      · rcases List.mem_cons.mp m2 with z2 | z2
        · exact z2.symm
        · have := hy'.1 x z
          have := hx'.1 y z2
          omega
    subst e1
    rw [sorted_unique (List.Perm.cons_inv h) hx'.2 hy'.2]
def sortF (_ : PSt) (Q : List D → Prop) : D → Prop
  | .lst ds => opt (nts ds) fun ns => ns.length < 64 ∧ Q ((srt ns).map D.int)
  | _ => False
instance simSorted : SimCN K e (rSorted K) (fun S rs Q => arg1 rs fun x => dd1 S x (sortF S fun d => Q d S)) := simCN1 fun σ H S T U v a Qd Q x vw h k => by
  match a, h, vw with
  | .lst ds, h, ⟨p, xs, e1, h1, h2⟩ =>
    subst e1
    obtain ⟨ns, q, h0, h⟩ := opt_inv h
    rw [nts_some q] at h2
    rw [h2.ints_inv] at h1
    refine ⟨p, ns, rfl, SqL.of h1, h0, fun ns' l hp hs hl => ?_⟩
    have e2 : ns' = srt ns := sorted_unique (hp.trans (srt_perm ns).symm) hs (srt_sorted ns)
    subst e2
    exact k _ _ _ h (x.newL hl (DvL.ints _))
def rInt1 : List V → Hp → VK → Prop := fun xs H Q => (∃ i, xs = [.int i] ∧ Q (.int i) H) ∨ ∃ k, xs = [.bl k] ∧ Q (.int (if k then 1 else 0)) H
theorem call_intU {X : Cx} : CallR X (.type "int") rInt1 := call_int1
def intF (_ : PSt) (Q : D → Prop) : D → Prop
  | .int i => Q (.int i)
  | .bl b => Q (.int (if b then 1 else 0))
  | _ => False
instance simInt1 : SimC K e rInt1 (fun S rs Q => arg1 rs fun x => dd1 S x (intF S fun d => Q d S)) := simC1 fun σ H S T U v a Qd Q x vw h k => by
  match a, h, vw with
  | .int i, h, vw => rw [vw.int]; exact .inl ⟨i, rfl, k _ _ _ h ⟨U, x.push (.int _)⟩⟩
  | .bl i, h, vw => rw [vw.bl]; exact .inr ⟨i, rfl, k _ _ _ h ⟨U, x.push (.int _)⟩⟩
def rStr1 : List V → Hp → VK → Prop := fun xs H Q => ∃ i, xs = [.int i] ∧ i.natAbs.log2 < 1920 ∧ Q (.str (toString i)) H
theorem call_strU {X : Cx} : CallR X (.type "str") rStr1 := call_str_int
def strF (_ : PSt) (Q : D → Prop) : D → Prop
  | .int i => i.natAbs.log2 < 1920 ∧ Q (.str (toString i))
  | _ => False
instance simStr1 : SimC K e rStr1 (fun S rs Q => arg1 rs fun x => dd1 S x (strF S fun d => Q d S)) := simC1 fun σ H S T U v a Qd Q x vw h k => by
  match a, h, vw with
  | .int i, h, vw => rw [vw.int]; exact ⟨i, rfl, h.1, k _ _ _ h.2 ⟨U, x.push (.str _)⟩⟩
end
end Kn
set_option Elab.async false
set_option maxRecDepth 100000
set_option linter.all false
set_option autoImplicit false
namespace Kn
open PySem L2
section
variable {K : PySem.W.Frag} {e : Ent}
theorem RU.slots {σ σ' : St} {H : Hp} {S : PSt} {T : List Tm} {U : Addr → Prop} {ρ' : List (Option PC)} (x : RU K e σ H S T U) (hl : σ'.length = ρ'.length) (h : ∀ (i : Nat) (c : PC), ρ'[i]? = some (some c) → S.ρ[i]? = some (some c) ∧ σ'[i]? = σ[i]?) (hT : NoOwn T) : RU K e σ' H ⟨ρ', S.W⟩ T U where
  wo := x.wo
  fr := x.fr
  ed := x.ed
  len := hl
  slot := fun i c hi => by
    obtain ⟨h1, h2⟩ := h i c hi
    rw [h2]; exact x.slot i c h1
  sep := fun i j c c' l n hi oi hj oj si sj => by
    obtain ⟨h1, h2⟩ := h i c hi
    obtain ⟨h3, h4⟩ := h j c' hj
    rw [h2] at si
    rw [h4] at sj
    exact x.sep i j c c' l n h1 oi h3 oj si sj
  tmp := fun p hp => by
    have := x.tmp p hp
    match p, this, hT p hp with
    | .v w (.d d), h, _ => exact h
    | .v w (.own j), h, n => exact (n w j rfl).elim
    | .pin b o w, h, _ => exact h
    | .nw m ds, ⟨o, ms, h2⟩, _ =>
      refine ⟨o, fun i c hi oc => ?_, h2⟩
      obtain ⟨h1, h3⟩ := h i c hi
      rw [h3]; exact ms i c h1 oc
def tdNext : TDS := fun E S => E.nx S
def tdSeq (t u : TDS) : TDS := fun E S => t { E with nx := u E } S
instance simNext : SimS K e tNext tdNext := ⟨fun σ H S T Ed E hT x h k => k.nx _ _ _ h x⟩
def tdDrop (te : TDE) : TDS := fun E S => te S fun _ S1 => E.nx S1
instance simDrop {te : TE} {t : TDE} [h1 : SimE K e te t] : SimS K e (tDrop te) (tdDrop t) := ⟨fun σ H S T Ed E hT x h k => h1.run σ H S T _ _ x h fun r S1 v H1 h2 x1 => k.nx _ _ _ h2 x1.pop⟩
def tdRet (te : TDE) : TDS := fun E S => te S fun r S1 => frc r S1 fun d S2 => E.rt d S2.W
instance simRet {te : TE} {t : TDE} [h1 : SimE K e te t] : SimS K e (tRet te) (tdRet t) := ⟨fun σ H S T Ed E hT x h k => h1.run σ H S T _ _ x h fun r S1 v H1 h2 x1 => x1.frc h2 fun d S2 h3 x2 => k.rt _ _ _ _ _ h3 x2⟩
def tRetO (te : TE) : TS := tRet te
theorem retO_of {X : Cx} {st : Stmt} {te : TE} (h : PS X st (tRet te)) : PS X st (tRetO te) := h
def tdRetV (i : Nat) : TDS := fun E S => match S.ρ[i]? with
  | some (some (.ownL ds)) => E.rn ds S.W
  | _ => False
instance simRetV {i : Nat} : SimS K e (tRetO (tVar i)) (tdRetV i) := ⟨fun σ H S T Ed E hT ⟨U, x⟩ h k => by
  unfold tdRetV at h
  cases q : S.ρ[i]? with
  | none => rw [q] at h; exact h.elim
  | some c =>
    cases c with
    | none => rw [q] at h; exact h.elim
    | some c =>
      rw [q] at h
      cases c with
      | val d => exact h.elim
      | ownD ds => exact h.elim
      | ownL ds =>
        obtain ⟨l, vs, e1, ow, e2, e3⟩ := x.ownL q
        refine ⟨.ref l, e1, k.rn ds ⟨S.ρ.set i none, S.W⟩ σ l H h ⟨U, vs, ?_, ow, ?_, ?_, e2, e3⟩⟩
        · refine x.slots (by simp [x.len]) (fun j c hj => ?_) hT
          rw [List.getElem?_set] at hj
          by_cases z : i = j
          · rw [if_pos z] at hj
            split at hj
            · cases hj
            · cases hj
          · rw [if_neg z] at hj
            exact ⟨hj, rfl⟩
        · intro j c hj oc sj
          have hj : (S.ρ.set i none)[j]? = some (some c) := hj
          rw [List.getElem?_set] at hj
          by_cases z : i = j
          · rw [if_pos z] at hj
            split at hj
            · cases hj
            · cases hj
          · rw [if_neg z] at hj
            exact x.sep i j _ c l z q trivial hj oc e1 sj
        · intro ds' hm
          exact (x.tmp _ hm).2.1 i _ q trivial e1⟩
def tdIfS (c : TDT) (t u : TDS) : TDS := fun E S => c S fun b S1 => if b = true then t E S1 else u E S1
instance simIfS {c : TT} {t u : TS} {c' : TDT} {t' u' : TDS} [h0 : SimT K e c c'] [h1 : SimS K e t t'] [h2 : SimS K e u u'] : SimS K e (tIfS c t u) (tdIfS c' t' u') := ⟨fun σ H S T Ed E hT x h k => by
  refine h0.run σ H S T _ _ x h fun b S1 H1 hb x1 => ?_
  cases b
  · exact h2.run σ H1 S1 T Ed E hT x1 hb k
  · exact h1.run σ H1 S1 T Ed E hT x1 hb k⟩
def gdName (i : Nat) : TDG := fun d S Q => Q (S.set i (.val d))
theorem NoOwn.ne {T : List Tm} (h : NoOwn T) (i : Nat) : ∀ p ∈ T, ∀ w, p ≠ .v w (.own i) := fun p hp w => h p hp w i
instance simName {i : Nat} : SimG K e (gName i) (gdName i) := ⟨fun v d σ H S T Qd Q hT ⟨U, x⟩ h k => k _ _ _ h ⟨U, (x.less fun p hp => List.mem_cons_of_mem _ hp).setVal (x.tmp (.v v (.d d)) (by simp)) (hT.ne i)⟩⟩
def gdNil : TDGs := fun ds S Q => ds = [] ∧ Q S
def gdCons (t : TDG) (u : TDGs) : TDGs := fun ds S Q => match ds with
  | d :: r => t d S fun S1 => u r S1 Q
  | [] => False
instance simGNil : SimGs K e gNil gdNil := ⟨fun vs ds σ H S T Qd Q hT hl x h k => by
  obtain ⟨rfl, h⟩ := h
  match vs, hl with
  | [], _ => exact ⟨rfl, k _ _ _ h x⟩⟩
theorem noOwn_tms {T : List Tm} (h : NoOwn T) : ∀ {vs : List V} {ds : List D}, NoOwn (tms vs (ds.map .d) ++ T)
  | [], _ => by simpa [tms] using h
  | _ :: _, [] => by simpa [tms] using h
  | v :: vs, d :: ds => by
    intro p hp w j z
    rcases List.mem_cons.mp hp with rfl | hp
    · cases z
    · exact noOwn_tms h (vs := vs) (ds := ds) p hp w j z
instance simGCons {t : TG} {u : TGs} {t' : TDG} {u' : TDGs} [h1 : SimG K e t t'] [h2 : SimGs K e u u'] : SimGs K e (gCons t u) (gdCons t' u') := ⟨fun vs ds σ H S T Qd Q hT hl x h k => by
  match vs, ds, hl, x, h with
  | [], [], hl, x, h => exact h.elim
  | v :: vs, d :: ds, hl, x, h =>
    exact ⟨v, vs, rfl, h1.run v d σ H S _ _ _ (noOwn_tms hT) x h fun S1 σ1 H1 h1 x1 => h2.run vs ds σ1 H1 S1 T _ _ hT (by simpa using hl) x1 h1 k⟩⟩
def gdTup (n : Nat) (t : TDGs) : TDG := fun d S Q => match d with
  | .tup ds => ds.length = n ∧ t ds S Q
  | _ => False
theorem RU.tmsPush {σ : St} {H : Hp} {S : PSt} {T : List Tm} {U : Addr → Prop} (x : RU K e σ H S T U) : ∀ {vs : List V} {ds : List D}, DvL K S.W.Tp (Hd U H) vs ds → RU K e σ H S (Kn.tms vs (ds.map .d) ++ T) U
  | _, _, .nil => x
  | _, _, .cons h t => (x.tmsPush t).push h
instance simGTup {n : Nat} {t : TGs} {t' : TDGs} [h1 : SimGs K e t t'] : SimG K e (gTup K n t) (gdTup n t') := ⟨fun v d σ H S T Qd Q hT ⟨U, x⟩ h k => by
  match d, x, h with
  | .tup ds, x, h =>
    have hv : Dv K S.W.Tp (Hd U H) v (.tup ds) := x.tmp (.v v (.d (.tup ds))) (by simp)
    have x0 := x.less (T' := T) fun p hp => List.mem_cons_of_mem _ hp
    obtain ⟨a, xs, e1, hq, ht⟩ : Vw K S.W.Tp U H v (.tup ds) := Dv.vw hv
    exact ⟨a, xs, e1, SqT.same Hd.sub hq, by rw [ht.len]; exact h.1, h1.run xs ds σ H S T _ _ hT ht.len ⟨U, x0.tmsPush ht⟩ h.2 k⟩⟩
def tdAsg (te : TDE) (g : TDG) : TDS := fun E S => te S fun r S1 => frc r S1 fun d S2 => g d S2 E.nx
instance simAsg {te : TE} {g : TG} {t : TDE} {g' : TDG} [h1 : SimE K e te t] [h2 : SimG K e g g'] : SimS K e (tAsg te g) (tdAsg t g') := ⟨fun σ H S T Ed E hT x h k =>
  h1.run σ H S T _ _ x h fun r S1 v H1 hr x1 => x1.frc hr fun d S2 h3 x2 => h2.run v d σ H1 S2 T _ _ hT x2 h3 k.nx⟩
def gOwn (i : Nat) : TG := gName i
def tdAsgN (i : Nat) (t : TDN) : TDS := fun E S => t S fun ds S1 => E.nx (S1.set i (.ownL ds))
instance simAsgN {te : TE} {i : Nat} {t : TDN} [h1 : SimN K e te t] : SimS K e (tAsg te (gOwn i)) (tdAsgN i t) := ⟨fun σ H S T Ed E hT x h k =>
  h1.run σ H S T _ _ x h fun ds S1 l H1 hr x1 => k.nx _ _ _ hr (x1.slot i hT)⟩
theorem setO_of {X : Cx} {st : Stmt} {i : Nat} {te : TE} (h : PS X st (tAsg te (gName i))) : PS X st (tAsg te (gOwn i)) := h
def rAugU : TIp := fun x y H Q => ipI (fun i j => i + j) x y H Q ∨ rAddS x y H Q ∨ rExt2 x y H Q
theorem ip_augU {X : Cx} : PIp X .Add rAugU := by
  intro pins s σ H x y v u Q I rx ry h
  rcases h with h | h | h
  · exact ip_add pins s σ H x y v u Q I rx ry h
  · exact iop_add_str pins s σ H x y v u Q I rx ry h
  · exact iop_ext pins s σ H x y v u Q I rx ry h
def augF (i : Nat) (S : PSt) (Q : PSt → Prop) : Option (Option PC) → D → Prop
  | some (some (.val (.int a))), .int b => Q (S.set i (.val (.int (a + b))))
  | some (some (.val (.str a))), .str b => a.length + b.length ≤ 1000000 ∧ Q (S.set i (.val (.str (a ++ b))))
  | some (some (.ownL ds)), .lst es => ds.length + es.length ≤ 1000000 ∧ Q (S.set i (.ownL (ds ++ es)))
  | _, _ => False
def tdAug (i : Nat) (te : TDE) : TDS := fun E S => (∃ c, S.ρ[i]? = some (some c)) ∧ te S fun r S1 => dd1 S1 r (augF i S1 E.nx S1.ρ[i]?)
theorem set_self {α : Type} {l : List α} {i : Nat} {a : α} (h : l[i]? = some a) : l.set i a = l := by
  apply List.ext_getElem?
  intro j
  rw [List.getElem?_set]
  by_cases q : i = j
  · subst q
    have := (List.getElem?_eq_some_iff.mp h).1
    rw [if_pos rfl, if_pos this, h]
  · rw [if_neg q]
instance simAug {i : Nat} {te : TE} {t : TDE} [h1 : SimE K e te t] : SimS K e (tAug i te rAugU) (tdAug i t) := ⟨fun σ H S T Ed E hT x h k => by
  obtain ⟨⟨c0, hc0⟩, h⟩ := h
  obtain ⟨v, hv⟩ : ∃ v, σ[i]? = some (some v) := by
    obtain ⟨U, x⟩ := x
    obtain ⟨v, h1, _⟩ := x.slot i c0 hc0
    exact ⟨v, h1⟩
  refine ⟨v, hv, h1.run σ H S T _ _ x h fun r S1 w H1 hr x1 => ?_⟩
  obtain ⟨b, hb, h⟩ := dd1_inv hr
  obtain ⟨U, wT, vw, w2⟩ := x1.one hb
  match q : S1.ρ[i]?, b, h, vw with
  | some (some (.val (.int a))), .int b, h, vw =>
    obtain ⟨v', e1, e2⟩ := wT.slot i _ q
    rw [hv] at e1; cases e1
    have e2 : Dv K S1.W.Tp (Hd U H1) v (.int a) := e2
    cases e2
    rw [vw.int]
    exact .inl ⟨a, b, rfl, rfl, k.nx _ _ _ h ⟨U, wT.setVal (.int _) (hT.ne i)⟩⟩
  | some (some (.val (.str a))), .str b, h, vw =>
    obtain ⟨v', e1, e2⟩ := wT.slot i _ q
    rw [hv] at e1; cases e1
    have e2 : Dv K S1.W.Tp (Hd U H1) v (.str a) := e2
    cases e2
    rw [vw.str]
    exact .inr (.inl ⟨a, b, rfl, rfl, big_of h.1, k.nx _ _ _ h.2 ⟨U, wT.setVal (.str _) (hT.ne i)⟩⟩)
  | some (some (.ownL ds)), .lst es, h, ⟨p, ys, e1, g1, g2⟩ =>
    subst e1
    obtain ⟨l, vs, e1, ow, e2, e3⟩ := wT.ownL q
    rw [hv] at e1; cases e1
    refine .inr (.inr ⟨l, p, vs, ys, rfl, rfl, e2, g1, big_of (by rw [e3.len, g2.len]; exact h.1), k.nx _ _ _ h.2 ?_⟩)
    rw [set_self hv]
    exact ⟨U, wT.updO (c' := .ownL (ds ++ es)) q trivial trivial hv ow ⟨l, vs ++ ys, rfl, ow, upd_same, DvL.le (Same.lq (Hd.upd ow.u)) (fun _ z => z) (e3.app g2)⟩⟩⟩
def tdWhile (c : TDT) (tb : TDS) : TDS := fun E S => ∃ W : Nat → PSt → Prop, (∃ m, W m S) ∧ ∀ m S, W m S → c S fun b S1 => if b = true then ∃ N : PSt → Prop, (∀ S', N S' → ∃ m', m' < m ∧ W m' S') ∧ tb ⟨N, E.rt, E.nx, N, E.rn⟩ S1 else E.nx S1
abbrev TDI := PSt → (List D → PSt → Prop) → Prop
def ItOk (K : PySem.W.Frag) (e : Ent) (J : It) (ds : List D) (T1 : List Tm) : Prop := ∀ (i : Nat) (σ : St) (H : Hp) (S : PSt) (T : List Tm), R K e σ H S (T1 ++ T) →
  (ds.length ≤ i → J.stop i H) ∧ (i < ds.length → J.go i H ∧ ∀ x H', J.yld i H x H' → ∃ d, ds[i]? = some d ∧ R K e σ H' S (.v x (.d d) :: (T1 ++ T)))
def PlainT (T : List Tm) : Prop := NoOwn T ∧ ∀ l, NoTm T l
class SimI (K : PySem.W.Frag) (e : Ent) (wi : TI) (ti : outParam TDI) : Prop where
  run : ∀ (σ : St) (H : Hp) (S : PSt) (T : List Tm) (Qd : List D → PSt → Prop) (Rr : It → Hp → Prop), R K e σ H S T → ti S Qd → (∀ ds S' J H' T1, Qd ds S' → PlainT T1 → ItOk K e J ds T1 → R K e σ H' S' (T1 ++ T) → Rr J H') → wi σ H Rr
theorem plain1 {v : V} {d : D} : PlainT [.v v (.d d)] := by
  refine ⟨fun p hp w j z => ?_, fun l ds hm => ?_⟩
  · rw [List.mem_singleton.mp hp] at z; cases z
  · have := List.mem_singleton.mp hm; cases this
theorem plain0 : PlainT [] := by
  refine ⟨fun p hp => ?_, fun l ds hm => ?_⟩
  · cases hp
  · cases hm
theorem itOk_list {a : Addr} {ds : List D} : ItOk K e (Itl K a) ds [.v (.ref a) (.d (.lst ds))] := fun i σ H S T ⟨U, x⟩ => by
  have hv : Dv K S.W.Tp (Hd U H) (.ref a) (.lst ds) := x.tmp (.v (.ref a) (.d (.lst ds))) (by simp)
  obtain ⟨a', xs, e1, h, t⟩ : Vw K S.W.Tp U H (.ref a) (.lst ds) := Dv.vw hv
  · cases e1
    refine ⟨fun hi => ⟨xs, SqL.of h, by rw [t.len]; exact hi⟩, fun hi => ?_⟩
    obtain ⟨v, h1, h2⟩ := t.get (List.getElem?_eq_getElem hi)
    refine ⟨⟨xs, v, SqL.of h, h1⟩, ?_⟩
    rintro w H' ⟨rfl, hw⟩
    have := hw xs (SqL.of h)
    rw [h1] at this; cases this
    exact ⟨_, List.getElem?_eq_getElem hi, U, x.push h2⟩
theorem itOk_tup {a : Addr} {ds : List D} : ItOk K e (Itt K a) ds [.v (.ref a) (.d (.tup ds))] := fun i σ H S T ⟨U, x⟩ => by
  have hv : Dv K S.W.Tp (Hd U H) (.ref a) (.tup ds) := x.tmp (.v (.ref a) (.d (.tup ds))) (by simp)
  obtain ⟨a', xs, e1, h, t⟩ : Vw K S.W.Tp U H (.ref a) (.tup ds) := Dv.vw hv
  · cases e1
    have h := SqT.same Hd.sub h
    refine ⟨fun hi => ⟨xs, h, by rw [t.len]; exact hi⟩, fun hi => ?_⟩
    obtain ⟨v, h1, h2⟩ := t.get (List.getElem?_eq_getElem hi)
    refine ⟨⟨xs, v, h, h1⟩, ?_⟩
    rintro w H' ⟨rfl, hw⟩
    have := hw xs h
    rw [h1] at this; cases this
    exact ⟨_, List.getElem?_eq_getElem hi, U, x.push h2⟩
def signs (z : Str) : List D := z.cps.toList.map fun c => D.str ⟨#[c]⟩
theorem itOk_str {z : Str} : ItOk K e (Its z) (signs z) [] := fun i σ H S T x => by
  have hl : (signs z).length = z.cps.size := by simp [signs]
  rw [hl]
  refine ⟨fun hi => hi, fun hi => ⟨hi, ?_⟩⟩
  rintro w H' ⟨rfl, c, hc, rfl⟩
  obtain ⟨U, x⟩ := x
  refine ⟨.str ⟨#[c]⟩, ?_, U, x.push (.str _)⟩
  rw [signs, List.getElem?_map, Array.getElem?_toList, hc]; rfl
def rng (lo : Int) (n : Nat) : List D := (List.range n).map fun (i : Nat) => D.int (lo + (i : Int))
theorem itOk_rng {lo : Int} {n : Nat} : ItOk K e (Itr lo n) (rng lo n) [] := fun i σ H S T x => by
  have hl : (rng lo n).length = n := by simp [rng]
  rw [hl]
  refine ⟨fun hi => hi, fun hi => ⟨hi, ?_⟩⟩
  rintro w H' ⟨rfl, rfl⟩
  obtain ⟨U, x⟩ := x
  refine ⟨.int (lo + i), ?_, U, x.push (.int _)⟩
  rw [rng, List.getElem?_map, List.getElem?_range hi]; rfl
theorem DvK.keys {Tp : Addr → Prop} {H : Hp} : ∀ {vs : List (Key × V)} {ds : List (Key × D)}, DvK K Tp H vs ds → (ds.map fun p => keyV p.1) = vs.map fun p => keyV p.1
  | _, _, .nil => rfl
  | _, _, .cons _ t => by rw [List.map_cons, List.map_cons, DvK.keys t]
theorem plainP {a : Addr} {o : Obj} {w : HO} : PlainT [.pin a o w] := by
  refine ⟨fun p hp w j z => ?_, fun l ds hm => ?_⟩
  · rw [List.mem_singleton.mp hp] at z; cases z
  · have := List.mem_singleton.mp hm; cases this
theorem keyV_dv {Tp : Addr → Prop} {H : Hp} : ∀ k : Key, Dv K Tp H (kV k) (keyV k)
  | .inl i => .int i
  | .inr x => .str x
theorem itOk_keys {a : Addr} {o : Obj} {xs : List (Key × V)} : ItOk K e (Itk a o xs) (xs.map fun p => keyV p.1) [.pin a o (.dK xs)] := fun i σ H S T ⟨U, x⟩ => by
  obtain ⟨nu, h⟩ := x.tmp (.pin a o (.dK xs)) (by simp)
  have hl : (xs.map fun p => keyV p.1).length = xs.length := by simp
  rw [hl]
  refine ⟨fun hi => ⟨h, hi⟩, fun hi => ⟨⟨h, hi⟩, ?_⟩⟩
  rintro w H' ⟨rfl, k, v, hk, rfl⟩
  refine ⟨keyV k, ?_, U, x.push (keyV_dv k)⟩
  rw [List.getElem?_map, hk]; rfl
def iAny (K : PySem.W.Frag) (td : TE) : TI := fun σ H R => td σ H fun x H1 => (∃ a, x = .ref a ∧ (((∃ xs, SqL K H1 a xs) ∧ R (Itl K a) H1) ∨ ((∃ xs, SqT K H1 a xs) ∧ R (Itt K a) H1))) ∨ (∃ z, x = .str z ∧ R (Its z) H1) ∨ ∃ d kvs, x = .ref d ∧ ((∃ o, H1 d = some (.frz o (.dK kvs)) ∧ R (Itk d o kvs) H1) ∨ (H1 d = some (.dK kvs) ∧ ∀ od, R (Itk d od kvs) (upd H1 d (.frz od (.dK kvs)))))
theorem pi_any {X : Cx} {tg l : Expr} {tl : TE} (K : PySem.W.Frag) (hl : PE X l tl) (hK : X.K = K := by rfl) : PI X tg l (iAny K tl) := by
  subst hK
  refine ⟨fun pins s σ H R I hw => ?_⟩
  refine thn (hl.run pins s σ H _ I hw) fun v s1 ⟨x, H1, J, r1, q1⟩ => ?_
  rcases q1 with ⟨a, rfl, ⟨⟨xs, hx⟩, q⟩ | ⟨⟨xs, hx⟩, q⟩⟩ | ⟨z, rfl, q⟩ | ⟨d, kvs, rfl, ⟨o, hd, q⟩ | ⟨hd, q⟩⟩
  · cases r1
    have fp : ∀ b ∈ [s1.heap.objs.size], FpOk X pins H1 b := fun b hb => by
      rw [List.mem_singleton.mp hb]
      exact J.fpOk (Nat.le_refl _) (J.hok.fresh (Nat.le_refl _))
    obtain ⟨its, _, p, _⟩ := J.list hx
    exact wpAny_pyIter_list p.isList ⟨_, _, _, _, H1, rfl, J.kept (t' := s1.toks) fun _ _ e => Heap.get?_push_of_some _ e, turn_list a _, ⟨_, Heap.get?_push_size _ rfl, rfl, rfl⟩, fp, q⟩
  · cases r1
    have fp : ∀ b ∈ [s1.heap.objs.size], FpOk X pins H1 b := fun b hb => by
      rw [List.mem_singleton.mp hb]
      exact J.fpOk (Nat.le_refl _) (J.hok.fresh (Nat.le_refl _))
    obtain ⟨its, _, p, _⟩ := J.tuple hx
    exact wpAny_pyIter_tuple (show s1.heap.IsTuple a its.toArray from p) ⟨_, _, _, _, H1, rfl, J.kept (t' := s1.toks) fun _ _ e => Heap.get?_push_of_some _ e, turn_tuple a _, ⟨_, Heap.get?_push_size _ rfl, rfl, rfl⟩, fp, q⟩
  · obtain ⟨t, rfl⟩ := r1
    cases ha : z.cps.all (· < 128)
    · exact PySem.wpAny_pyIter_wide ha (pi_one (tk := s1.toks) J _ (turn_str _ z t "str_iterator" (.inr rfl)) ⟨_, Heap.get?_push_size _ rfl, rfl, rfl⟩ q)
    · exact PySem.wpAny_pyIter_ascii ha (pi_one (tk := s1.toks) J _ (turn_str _ z t "str_ascii_iterator" (.inl rfl)) ⟨_, Heap.get?_push_size _ rfl, rfl, rfl⟩ q)
  · obtain rfl : v = Value.ref d := r1
    obtain ⟨hs, hgd, hx, es, ep, vs, hdt, hsz, kv, hm⟩ := J.frzK hd
    refine iter_keys hs hgd hx hdt (pi_one (tk := s1.toks) J _ (turn_keys _ hdt) ⟨_, Heap.get?_push_size _ rfl, rfl, ?_⟩ q)
    rw [hsz] <;> rfl
  · obtain rfl : v = Value.ref d := r1
    obtain ⟨od, J⟩ := J.lock hd trivial
    have q := q od
    obtain ⟨hs, hgd, hx, es, ep, vs, hdt, hsz, kv, hm⟩ := J.frzK (upd_same (H := H1))
    refine iter_keys hs hgd hx hdt (pi_one (tk := s1.toks) J _ (turn_keys _ hdt) ⟨_, Heap.get?_push_size _ rfl, rfl, ?_⟩ q)
    rw [hsz] <;> rfl
def walkF (Q : List D → Prop) : D → Prop
  | .lst ds => Q ds
  | .tup ds => Q ds
  | .str z => Q (signs z)
  | .dct ks => Q (ks.map fun p => keyV p.1)
  | _ => False
def tiAny (td : TDE) : TDI := fun S Q => td S fun r S1 => frc r S1 fun d S2 => walkF (fun ds => Q ds S2) d
theorem R.frz {σ : St} {H : Hp} {S : PSt} {T : List Tm} {v : V} {d : D} (x : R K e σ H S (.v v (.d d) :: T)) : ∃ U, RU K e σ H S T U ∧ Dv K S.W.Tp (Hd U H) v d ∧ RU K e σ H S (.v v (.d d) :: T) U := by
  obtain ⟨U, x⟩ := x
  exact ⟨U, x.less fun p hp => List.mem_cons_of_mem _ hp, x.tmp (.v v (.d d)) (by simp), x⟩
theorem Dv.dct_inv {Tp : Addr → Prop} {H : Hp} {v : V} {ks : List (Key × D)} (h : Dv K Tp H v (.dct ks)) : ∃ a xs, v = .ref a ∧ Rd H a (.dK xs) ∧ DvK K Tp H xs ks := by
  cases h with
  | dct h t => exact ⟨_, _, rfl, h, t⟩
instance simIAny {td : TE} {td' : TDE} [h1 : SimE K e td td'] : SimI K e (iAny K td) (tiAny td') := ⟨fun σ H S T Qd Rr x h k => by
  refine h1.run σ H S T _ _ x h fun r S1 v H1 hr x1 => x1.frc hr fun d S2 h3 x2 => ?_
  obtain ⟨U, x3, dv, x4⟩ := x2.frz
  match d, h3, dv, x4 with
  | .lst ds, h3, dv, x4 =>
    obtain ⟨a, xs, rfl, g1, g2⟩ : Vw K S2.W.Tp U H1 v (.lst ds) := Dv.vw dv
    exact .inl ⟨a, rfl, .inl ⟨⟨xs, SqL.of g1⟩, k _ _ _ _ [.v (.ref a) (.d (.lst ds))] h3 plain1 itOk_list ⟨U, x4⟩⟩⟩
  | .tup ds, h3, dv, x4 =>
    obtain ⟨a, xs, rfl, g1, g2⟩ : Vw K S2.W.Tp U H1 v (.tup ds) := Dv.vw dv
    exact .inl ⟨a, rfl, .inr ⟨⟨xs, SqT.same Hd.sub g1⟩, k _ _ _ _ [.v (.ref a) (.d (.tup ds))] h3 plain1 itOk_tup ⟨U, x4⟩⟩⟩
  | .str z, h3, dv, x4 =>
    have ev : v = .str z := by cases dv; rfl
    exact .inr (.inl ⟨z, ev, k _ _ _ _ [] h3 plain0 itOk_str ⟨U, x3⟩⟩)
  | .dct ks, h3, dv, x4 =>
    obtain ⟨a, xs, rfl, h, t⟩ := Dv.dct_inv dv
    have h3 : Qd (ks.map fun p => keyV p.1) S2 := h3
    rw [t.keys] at h3
    rcases h with h | ⟨o, h⟩
    · obtain ⟨h, nu⟩ := Hd.of h
      exact .inr (.inr ⟨a, xs, rfl, .inr ⟨h, fun od => k _ _ _ _ [.pin a od (.dK xs)] h3 plainP itOk_keys ⟨U, x3.lock h nu⟩⟩⟩)
    · obtain ⟨h, nu⟩ := Hd.of h
      exact .inr (.inr ⟨a, xs, rfl, .inl ⟨o, h, k _ _ _ _ [.pin a o (.dK xs)] h3 plainP itOk_keys ⟨U, x3.push ⟨nu, h⟩⟩⟩⟩)⟩
def tiRng1 (ta : TDA) : TDI := fun S Q => ta S fun rs S1 => arg1 rs fun r => asI r fun j => -(2 ^ 62) ≤ j ∧ j < 2 ^ 62 ∧ Q (rng 0 j.toNat) S1
instance simRng1 {ta : TA} {ta' : TDA} [h1 : SimA K e ta ta'] : SimI K e (iRng1 ta) (tiRng1 ta') := ⟨fun σ H S T Qd Rr x h k => by
  refine h1.run σ H S T _ _ x h fun rs S1 vs H1 hr hl x1 => ?_
  obtain ⟨r, rfl, hr⟩ := arg1_inv hr
  obtain ⟨v, rfl⟩ := len1 hl
  match r, hr, x1 with
  | .d (.int j), hr, x1 =>
    obtain ⟨U, x3, dv, x4⟩ := R.frz (T := T) x1
    cases dv
    exact ⟨j, rfl, hr.1, hr.2.1, k _ _ _ _ [] hr.2.2 plain0 itOk_rng ⟨U, x3⟩⟩⟩
def forD (g : TDG) (tb : TDS) (E : DEnds) : List D → PSt → Prop
  | [], S => E.nx S
  | d :: ds, S => ∃ N : PSt → Prop, (∀ S', N S' → forD g tb E ds S') ∧ g d S fun S2 => tb ⟨N, E.rt, E.nx, N, E.rn⟩ S2
def tdFor (wi : TDI) (g : TDG) (tb : TDS) : TDS := fun E S => wi S fun ds S1 => forD g tb E ds S1
theorem NoOwn.app {T T1 : List Tm} (h1 : NoOwn T1) (h : NoOwn T) : NoOwn (T1 ++ T) := fun p hp => by
  rcases List.mem_append.mp hp with hp | hp
  · exact h1 p hp
  · exact h p hp
theorem Lnk.more {T T1 : List Tm} {Ed : DEnds} {E : Ends} (k : Lnk K e T Ed E) : Lnk K e (T1 ++ T) Ed E where
  nx := fun S σ H h x => k.nx S σ H h x.tail
  rt := fun d S σ v H h x => k.rt d S σ v H h (x.less fun p hp => by
    rcases List.mem_cons.mp hp with rfl | hp
    · exact List.mem_cons_self
    · exact List.mem_cons_of_mem _ (List.mem_append_right _ hp))
  bk := fun S σ H h x => k.bk S σ H h x.tail
  ct := fun S σ H h x => k.ct S σ H h x.tail
  rn := fun ds S σ l H h x => k.rn ds S σ l H h x.tail
instance simFor {wi : TI} {g : TG} {tb : TS} {wi' : TDI} {g' : TDG} {tb' : TDS} [h1 : SimI K e wi wi'] [h2 : SimG K e g g'] [h3 : SimS K e tb tb'] : SimS K e (tFor wi g tb) (tdFor wi' g' tb') := ⟨fun σ H S T Ed E hT x h k => by
  refine h1.run σ H S T _ _ x h fun ds S1 J H1 T1 hd pT it x1 => ?_
  refine ⟨fun i m σ H => m = ds.length - i ∧ i ≤ ds.length ∧ ∃ S, forD g' tb' Ed (ds.drop i) S ∧ R K e σ H S (T1 ++ T), ⟨_, rfl, Nat.zero_le _, S1, hd, x1⟩, ?_⟩
  rintro i m σ H ⟨rfl, hi, S, hf, x⟩
  obtain ⟨i1, i2⟩ := it i σ H S T x
  by_cases c : i < ds.length
  · obtain ⟨g1, g2⟩ := i2 c
    rw [List.drop_eq_getElem_cons c] at hf
    obtain ⟨N, hN, hf⟩ := hf
    refine .inr ⟨g1, fun σ' H' => ∃ S', N S' ∧ R K e σ' H' S' (T1 ++ T), ?_, fun v H' hy => ?_⟩
    · rintro σ' H' ⟨S', n, x'⟩
      exact ⟨ds.length - (i + 1), by omega, rfl, by omega, S', hN S' n, x'⟩
    · obtain ⟨d, hd', x'⟩ := g2 v H' hy
      have : d = ds[i] := by rw [List.getElem?_eq_getElem c] at hd'; exact (Option.some.inj hd').symm
      subst this
      refine h2.run v _ σ H' S (T1 ++ T) _ _ (pT.1.app hT) x' hf fun S2 σ2 H2 hb x2 => ?_
      have kk := k.more (T1 := T1)
      exact h3.run σ2 H2 S2 (T1 ++ T) _ _ (pT.1.app hT) x2 hb ⟨fun S' σ' H' n x' => ⟨S', n, x'⟩, kk.rt, kk.nx, fun S' σ' H' n x' => ⟨S', n, x'⟩, kk.rn⟩
  · refine .inl ⟨i1 (by omega), ?_⟩
    rw [List.drop_of_length_le (by omega)] at hf
    exact k.nx _ _ _ hf x.tail⟩
class SimZ (K : PySem.W.Frag) (e : Ent) (ts : TS) (t : outParam TDS) : Prop where
  run : ∀ (σ : St) (H : Hp) (S : PSt) (Ed : DEnds) (E : Ends), R K e σ H S [] → t Ed S → Lnk K e [] Ed E → ts E σ H
theorem noOwn0 : NoOwn [] := fun p hp => by cases hp
instance (priority := low) simZ_of {ts : TS} {t : TDS} [h : SimS K e ts t] : SimZ K e ts t := ⟨fun σ H S Ed E x q k => h.run σ H S [] Ed E noOwn0 x q k⟩
instance simZSeq {t u : TS} {t' u' : TDS} [h1 : SimZ K e t t'] [h2 : SimZ K e u u'] : SimZ K e (tSeq t u) (tdSeq t' u') := ⟨fun σ H S Ed E x h k =>
  h1.run σ H S { Ed with nx := u' Ed } _ x h { k with nx := fun S1 σ1 H1 h1 x1 => h2.run σ1 H1 S1 Ed E x1 h1 k }⟩
instance simZIf {c : TT} {t u : TS} {c' : TDT} {t' u' : TDS} [h0 : SimT K e c c'] [h1 : SimZ K e t t'] [h2 : SimZ K e u u'] : SimZ K e (tIfS c t u) (tdIfS c' t' u') := ⟨fun σ H S Ed E x h k => by
  refine h0.run σ H S [] _ _ x h fun b S1 H1 hb x1 => ?_
  cases b
  · exact h2.run σ H1 S1 Ed E x1 hb k
  · exact h1.run σ H1 S1 Ed E x1 hb k⟩
instance simZWhile {c : TT} {tb : TS} {c' : TDT} {tb' : TDS} [h1 : SimT K e c c'] [h2 : SimZ K e tb tb'] : SimZ K e (tWhile c tb) (tdWhile c' tb') := ⟨fun σ H S Ed E x h k => by
  obtain ⟨W, ⟨m, w0⟩, h⟩ := h
  refine ⟨fun m σ H => ∃ S, W m S ∧ R K e σ H S [], ⟨m, S, w0, x⟩, ?_⟩
  rintro m σ H ⟨S, w, x⟩
  refine h1.run σ H S [] _ _ x (h m S w) fun b S1 H1 hb x1 => ?_
  cases b
  · exact k.nx _ _ _ hb x1
  · obtain ⟨N, hN, hb⟩ := hb
    refine ⟨fun σ H => ∃ S, N S ∧ R K e σ H S [], ?_, ?_⟩
    · rintro σ' H' ⟨S', n, x'⟩
      obtain ⟨m', hm, w'⟩ := hN S' n
      exact ⟨m', hm, S', w', x'⟩
    · exact h2.run σ H1 S1 _ _ x1 hb ⟨fun S' σ' H' n x' => ⟨S', n, x'⟩, k.rt, k.nx, fun S' σ' H' n x' => ⟨S', n, x'⟩, k.rn⟩⟩
class SimI0 (K : PySem.W.Frag) (e : Ent) (wi : TI) (ti : outParam TDI) : Prop where
  run : ∀ (σ : St) (H : Hp) (S : PSt) (Qd : List D → PSt → Prop) (Rr : It → Hp → Prop), R K e σ H S [] → ti S Qd → (∀ ds S' J H', Qd ds S' → ItOk K e J ds [] → R K e σ H' S' [] → Rr J H') → wi σ H Rr
instance simRng10 {ta : TA} {ta' : TDA} [h1 : SimA K e ta ta'] : SimI0 K e (iRng1 ta) (tiRng1 ta') := ⟨fun σ H S Qd Rr x h k => by
  refine h1.run σ H S [] _ _ x h fun rs S1 vs H1 hr hl x1 => ?_
  obtain ⟨r, rfl, hr⟩ := arg1_inv hr
  obtain ⟨v, rfl⟩ := len1 hl
  match r, hr, x1 with
  | .d (.int j), hr, x1 =>
    obtain ⟨U, x3, dv, x4⟩ := R.frz (T := []) x1
    cases dv
    exact ⟨j, rfl, hr.1, hr.2.1, k _ _ _ _ hr.2.2 itOk_rng ⟨U, x3⟩⟩⟩
instance simZFor {wi : TI} {g : TG} {tb : TS} {wi' : TDI} {g' : TDG} {tb' : TDS} [h1 : SimI0 K e wi wi'] [h2 : SimG K e g g'] [h3 : SimZ K e tb tb'] : SimZ K e (tFor wi g tb) (tdFor wi' g' tb') := ⟨fun σ H S Ed E x h k => by
  refine h1.run σ H S _ _ x h fun ds S1 J H1 hd it x1 => ?_
  refine ⟨fun i m σ H => m = ds.length - i ∧ i ≤ ds.length ∧ ∃ S, forD g' tb' Ed (ds.drop i) S ∧ R K e σ H S [], ⟨_, rfl, Nat.zero_le _, S1, hd, x1⟩, ?_⟩
  rintro i m σ H ⟨rfl, hi, S, hf, x⟩
  obtain ⟨i1, i2⟩ := it i σ H S [] x
  by_cases c : i < ds.length
  · obtain ⟨g1, g2⟩ := i2 c
    rw [List.drop_eq_getElem_cons c] at hf
    obtain ⟨N, hN, hf⟩ := hf
    refine .inr ⟨g1, fun σ' H' => ∃ S', N S' ∧ R K e σ' H' S' [], ?_, fun v H' hy => ?_⟩
    · rintro σ' H' ⟨S', n, x'⟩
      exact ⟨ds.length - (i + 1), by omega, rfl, by omega, S', hN S' n, x'⟩
    · obtain ⟨d, hd', x'⟩ := g2 v H' hy
      have : d = ds[i] := by rw [List.getElem?_eq_getElem c] at hd'; exact (Option.some.inj hd').symm
      subst this
      refine h2.run v _ σ H' S [] _ _ noOwn0 x' hf fun S2 σ2 H2 hb x2 => ?_
      exact h3.run σ2 H2 S2 _ _ x2 hb ⟨fun S' σ' H' n x' => ⟨S', n, x'⟩, k.rt, k.nx, fun S' σ' H' n x' => ⟨S', n, x'⟩, k.rn⟩
  · refine .inl ⟨i1 (by omega), ?_⟩
    rw [List.drop_of_length_le (by omega)] at hf
    exact k.nx _ _ _ hf x⟩
end
end Kn
set_option Elab.async false
set_option maxRecDepth 100000
set_option linter.all false
set_option autoImplicit false
namespace Kn
open PySem L2
theorem wipe_get (σ : St) (j : Nat) : ∀ vs : List Nat, (wipe σ vs)[j]? = if j ∈ vs ∧ j < σ.length then some none else σ[j]?
  | [] => by simp [wipe]
  | v :: vs => by
    unfold wipe
    rw [List.getElem?_set, wipe_length, wipe_get σ j vs]
    by_cases q : v = j
    · subst q
      rw [if_pos rfl]
      by_cases c : v < σ.length
      · simp [c]
      · simp [c]
    · rw [if_neg q]
      simp [List.mem_cons, show ¬ j = v from fun z => q z.symm]
theorem wipe_wipe (σ : St) (vs : List Nat) : wipe (wipe σ vs) vs = wipe σ vs := by
  apply List.ext_getElem?
  intro j
  rw [wipe_get (wipe σ vs), wipe_length, wipe_get σ j vs]
  split <;> rfl
theorem wipe_set {σ : St} {vs : List Nat} {i : Nat} {v : Option V} (h : i ∈ vs) : wipe (σ.set i v) vs = wipe σ vs := by
  apply List.ext_getElem?
  intro j
  rw [wipe_get, wipe_get, List.length_set, List.getElem?_set]
  by_cases q : i = j
  · subst q
    by_cases c : i < σ.length
    · rw [if_pos ⟨h, c⟩, if_pos ⟨h, c⟩]
    · simp [c]
  · rw [if_neg q]
class InL (i : Nat) (vs : List Nat) : Prop where
  mem : i ∈ vs
instance inMapH {i : Nat} {s : Str} {l : List (Str × Nat)} : InL i (List.map (fun x : Str × Nat => x.2) ((s, i) :: l)) := ⟨by simp⟩
instance inMapT {i : Nat} {p : Str × Nat} {l : List (Str × Nat)} [h : InL i (List.map (fun x : Str × Nat => x.2) l)] : InL i (List.map (fun x : Str × Nat => x.2) (p :: l)) := ⟨List.mem_cons_of_mem _ h.mem⟩
class GW (g : TG) (vs : List Nat) : Prop where
  w : ∀ (x : V) (σ : St) (H : Hp) (Q : St → Hp → Prop), (g x σ H fun σ2 H2 => wipe σ2 vs = wipe σ vs → Q σ2 H2) → g x σ H fun σ2 H2 => wipe σ2 vs = wipe σ vs ∧ Q σ2 H2
class GWs (g : TGs) (vs : List Nat) : Prop where
  w : ∀ (x : List V) (σ : St) (H : Hp) (Q : St → Hp → Prop), (g x σ H fun σ2 H2 => wipe σ2 vs = wipe σ vs → Q σ2 H2) → g x σ H fun σ2 H2 => wipe σ2 vs = wipe σ vs ∧ Q σ2 H2
instance gwName {i : Nat} {vs : List Nat} [h : InL i vs] : GW (gName i) vs := ⟨fun x σ H Q q => ⟨wipe_set h.mem, q (wipe_set h.mem)⟩⟩
instance gwNil {vs : List Nat} : GWs gNil vs := ⟨fun x σ H Q q => ⟨q.1, rfl, q.2 rfl⟩⟩
instance gwCons {i : Nat} {u : TGs} {vs : List Nat} [h : InL i vs] [h2 : GWs u vs] : GWs (gCons (gName i) u) vs := ⟨fun x σ H Q ⟨v, r, e, q⟩ => ⟨v, r, e, by
    have e1 : wipe (σ.set i (some v)) vs = wipe σ vs := wipe_set h.mem
    show u r (σ.set i (some v)) H fun σ2 H2 => wipe σ2 vs = wipe σ vs ∧ Q σ2 H2
    rw [← e1]
    refine h2.w r _ H Q ?_
    rw [e1]
    exact q⟩⟩
instance gwTup {K : PySem.W.Frag} {n : Nat} {t : TGs} {vs : List Nat} [h : GWs t vs] : GW (gTup K n t) vs := ⟨fun x σ H Q ⟨a, xs, e1, e2, e3, q⟩ => ⟨a, xs, e1, e2, e3, h.w _ _ _ _ q⟩⟩
def wipeR (ρ : List (Option PC)) : List Nat → List (Option PC)
  | [] => ρ
  | v :: vs => (wipeR ρ vs).set v none
theorem wipeR_length (ρ : List (Option PC)) : ∀ vs : List Nat, (wipeR ρ vs).length = ρ.length
  | [] => rfl
  | v :: vs => by unfold wipeR; rw [List.length_set, wipeR_length ρ vs]
theorem wipeR_some {ρ : List (Option PC)} {i : Nat} {x : PC} : ∀ {vs : List Nat}, (wipeR ρ vs)[i]? = some (some x) → ρ[i]? = some (some x) ∧ i ∉ vs
  | [], h => ⟨h, by simp⟩
  | v :: vs, h => by
    unfold wipeR at h
    by_cases hi : v = i
    · subst hi
      by_cases hv : v < (wipeR ρ vs).length
      · rw [List.getElem?_set_self hv] at h; cases h
      · rw [List.getElem?_eq_none (by simpa using hv)] at h; cases h
    · rw [List.getElem?_set_ne hi] at h
      obtain ⟨h1, h2⟩ := wipeR_some h
      exact ⟨h1, by simp only [List.mem_cons, not_or]; exact ⟨fun e => hi e.symm, h2⟩⟩
def PSt.wipe (S : PSt) (vs : List Nat) : PSt := ⟨wipeR S.ρ vs, S.W⟩
section
variable {K : PySem.W.Frag} {e : Ent}
theorem RU.wipe {σ : St} {H : Hp} {S : PSt} {T : List Tm} {U : Addr → Prop} (x : RU K e σ H S T U) (vs : List Nat) (hT : NoOwn T) : RU K e (L2.wipe σ vs) H (S.wipe vs) T U := x.slots (by rw [wipe_length, wipeR_length]; exact x.len) (fun i c hi => by
  obtain ⟨h1, h2⟩ := wipeR_some hi
  exact ⟨h1, by rw [wipe_get, if_neg (fun z => h2 z.1)]⟩) hT
theorem RU.unwipe {σ : St} {H : Hp} {S : PSt} {T : List Tm} {U : Addr → Prop} {vs : List Nat} (x : RU K e (L2.wipe σ vs) H (S.wipe vs) T U) (hT : NoOwn T) : RU K e σ H (S.wipe vs) T U := x.slots (by have := x.len; rw [wipe_length] at this; exact this) (fun i c hi => by
  obtain ⟨h1, h2⟩ := wipeR_some (ρ := S.ρ) hi
  exact ⟨hi, by rw [wipe_get, if_neg (fun z => h2 z.1)]⟩) hT
def notOwn : Tm → Bool
  | .v _ (.own _) => false
  | _ => true
theorem noOwn_filter (T : List Tm) : NoOwn (T.filter notOwn) := fun p hp w j z => by
  rw [List.mem_filter] at hp
  rw [z] at hp
  exact absurd hp.2 Bool.false_ne_true
theorem RU.back {σ : St} {H H0 : Hp} {S S0 : PSt} {T T1 : List Tm} {U U0 : Addr → Prop} (x0 : RU K e σ H0 S0 T U0) (x : RU K e σ H S (T1 ++ T.filter notOwn) U) : RU K e σ H S (T1 ++ T) U := { x with
  tmp := fun p hp => by
    rcases List.mem_append.mp hp with hp | hp
    · exact x.tmp p (List.mem_append_left _ hp)
    · by_cases c : notOwn p = true
      · exact x.tmp p (List.mem_append_right _ (List.mem_filter.mpr ⟨hp, c⟩))
      · match p, c, x0.tmp p hp with
        | .v w (.own j), _, h => exact h
        | .v w (.d d), c, _ => exact (c rfl).elim
        | .pin b o w, c, _ => exact (c rfl).elim
        | .nw m ds, c, _ => exact (c rfl).elim }
def compD (g : TDG) (tt : TDT) (te : TDE) (vs : List Nat) (Q : List D → PSt → Prop) : List D → List D → PSt → Prop
  | [], acc, S => Q acc S
  | d :: ds, acc, S => ∃ N : List D → PSt → Prop, (∀ a S', N a S' → compD g tt te vs Q ds a S') ∧
    g d S fun S2 => tt S2 fun b S3 => if b = true then te S3 fun r S4 => frc r S4 fun y S5 => acc.length ≤ 999999 ∧ N (acc ++ [y]) (S5.wipe vs) else N acc (S3.wipe vs)
def tnLc (wi : TDI) (g : TDG) (tt : TDT) (te : TDE) (vs : List Nat) : TDN := fun S Q => wi S fun ds S1 => compD g tt te vs Q ds [] (S1.wipe vs)
instance simLc {wi : TI} {g : TG} {tt : TT} {te : TE} {vs : List Nat} {wi' : TDI} {g' : TDG} {tt' : TDT} {te' : TDE} [h1 : SimI K e wi wi'] [h2 : SimG K e g g'] [hw : GW g vs] [h3 : SimT K e tt tt'] [h4 : SimE K e te te'] : SimN K e (tLc wi g tt te vs) (tnLc wi' g' tt' te' vs) := ⟨fun σ H S T Qd Q x0 h k => by
  obtain ⟨U0, x0⟩ := x0
  have xf : R K e σ H S (T.filter notOwn) := ⟨U0, x0.less fun p hp => (List.mem_filter.mp hp).1⟩
  have hT := noOwn_filter T
  refine h1.run σ H S (T.filter notOwn) _ _ xf h fun ds S1 J H1 T1 hd pT it x1 => ?_
  intro l hl
  have hTT : NoOwn (T1 ++ T.filter notOwn) := pT.1.app hT
  obtain ⟨U1, x1⟩ := x1
  have nt : NoTm (T1 ++ T.filter notOwn) l := by
    obtain ⟨_, _, _, f⟩ := x1.moreU (o := .lst []) hl
    exact f
  refine ⟨fun i m H => m = ds.length - i ∧ i ≤ ds.length ∧ ∃ S acc, compD g' tt' te' vs Qd (ds.drop i) acc S ∧ (∃ S0 : PSt, S = S0.wipe vs) ∧ RN K e (wipe σ vs) H S (T1 ++ T.filter notOwn) l acc, ⟨_, rfl, Nat.zero_le _, S1.wipe vs, [], hd, ⟨S1, rfl⟩, ?_⟩, ?_⟩
  · exact (x1.wipe vs hTT).newL hl .nil
  rintro i m H ⟨rfl, hi, S, acc, hf, ⟨S0, hS0⟩, x⟩
  obtain ⟨U, xs, xu, ow, ns, _, hlm, hxs⟩ := x.ex
  have xr : R K e (wipe σ vs) H S (T1 ++ (.nw l acc :: T.filter notOwn)) := ⟨U, (xu.push (p := .nw l acc) ⟨ow, ns, xs, hlm, hxs⟩).less fun p hp => by
    rcases List.mem_append.mp hp with hp | hp
    · exact List.mem_cons_of_mem _ (List.mem_append_left _ hp)
    · rcases List.mem_cons.mp hp with rfl | hp
      · exact List.mem_cons_self
      · exact List.mem_cons_of_mem _ (List.mem_append_right _ hp)⟩
  have hTn : NoOwn (T1 ++ (.nw l acc :: T.filter notOwn)) := pT.1.app fun p hp w j z => by
    rcases List.mem_cons.mp hp with rfl | hp
    · cases z
    · exact hT p hp w j z
  obtain ⟨i1, i2⟩ := it i _ H S _ xr
  have back : ∀ {σ2 : St} {H2 : Hp} {S2 : PSt}, wipe σ2 vs = wipe σ vs → R K e σ2 H2 S2 (T1 ++ (.nw l acc :: T.filter notOwn)) → RN K e (wipe σ vs) H2 (S2.wipe vs) (T1 ++ T.filter notOwn) l acc := by
    intro σ2 H2 S2 e2 x2
    obtain ⟨U2, x2⟩ := x2
    have x3 := x2.wipe vs hTn
    rw [e2] at x3
    obtain ⟨o3, n3, v3, h3, d3⟩ := x3.tmp (.nw l acc) (by simp)
    exact ⟨U2, v3, x3.less fun p hp => by
      rcases List.mem_append.mp hp with hp | hp
      · exact List.mem_append_left _ hp
      · exact List.mem_append_right _ (List.mem_cons_of_mem _ hp), o3, n3, nt, h3, d3⟩
  by_cases c : i < ds.length
  · obtain ⟨g1, g2⟩ := i2 c
    rw [List.drop_eq_getElem_cons c] at hf
    obtain ⟨N, hN, hf⟩ := hf
    refine .inr ⟨g1, fun H' => ∃ S' acc', N acc' S' ∧ (∃ S0 : PSt, S' = S0.wipe vs) ∧ RN K e (wipe σ vs) H' S' (T1 ++ T.filter notOwn) l acc', ?_, fun v H' hy => ?_⟩
    · rintro H' ⟨S', acc', n, hS', x'⟩
      exact ⟨ds.length - (i + 1), by omega, rfl, by omega, S', acc', hN _ _ n, hS', x'⟩
    · obtain ⟨d, hd', x'⟩ := g2 v H' hy
      have : d = ds[i] := by rw [List.getElem?_eq_getElem c] at hd'; exact (Option.some.inj hd').symm
      subst this
      have ww := hw.w v (wipe σ vs) H'
      rw [wipe_wipe] at ww
      refine ww _ (h2.run v _ (wipe σ vs) H' S (T1 ++ (.nw l acc :: T.filter notOwn)) _ _ hTn x' hf fun S2 σ2 H2 hb x2 e2 => ?_)
      refine h3.run σ2 H2 S2 _ _ _ x2 hb fun b S3 H3 hb x3 => ?_
      cases b
      · exact ⟨_, _, hb, ⟨_, rfl⟩, back e2 x3⟩
      · refine h4.run σ2 H3 S3 _ _ _ x3 hb fun r S4 y H4 hr x4 => x4.frc hr fun dy S5 h5 x5 => ?_
        have x6 : R K e σ2 H4 S5 (T1 ++ (.nw l acc :: T.filter notOwn)) := x5.pop
        obtain ⟨U6, v6, xu6, o6, n6, t6, hl6, d6⟩ := (back e2 x6).ex
        obtain ⟨U5, x5⟩ := x5
        have x7 := x5.wipe vs (fun p hp w j z => by
          rcases List.mem_cons.mp hp with rfl | hp
          · cases z
          · exact hTn p hp w j z)
        rw [e2] at x7
        obtain ⟨o3, n3, v3, h3, d3⟩ := x7.tmp (.nw l acc) (by simp)
        have rn : RN K e (wipe σ vs) H4 (S5.wipe vs) (.v y (.d dy) :: (T1 ++ T.filter notOwn)) l acc := ⟨U5, v3, x7.less fun p hp => by
          rcases List.mem_cons.mp hp with rfl | hp
          · exact List.mem_cons_self
          · rcases List.mem_append.mp hp with hp | hp
            · exact List.mem_cons_of_mem _ (List.mem_append_left _ hp)
            · exact List.mem_cons_of_mem _ (List.mem_append_right _ (List.mem_cons_of_mem _ hp)), o3, n3, fun ds hm => by
          rcases List.mem_cons.mp hm with z | z
          · cases z
          · exact nt ds z, h3, d3⟩
        obtain ⟨vs', e1, e3, rn'⟩ := rn.app
        exact ⟨vs', e1, Nat.lt_of_le_of_lt (by rw [e3]; exact h5.1) (by decide), _, _, h5.2, ⟨_, rfl⟩, rn'⟩
  · refine .inl ⟨i1 (by omega), ?_⟩
    rw [List.drop_of_length_le (by omega)] at hf
    subst hS0
    refine k _ _ _ _ hf ⟨U, xs, ?_⟩
    have x5 := xu.unwipe hTT
    have x6 : RU K e σ H (S0.wipe vs) ([] ++ T.filter notOwn) U := x5.less fun p hp => List.mem_append_right _ hp
    have x7 := x0.back x6
    refine ⟨x7, ow, fun j c hj oc => ?_, fun ds hm => ?_, hlm, hxs⟩
    · obtain ⟨h1, h2⟩ := wipeR_some (ρ := S0.ρ) hj
      have := ns j c hj oc
      rw [wipe_get, if_neg (fun z => h2 z.1)] at this
      exact this
    · refine nt ds (List.mem_append_right _ (List.mem_filter.mpr ⟨hm, rfl⟩))⟩
end
end Kn
set_option Elab.async false
set_option maxRecDepth 100000
set_option linter.all false
set_option autoImplicit false
namespace Kn
open PySem L2
structure Exn where
  cls : Addr
  fs : List (Str × D)
def ExOk (K : PySem.W.Frag) (U : Addr → Prop) (W : Wd) (H : Hp) (x : Exn) (c : Value) (d : Option Addr) : Prop :=
  c = .ref x.cls ∧ ((x.fs = [] ∧ d = none) ∨ (x.fs ≠ [] ∧ ∃ b vs, d = some b ∧ ¬ U b ∧ H b = some (.xd vs) ∧ DvF K W.Tp (Hd U H) vs x.fs))
class WLk (K : PySem.W.Frag) (e : Ent) (Wx : WX) (w : outParam (Exn → PSt → Prop)) : Prop where
  run : ∀ (x : Exn) (S : PSt) (σ : St) (H : Hp) (U : Addr → Prop) (c : Value) (d : Option Addr), w x S → RU K e σ H S [] U → ExOk K U S.W H x c d → Wx c d σ H
instance wlk0 {K : PySem.W.Frag} {e : Ent} : WLk K e (fun _ _ _ _ => False) (fun _ _ => False) := ⟨fun x S σ H U c d w _ _ => w⟩
abbrev FSpec := List D → Wd → (D → Wd → Prop) → (Exn → Wd → Prop) → Prop
def lift (K : PySem.W.Frag) (F : FSpec) : Sp := fun vs H Q E => ∃ (U : Addr → Prop) (W : Wd) (ds : List D) (Qd : D → Wd → Prop) (Ed : Exn → Wd → Prop), Rw K U W H ∧ DvL K W.Tp (Hd U H) vs ds ∧ F ds W Qd Ed ∧
  (∀ d W' v H' U', Qd d W' → Rw K U' W' H' → Fr ⟨U, W, H⟩ U' W' H' → Dv K W'.Tp (Hd U' H') v d → Q v H') ∧
  (∀ x W' c dd H' U', Ed x W' → Rw K U' W' H' → Fr ⟨U, W, H⟩ U' W' H' → ExOk K U' W' H' x c dd → E c dd H')
section
variable {K : PySem.W.Frag} {e : Ent}
theorem RU.callBack {σ : St} {H H' : Hp} {S : PSt} {T : List Tm} {U U' : Addr → Prop} {W' : Wd} (x : RU K e σ H S T U) (r : Rw K U' W' H') (f : Fr ⟨U, S.W, H⟩ U' W' H') {v : V} {d : D} (hv : Dv K W'.Tp (Hd U' H') v d) : R K e σ H' ⟨S.ρ, W'⟩ (.v v (.d d) :: T) :=
  ⟨U', (x.to r f).push hv⟩
def CallF (F : FSpec) (ds : List D) (S : PSt) (Q : Rv → PSt → Prop) (w : Exn → PSt → Prop) : Prop := F ds S.W (fun d W' => Q (.d d) ⟨S.ρ, W'⟩) (fun x W' => w x ⟨S.ρ, W'⟩)
def tdCall (F : FSpec) (w : Exn → PSt → Prop) (t : TDA) : TDE := fun S Q => t S fun rs S1 => frcL rs S1 fun ds S2 => CallF F ds S2 Q w
instance simCall {F : FSpec} {Wx : WX} {w : Exn → PSt → Prop} {t : TA} {t' : TDA} [h1 : SimA K e t t'] [h2 : WLk K e Wx w] : SimE K e (tCallS (lift K F) (WE Wx) t) (tdCall F w t') := ⟨fun σ H S T Qd Q x h k => by
  refine h1.run σ H S T _ _ x h fun rs S1 vs H1 hc hl x1 => ?_
  refine R.frcL hl x1 hc fun ds S2 h3 hl2 x2 => ?_
  obtain ⟨U, x2⟩ := x2
  have xT := x2.less (T' := T) fun p hp => List.mem_append_right _ hp
  refine ⟨U, S2.W, ds, _, _, x2.wo, RU.tms hl2 x2, h3, fun d W' v H' U' q r f dv => k _ _ _ _ q (xT.callBack r f dv), fun x W' c dd H' U' q r f ex => ?_⟩
  exact h2.run x ⟨S2.ρ, W'⟩ σ H' U' c dd q ((xT.to r f).less fun p hp => by cases hp) ex⟩
def S0 (N : List Str) (ds : List D) (W : Wd) : PSt := ⟨ds.map (fun d => some (.val d)) ++ List.replicate (N.length - ds.length) none, W⟩
theorem RU.start {N : List Str} {H : Hp} {vs : List V} {ds : List D} {U : Addr → Prop} {W : Wd} (r : Rw K U W H) (hv : DvL K W.Tp (Hd U H) vs ds) : RU K ⟨U, W, H⟩ (start N vs) H (S0 N ds W) [] U where
  wo := r
  fr := Fr.refl U W H
  ed := r.dom
  len := by
    show (vs.map some ++ List.replicate (N.length - vs.length) none).length = _
    simp [S0, hv.len]
  slot := fun i c h => by
    have h : (ds.map (fun d => some (PC.val d)) ++ List.replicate (N.length - ds.length) none)[i]? = some (some c) := h
    by_cases q : i < ds.length
    · rw [List.getElem?_append_left (by simpa using q), List.getElem?_map] at h
      obtain ⟨d, h1, h2⟩ := Option.map_eq_some_iff.mp h
      cases h2
      obtain ⟨v, h3, h4⟩ := hv.get h1
      refine ⟨v, ?_, h4⟩
      unfold L2.start
      have hlt : i < vs.length := by rw [hv.len]; exact q
      rw [List.getElem?_append_left (by simpa using hlt), List.getElem?_map, h3]; rfl
    · rw [List.getElem?_append_right (by simpa using q), List.getElem?_replicate] at h
      split at h
      · cases h
      · cases h
  sep := fun i j c c' l n hi oi hj oj si sj => by
    have hi : (ds.map (fun d => some (PC.val d)) ++ List.replicate (N.length - ds.length) none)[i]? = some (some c) := hi
    by_cases q : i < ds.length
    · rw [List.getElem?_append_left (by simpa using q), List.getElem?_map] at hi
      obtain ⟨d, h1, h2⟩ := Option.map_eq_some_iff.mp hi
      cases h2
      exact oi
    · rw [List.getElem?_append_right (by simpa using q), List.getElem?_replicate] at hi
      split at hi
      · cases hi
      · cases hi
  tmp := fun p hp => by cases hp
end
section
variable {P : Program} {w : World} {K : PySem.W.Frag} {mg : Str → Option Value} {base : Heap}
theorem Fz.okD {x : Str} {st : Stmt} {ps N : List Str} {k : Nat} {Fs : FSpec} (F : Fz K mg x st ps) (S : FnScope N ps (defScope st)) (hl : ∀ ds W Q E, Fs ds W Q E → ds.length = ps.length)
    (hbody : ∀ (f : Addr) (cdv : Value) (A : Around) (outer : List Env) (s : Shared) (H : Hp) (E : XK) (e : Ent) (ds : List D) (Qd : D → Wd → Prop) (Ed : Exn → Wd → Prop), Room k (A.deeper (PyProof.Rows.envOfC x (defScope st) s.heap.objs.size f cdv)) → WLk K e (fun c d _ H => E c d H) (fun x S => Ed x S.W) → Fs ds e.W Qd Ed →
      ∃ t td, PSs (cxOf (L2.CX P w) P w K mg base N x (defScope st) f cdv A outer s H E) (defBody st) t ∧ SimZ K e t td ∧ td ⟨fun S => Qd .non S.W, Qd, fun _ => False, fun _ => False, fun _ _ => False⟩ (S0 N ds e.W)) : Fx P w K mg base (L2.CX P w) x (k + 1) ps (lift K Fs) := by
  refine F.okX S (fun vs H Q E h => ?_) (fun f cdv A outer s H vs Q E hr h => ?_)
  · obtain ⟨U, W, ds, Qd, Ed, r, dv, hF, _⟩ := h
    rw [dv.len]; exact hl _ _ _ _ hF
  · obtain ⟨U, W, ds, Qd, Ed, r, dv, hF, kq, ke⟩ := h
    obtain ⟨t, td, hp, hs, ht⟩ := hbody f cdv A outer s H E ⟨U, W, H⟩ ds Qd Ed hr ⟨fun x S σ H' U' c d hw ru ex => ke x S.W c d H' U' hw ru.wo ru.fr ex⟩ hF
    refine ⟨t, hp, hs.run (start N vs) H (S0 N ds W) _ _ ⟨U, RU.start r dv⟩ ht ⟨fun S' σ' H' q ⟨U', x'⟩ => ?_, fun d S' σ' v H' q ⟨U', x'⟩ => ?_, fun _ _ _ q => q.elim, fun _ _ _ q => q.elim, fun _ _ _ _ _ q => q.elim⟩⟩
    · exact kq _ _ _ _ U' q x'.wo x'.fr .non
    · exact kq _ _ _ _ U' q x'.wo x'.fr (x'.tmp (.v v (.d d)) (by simp))
end
abbrev FSpecN := List D → Wd → (List D → Wd → Prop) → (Exn → Wd → Prop) → Prop
def liftN (K : PySem.W.Frag) (F : FSpecN) : Sp := fun vs H Q E => ∃ (U : Addr → Prop) (W : Wd) (ds : List D) (Qd : List D → Wd → Prop) (Ed : Exn → Wd → Prop), Rw K U W H ∧ DvL K W.Tp (Hd U H) vs ds ∧ F ds W Qd Ed ∧
  (∀ es W' l xs H' U', Qd es W' → Rw K U' W' H' → Fr ⟨U, W, H⟩ U' W' H' → U' l → H l = none → ¬ W'.Tp l → W'.ω l = none → H' l = some (.lst xs) → DvL K W'.Tp (Hd U' H') xs es → Q (.ref l) H') ∧
  (∀ x W' c dd H' U', Ed x W' → Rw K U' W' H' → Fr ⟨U, W, H⟩ U' W' H' → ExOk K U' W' H' x c dd → E c dd H')
section
variable {K : PySem.W.Frag} {e : Ent}
def CallN (F : FSpecN) (ds : List D) (S : PSt) (Q : List D → PSt → Prop) (w : Exn → PSt → Prop) : Prop := F ds S.W (fun d W' => Q d ⟨S.ρ, W'⟩) (fun x W' => w x ⟨S.ρ, W'⟩)
def tnCall (F : FSpecN) (w : Exn → PSt → Prop) (t : TDA) : TDN := fun S Q => t S fun rs S1 => frcL rs S1 fun ds S2 => CallN F ds S2 Q w
instance simCallN {F : FSpecN} {Wx : WX} {w : Exn → PSt → Prop} {t : TA} {t' : TDA} [h1 : SimA K e t t'] [h2 : WLk K e Wx w] : SimN K e (tCallS (liftN K F) (WE Wx) t) (tnCall F w t') := ⟨fun σ H S T Qd Q x h k => by
  refine h1.run σ H S T _ _ x h fun rs S1 vs H1 hc hl x1 => ?_
  refine R.frcL hl x1 hc fun ds S2 h3 hl2 x2 => ?_
  obtain ⟨U, x2⟩ := x2
  have xT := x2.less (T' := T) fun p hp => List.mem_append_right _ hp
  refine ⟨U, S2.W, ds, _, _, x2.wo, RU.tms hl2 x2, h3, fun es W' l xs H' U' q r f u0 l0 tp w0 hl' dv => k _ _ _ _ q ⟨U', xs, xT.to r f, ⟨u0, xT.free0 l0, tp, w0⟩, fun i c hi oc si => ?_, fun ds' hm => ?_, hl', dv⟩, fun x W' c dd H' U' q r f ex => ?_⟩
  · obtain ⟨v, h1, h2⟩ := xT.slot i c hi
    rw [h1] at si; cases si
    match c, oc, h2 with
    | .ownL ds, _, ⟨m, vs, e1, _, e2, _⟩ => cases e1; rw [l0] at e2; cases e2
    | .ownD ds, _, ⟨m, vs, e1, _, e2, _⟩ => cases e1; rw [l0] at e2; cases e2
  · obtain ⟨_, _, vs, e2, _⟩ := xT.tmp _ hm
    rw [l0] at e2; cases e2
  · exact h2.run x ⟨S2.ρ, W'⟩ σ H' U' c dd q ((xT.to r f).less fun p hp => by cases hp) ex⟩
end
section
variable {P : Program} {w : World} {K : PySem.W.Frag} {mg : Str → Option Value} {base : Heap}
theorem Fz.okDN {x : Str} {st : Stmt} {ps N : List Str} {k : Nat} {Fs : FSpecN} (F : Fz K mg x st ps) (S : FnScope N ps (defScope st)) (hl : ∀ ds W Q E, Fs ds W Q E → ds.length = ps.length)
    (hbody : ∀ (f : Addr) (cdv : Value) (A : Around) (outer : List Env) (s : Shared) (H : Hp) (E : XK) (e : Ent) (ds : List D) (Qd : List D → Wd → Prop) (Ed : Exn → Wd → Prop), Room k (A.deeper (PyProof.Rows.envOfC x (defScope st) s.heap.objs.size f cdv)) → WLk K e (fun c d _ H => E c d H) (fun x S => Ed x S.W) → Fs ds e.W Qd Ed →
      ∃ t td, PSs (cxOf (L2.CX P w) P w K mg base N x (defScope st) f cdv A outer s H E) (defBody st) t ∧ SimZ K e t td ∧ td ⟨fun _ => False, fun _ _ => False, fun _ => False, fun _ => False, Qd⟩ (S0 N ds e.W)) : Fx P w K mg base (L2.CX P w) x (k + 1) ps (liftN K Fs) := by
  refine F.okX S (fun vs H Q E h => ?_) (fun f cdv A outer s H vs Q E hr h => ?_)
  · obtain ⟨U, W, ds, Qd, Ed, r, dv, hF, _⟩ := h
    rw [dv.len]; exact hl _ _ _ _ hF
  · obtain ⟨U, W, ds, Qd, Ed, r, dv, hF, kq, ke⟩ := h
    obtain ⟨t, td, hp, hs, ht⟩ := hbody f cdv A outer s H E ⟨U, W, H⟩ ds Qd Ed hr ⟨fun x S σ H' U' c d hw ru ex => ke x S.W c d H' U' hw ru.wo ru.fr ex⟩ hF
    refine ⟨t, hp, hs.run (start N vs) H (S0 N ds W) _ _ ⟨U, RU.start r dv⟩ ht ⟨fun S' σ' H' q _ => q.elim, fun d S' σ' v H' q _ => q.elim, fun _ _ _ q => q.elim, fun _ _ _ q => q.elim, fun es S' σ' l H' q x' => ?_⟩⟩
    obtain ⟨U', xs, x', ow, ns, nt, hl', dv'⟩ := x'.ex
    exact kq _ _ l xs _ U' q x'.wo x'.fr ow.u ow.e0 ow.tp ow.w hl' dv'
end
def tRaise (t : St → Hp → XK → Prop) (W : WX) : TS := fun _ σ H => t σ H fun cls d H' => W cls d σ H'
def tMkO (C : Addr) : St → Hp → XK → Prop := fun _ H Q => Q (.ref C) none H
theorem ps_raiseU {X : Cx} {W : WX} {C : Addr} {ex : Expr} {pos : Pos} (hc : X.calm = true) (tk : Takes X W) (he : PMk X ex (fun _ H Q => Q (.ref C) none H)) : PS X (.Raise (some ex) none pos) (tRaise (tMkO C) W) := ps_raise hc tk he
section
variable {K : PySem.W.Frag} {e : Ent}
def tdRaise (C : Addr) (w : Exn → PSt → Prop) : TDS := fun _ S => w ⟨C, []⟩ S
instance simRaise {C : Addr} {Wx : WX} {w : Exn → PSt → Prop} [h : WLk K e Wx w] : SimS K e (tRaise (tMkO C) Wx) (tdRaise C w) := ⟨fun σ H S T Ed E hT ⟨U, x⟩ q k => h.run ⟨C, []⟩ S σ H U _ _ q (x.less fun p hp => by cases hp) ⟨rfl, .inl ⟨rfl, rfl⟩⟩⟩
def mutO (S : PSt) (j : Nat) (F : List D → (List D → Prop) → Prop) (Q : List D → PSt → Prop) : Option (Option PC) → Prop
  | some (some (.ownL ds)) => F ds fun es => Q es (S.set j (.ownL es))
  | _ => False
def mutC (S : PSt) (a : Addr) (F : List D → (List D → Prop) → Prop) (Q : List D → PSt → Prop) : Option Cell → Prop
  | some (.lst ds) => F ds fun es => Q es ⟨S.ρ, S.W.put a (.lst es)⟩
  | _ => False
def mutL (S : PSt) (r : Rv) (F : List D → (List D → Prop) → Prop) (Q : List D → PSt → Prop) : Prop := match r with
  | .own j => mutO S j F Q S.ρ[j]?
  | .d (.ref a) => mutC S a F Q (S.W.ω a)
  | _ => False
theorem R.mutL {σ : St} {H : Hp} {S : PSt} {T : List Tm} {v : V} {r : Rv} {F : List D → (List D → Prop) → Prop} {Q : List D → PSt → Prop} {C : Prop} (x : R K e σ H S (.v v r :: T)) (h : Kn.mutL S r F Q)
    (k : ∀ (l : Addr) (vs : List V) (ds : List D) (U : Addr → Prop) (Qs : List D → Prop), v = .ref l → H l = some (.lst vs) → DvL K S.W.Tp (Hd U H) vs ds → RU K e σ H S (.v v r :: T) U → F ds Qs →
      (∀ (vs' : List V) (es : List D), Qs es → DvL K S.W.Tp (Hd U H) vs' es → ∃ S', Q es S' ∧ RU K e σ (upd H l (.lst vs')) S' T U ∧ S'.W.Tp = S.W.Tp) → C) : C := by
  obtain ⟨U, x⟩ := x
  match r, x, h with
  | .own j, x, h =>
    have hs : σ[j]? = some (some v) := x.tmp (.v v (.own j)) (by simp)
    have xT := x.less (T' := T) fun p hp => List.mem_cons_of_mem _ hp
    have h : mutO S j F Q S.ρ[j]? := h
    match q : S.ρ[j]?, h with
    | some (some (.ownL ds)), h =>
      obtain ⟨l, vs, e1, ow, e2, e3⟩ := x.ownL q
      rw [hs] at e1; cases e1
      refine k l vs ds U _ rfl e2 e3 x h fun vs' es q1 d1 => ⟨_, q1, ?_, rfl⟩
      exact xT.updO (c' := .ownL es) q trivial trivial hs ow ⟨l, vs', rfl, ow, upd_same, DvL.le (Same.lq (Hd.upd ow.u)) (fun _ z => z) d1⟩
  | .d (.ref a), x, h =>
    have hv : Dv K S.W.Tp (Hd U H) v (.ref a) := x.tmp (.v v (.d (.ref a))) (by simp)
    cases hv
    have xT := x.less (T' := T) fun p hp => List.mem_cons_of_mem _ hp
    have h : mutC S a F Q (S.W.ω a) := h
    cases q : S.W.ω a with
    | none => rw [q] at h; exact h.elim
    | some c =>
      rw [q] at h
      cases c with
      | lst ds =>
        obtain ⟨u, vs, e2, e3⟩ := x.wo.cell a _ q
        refine k a vs ds U _ rfl e2 e3 x h fun vs' es q1 d1 => ⟨_, q1, ?_, rfl⟩
        exact xT.updC (c' := .lst es) q trivial ⟨vs', upd_same, DvL.le (Same.lq (Hd.upd u)) (fun _ z => z) d1⟩
      | ins C fs => exact h.elim
      | dct ks => exact h.elim
      | lk od vs ks => exact h.elim
      | dtn w o ks => exact h.elim
def tdApp (to : TDE) (t : TDA) : TDE := fun S Q => to S fun rx S1 => (∃ ds, derefD S1 rx = some (.lst ds)) ∧ t S1 fun rs S2 => arg1 rs fun r => frc r S2 fun d S3 => mutL S3 rx (fun ds k => ds.length ≤ 999999 ∧ k (ds ++ [d])) fun _ S4 => Q (.d .non) S4
theorem swap2 {σ : St} {H : Hp} {S : PSt} {T : List Tm} {p q : Tm} (x : R K e σ H S (p :: q :: T)) : R K e σ H S (q :: p :: T) := x.less fun r hr => by
  simp at hr ⊢
  rcases hr with h | h | h
  · exact .inr (.inl h)
  · exact .inl h
  · exact .inr (.inr h)
theorem tyV_list {σ : St} {H : Hp} {S : PSt} {T : List Tm} {v : V} {r : Rv} {ds : List D} (x : R K e σ H S (.v v r :: T)) (h : derefD S r = some (.lst ds)) : tyV K "list" v H := by
  obtain ⟨U, _, vw, _⟩ := x.one h
  obtain ⟨a, xs, rfl, h1, _⟩ : Vw K S.W.Tp U H v (.lst ds) := vw
  exact .inl ⟨rfl, _, SqL.of h1⟩
instance simApp {to : TE} {t : TA} {to' : TDE} {t' : TDA} [h1 : SimE K e to to'] [h2 : SimA K e t t'] : SimE K e (tBM K "list" rAppend to t) (tdApp to' t') := ⟨fun σ H S T Qd Q x h k => by
  refine h1.run σ H S T _ _ x h fun rx S1 v H1 hr x1 => ?_
  obtain ⟨⟨ds0, hd0⟩, hr⟩ := hr
  refine ⟨tyV_list x1 hd0, h2.run σ H1 S1 _ _ _ x1 hr fun rs S2 vs H2 hr hl x2 => ?_⟩
  obtain ⟨r, rfl, hr⟩ := arg1_inv hr
  obtain ⟨y, rfl⟩ := len1 hl
  refine R.frc (T := .v v rx :: T) x2 hr fun d S3 h3 x3 => ?_
  refine (swap2 x3).mutL h3 fun l xs ds U Qs e1 e2 e3 x4 hq kk => ?_
  obtain ⟨S4, q4, x5, _⟩ := kk (xs ++ [y]) (ds ++ [d]) hq.2 (e3.app (.cons (x4.tmp (.v y (.d d)) (by simp)) .nil))
  exact ⟨l, xs, y, e1, rfl, e2, bigl_of (by rw [e3.len]; have := hq.1; omega), k _ _ _ _ q4 ⟨U, (x5.less fun p hp => List.mem_cons_of_mem _ hp).push .non⟩⟩⟩
end
end Kn
set_option Elab.async false
set_option maxRecDepth 100000
set_option linter.all false
set_option autoImplicit false
namespace Kn
open PySem L2
theorem hu65_of {A : Around} {k : Nat} (hr : Room k A) : A.units + 65 < cLine := by have := hr.un; omega
theorem Fx.toX {P : Program} {w : World} {K : PySem.W.Frag} {mg : Str → Option Value} {base : Heap} {x : Str} {k : Nat} {ps : List Str} {sp : Sp} (F : Fx P w K mg base CX0 x k ps sp) : Fx P w K mg base (L2.CX P w) x k ps sp := by
  obtain ⟨f, fd, F1, m⟩ := F.ex
  refine ⟨f, fd, ⟨F1.len, fun A outer s H args us vs Q E hr e0 b v h => codeAny_mono (F1.run A outer s H args us vs Q E hr e0 b v h) fun r s' hq => ?_⟩, m⟩
  cases r with
  | error er => exact hq.elim
  | ok fl => cases fl <;> exact hq
theorem Fx.imp {P : Program} {w : World} {K : PySem.W.Frag} {mg : Str → Option Value} {base : Heap} {CX : CXT} {x : Str} {k : Nat} {ps : List Str} {sp sp' : Sp} (F : Fx P w K mg base CX x k ps sp) (h : ∀ vs H Q E, sp' vs H Q E → sp vs H Q E) : Fx P w K mg base CX x k ps sp' :=
  let ⟨f, fd, F1, m⟩ := F.ex
  ⟨f, fd, F1.imp h, m⟩
def F_take : FSpec := fun ds W Q _ => ∃ m : Int, ds = [.tape, .int m] ∧ 0 < m ∧ ∀ r : Int, 0 ≤ r → r < m → Q (.int r) W
theorem take_lift {K : PySem.W.Frag} {vs : List V} {H : Hp} {Q : VK} {E : XK} (h : lift K F_take vs H Q E) : spTake vs H Q E := by
  obtain ⟨U, W, ds, Qd, Ed, r, dv, ⟨m, rfl, hm, hq⟩, kq, _⟩ := h
  cases dv with
  | cons d1 dv =>
  cases dv with
  | cons d2 dv =>
  cases dv
  cases d1 with
  | tape ht =>
  cases d2
  rename_i t
  have htp := (r.tape t ht).2.1
  have hut := (r.tape t ht).1
  refine ⟨t, m, rfl, htp, hm, fun x H' h0 h1 d => ?_⟩
  have kp : ∀ b o, H b = some o → b ≠ t → H' b = some o := d.keep
  refine kq (.int x) W _ H' U (hq x h0 h1) ?_ ?_ (.int x)
  · have sm : Same (Hd U H) (Hd U H') := fun b o q => by
      obtain ⟨q, n⟩ := Hd.of q
      exact Hd.get (kp b o q fun z => n (z ▸ hut)) n
    refine ⟨fun b u => ?_, fun b hb => ?_, fun a c hc => ?_⟩
    · by_cases q : b = t
      · subst q
        obtain ⟨ns, z⟩ := d.tape
        rw [z]; intro z; cases z
      · cases z : H b with
        | none => exact absurd z (r.dom b u)
        | some o => rw [kp b o z q]; intro z; cases z
    · obtain ⟨a1, a2, a3⟩ := r.tape b hb
      refine ⟨a1, ?_, a3⟩
      by_cases q : b = t
      · subst q; exact d.tape
      · exact a2.le fun o z => kp b o z q
    · obtain ⟨u, ck⟩ := r.cell a c hc
      refine ⟨u, ck.le (Same.lq sm) (fun _ z => z) fun o z => kp a o z fun q => ?_⟩
      have := (r.tape t ht).2.2
      rw [← q, hc] at this; cases this
  · refine ⟨fun b o q n => .inl (kp b o q fun z => n (.inl (z ▸ ht))), fun _ u => u, fun _ u => .inl u, fun _ z => .inl z, fun _ z => z, fun b q => ?_, fun _ _ z _ => z⟩
    by_cases z : b = t
    · subst z
      obtain ⟨ns, z⟩ := d.tape
      rw [z]; intro z; cases z
    · cases q2 : H b with
      | none => exact absurd q2 q
      | some o => rw [kp b o q2 z]; intro z; cases z
def F_tape : FSpec := fun ds W Q _ => ∃ k n : Int, ds = [.scr, .int k, .int n] ∧ 0 ≤ k ∧ 0 ≤ n ∧ n ≤ 1000 ∧ ∀ Tp' : Addr → Prop, (∀ t, W.Tp t → Tp' t) → Q .tape ⟨Tp', W.ω⟩
theorem tape_lift {K : PySem.W.Frag} {vs : List V} {H : Hp} {Q : VK} {E : XK} (h : lift K F_tape vs H Q E) : ∃ (a : Addr) (k n : Int) (ns : List Int), vs = [.ref a, .int k, .int n] ∧ SqL K H a (ns.map V.int) ∧ 0 ≤ k ∧ 0 ≤ n ∧ n ≤ 1000 ∧
    ∀ (t : Addr) (H' : Hp), H t = none → Same H H' → Tape H' t → Q (.ref t) H' := by
  obtain ⟨U, W, ds, Qd, Ed, r, dv, ⟨k, n, rfl, hk, hn0, hn, hq⟩, kq, _⟩ := h
  cases dv with
  | cons d1 dv =>
  cases dv with
  | cons d2 dv =>
  cases dv with
  | cons d3 dv =>
  cases dv
  cases d1 with
  | scr hs hl =>
  cases d2
  cases d3
  rename_i a ns
  refine ⟨a, k, n, ns, rfl, Same.seq Hd.sub hs, hk, hn0, hn, fun t H' ht sm tp => ?_⟩
  have nt : ∀ b o, H b = some o → b ≠ t := fun b o q => ne_of_none q ht
  have smd : Same (Hd U H) (Hd (fun b => U b ∨ b = t) H') := fun b o q => by
    obtain ⟨q, n⟩ := Hd.of q
    exact Hd.get (sm b o q) fun z => z.elim n (nt b o q)
  refine kq .tape ⟨fun b => W.Tp b ∨ b = t, W.ω⟩ (.ref t) H' (fun b => U b ∨ b = t) (hq _ fun _ z => .inl z) ?_ ?_ (.tape (.inr rfl))
  · refine ⟨fun b u => ?_, fun b hb => ?_, fun a c hc => ?_⟩
    · rcases u with u | rfl
      · cases z : H b with
        | none => exact absurd z (r.dom b u)
        | some o => rw [sm b o z]; intro z; cases z
      · obtain ⟨ms, z⟩ := tp
        rw [z]; intro z; cases z
    · rcases hb with hb | rfl
      · obtain ⟨a1, a2, a3⟩ := r.tape b hb
        exact ⟨.inl a1, a2.le fun o z => sm b o z, a3⟩
      · refine ⟨.inr rfl, tp, ?_⟩
        show W.ω b = none
        cases z : W.ω b with
        | none => rfl
        | some c => exact absurd ht (r.dom b (r.cell b c z).1)
    · obtain ⟨u, ck⟩ := r.cell a c hc
      exact ⟨.inl u, ck.le (Same.lq smd) (fun _ z => .inl z) fun o z => sm a o z⟩
  · refine ⟨fun b o q _ => .inl (sm b o q), fun _ u => .inl u, fun b u => u.elim .inl fun z => .inr (z ▸ ht), fun b z => ?_, fun _ z => .inl z, fun b q => ?_, fun _ _ z _ => z⟩
    · rcases z with (z | z) | z
      · exact .inl (.inl z)
      · exact .inr (z ▸ ht)
      · exact .inl (.inr z)
    · cases q2 : H b with
      | none => exact absurd q2 q
      | some o => rw [sm b o q2]; intro z; cases z
end Kn
set_option Elab.async false
set_option maxRecDepth 100000
set_option linter.all false
set_option autoImplicit false
namespace Kn
open PySem L2
section
variable {α : Type} {g : TDG} {tt : TDT} {te : TDE} {vs : List Nat} {Q : List D → PSt → Prop} {tb : TDS} {E : DEnds} {S : PSt}
def turnD (g : TDG) (tt : TDT) (te : TDE) (vs : List Nat) (d : D) (S : PSt) (N : D → PSt → Prop) (M : PSt → Prop) : Prop := g d S fun S2 => tt S2 fun b S3 => if b = true then te S3 fun r S4 => frc r S4 fun y S5 => N y (S5.wipe vs) else M (S3.wipe vs)
theorem compD_fm (h : α → D) (f : α → Option D) : ∀ (xs : List α) (acc : List D), acc.length + xs.length ≤ 1000000 → (∀ x ∈ xs, ∀ (N : D → PSt → Prop) (M : PSt → Prop), (∀ y, f x = some y → N y S) → (f x = none → M S) → turnD g tt te vs (h x) S N M) → Q (acc ++ xs.filterMap f) S → compD g tt te vs Q (xs.map h) acc S
  | [], acc, _, _, q => by simpa [compD] using q
  | x :: xs, acc, hl, hs, q => by
    refine ⟨fun a S' => S' = S ∧ a = acc ++ (f x).toList, ?_, hs x (by simp) (fun y S' => acc.length ≤ 999999 ∧ S' = S ∧ acc ++ [y] = acc ++ (f x).toList) (fun S' => S' = S ∧ acc = acc ++ (f x).toList) (fun y hy => ⟨by simp at hl; omega, rfl, by rw [hy]; rfl⟩) fun hy => ⟨rfl, by rw [hy]; simp⟩⟩
    rintro a S' ⟨e, rfl⟩
    rw [e]
    refine compD_fm h f xs _ ?_ (fun y hy => hs y (by simp [hy])) ?_
    · cases f x <;> simp at hl ⊢ <;> omega
    · cases e : f x <;> simp [e] at q ⊢ <;> exact q
theorem compD_map (h f : α → D) (xs : List α) (acc : List D) (hl : acc.length + xs.length ≤ 1000000) (hs : ∀ x ∈ xs, ∀ (N : D → PSt → Prop) (M : PSt → Prop), N (f x) S → turnD g tt te vs (h x) S N M) (q : Q (acc ++ xs.map f) S) : compD g tt te vs Q (xs.map h) acc S :=
  compD_fm h (fun x => some (f x)) xs acc hl (fun x hx N M h1 _ => hs x hx N M (h1 _ rfl)) (by simpa [List.filterMap_eq_map] using q)
inductive All2 {α β : Type} (P : α → β → Prop) : List α → List β → Prop
  | nil : All2 P [] []
  | cons {a : α} {b : β} {as : List α} {bs : List β} : P a b → All2 P as bs → All2 P (a :: as) (b :: bs)
theorem compD_rel (h : α → D) (P : α → D → Prop) : ∀ (xs : List α) (acc : List D), acc.length + xs.length ≤ 1000000 → (∀ x ∈ xs, ∀ (N : D → PSt → Prop) (M : PSt → Prop), (∀ y, P x y → N y S) → turnD g tt te vs (h x) S N M) → (∀ ys, All2 P xs ys → Q (acc ++ ys) S) → compD g tt te vs Q (xs.map h) acc S
  | [], acc, _, _, q => by simpa [compD] using q [] .nil
  | x :: xs, acc, hl, hs, q => by
    refine ⟨fun a S' => S' = S ∧ ∃ y, P x y ∧ a = acc ++ [y], ?_, hs x (by simp) (fun y S' => acc.length ≤ 999999 ∧ S' = S ∧ ∃ y', P x y' ∧ acc ++ [y] = acc ++ [y']) (fun S' => S' = S ∧ ∃ y', P x y' ∧ acc = acc ++ [y']) fun y hy => ⟨by simp at hl; omega, rfl, y, hy, rfl⟩⟩
    rintro a S' ⟨e, y, hy, rfl⟩
    rw [e]
    refine compD_rel h P xs _ ?_ (fun y hy => hs y (by simp [hy])) fun ys h2 => ?_
    · simp at hl ⊢; omega
    · simpa using q (y :: ys) (.cons hy h2)
theorem All2.len {α β : Type} {P : α → β → Prop} : ∀ {as : List α} {bs : List β}, All2 P as bs → as.length = bs.length
  | _, _, .nil => rfl
  | _, _, .cons _ t => by simp [All2.len t]
theorem All2.mem {α β : Type} {P : α → β → Prop} {Q : β → Prop} (h : ∀ a b, P a b → Q b) : ∀ {as : List α} {bs : List β}, All2 P as bs → ∀ b ∈ bs, Q b
  | _, _, .cons p t, b, hb => by
    rcases List.mem_cons.mp hb with rfl | hb
    · exact h _ _ p
    · exact All2.mem h t b hb
theorem forD_ix (h : α → D) (xs : List α) (I : Nat → PSt → Prop) (h0 : I 0 S) (hs : ∀ (i : Nat) x S, xs[i]? = some x → I i S → g (h x) S fun S2 => tb ⟨I (i + 1), E.rt, E.nx, I (i + 1), E.rn⟩ S2) (hd : ∀ S, I xs.length S → E.nx S) : forD g tb E (xs.map h) S := by
  have key : ∀ (ys : List α) (i : Nat) (S : PSt), i ≤ xs.length → xs.drop i = ys → I i S → forD g tb E (ys.map h) S := by
    intro ys
    induction ys with
    | nil =>
      intro i S hle e hi
      have hge : i = xs.length := by
        have := congrArg List.length e
        simp at this; omega
      subst hge
      exact hd S hi
    | cons y ys ih =>
      intro i S hle e hi
      have hlt : i < xs.length := by
        have := congrArg List.length e
        simp at this; omega
      have hy : xs[i]? = some y := by
        rw [List.drop_eq_getElem_cons hlt] at e
        rw [List.getElem?_eq_getElem hlt]
        exact congrArg some (List.cons.inj e).1
      refine ⟨I (i + 1), fun S' h' => ih (i + 1) S' hlt ?_ h', hs i y S hy hi⟩
      rw [List.drop_eq_getElem_cons hlt] at e
      exact (List.cons.inj e).2
  exact key xs 0 S (Nat.zero_le _) (by simp) h0
end
theorem eqOk_ii (a b : Int) : eqOk (.int a) (.int b) ↔ True := iff_true_intro (.inl rfl)
theorem eqOk_ss (a b : Str) : eqOk (.str a) (.str b) ↔ True := iff_true_intro (.inl rfl)
theorem eqOk_bb (a b : Bool) : eqOk (.bl a) (.bl b) ↔ True := iff_true_intro (.inl rfl)
theorem eqOk_nn : eqOk .non .non ↔ True := iff_true_intro (.inl rfl)
theorem eqOk_ns (a : Str) : eqOk .non (.str a) ↔ True := iff_true_intro (.inl rfl)
theorem eqOk_sn (a : Str) : eqOk (.str a) .non ↔ True := iff_true_intro (.inl rfl)
theorem eqOk_ni (a : Int) : eqOk .non (.int a) ↔ True := iff_true_intro (.inl rfl)
theorem eqOk_in (a : Int) : eqOk (.int a) .non ↔ True := iff_true_intro (.inl rfl)
theorem eqOk_si (a : Str) (b : Int) : eqOk (.str a) (.int b) ↔ True := iff_true_intro (.inl rfl)
theorem eqOk_is (a : Int) (b : Str) : eqOk (.int a) (.str b) ↔ True := iff_true_intro (.inl rfl)
theorem at_get {α : Type} {xs : List α} {i : Int} {j : Nat} {x : α} (h : i = (j : Int)) (hx : xs[j]? = some x) : atI xs i = some x := by rw [h]; exact atI_nat hx
section
variable {α : Type} (a b c d f : α) (xs : List α)
theorem atI_0 : atI (a :: xs) 0 = some a := at_get (j := 0) rfl rfl
theorem atI_1 : atI (a :: b :: xs) 1 = some b := at_get (j := 1) rfl rfl
theorem atI_2 : atI (a :: b :: c :: xs) 2 = some c := at_get (j := 2) rfl rfl
theorem atI_3 : atI (a :: b :: c :: d :: xs) 3 = some d := at_get (j := 3) rfl rfl
theorem atI_4 : atI (a :: b :: c :: d :: f :: xs) 4 = some f := at_get (j := 4) rfl rfl
theorem cut1 : cut (a :: xs) (some 1) none = xs := by
  unfold cut
  rw [show HT.sIx (a :: xs).length 0 (some (1 : Int)) = 1 from sIx_nat (i := 1) rfl (by simp), show HT.sIx (a :: xs).length (a :: xs).length none = (a :: xs).length from rfl]
  simp
end
theorem cut_to {α : Type} {xs : List α} {i : Nat} {z : Int} (e : z = (i : Int)) (h : i ≤ xs.length) : cut xs none (some z) = xs.take i := by
  unfold cut
  rw [sIx_nat e h, show HT.sIx xs.length 0 none = 0 from rfl]
  simp
theorem cut_from {α : Type} {xs : List α} {i : Nat} {z : Int} (e : z = (i : Int)) (h : i ≤ xs.length) : cut xs (some z) none = xs.drop i := by
  unfold cut
  rw [sIx_nat e h, show HT.sIx xs.length xs.length none = xs.length from rfl]
  rw [List.take_of_length_le (by simp)]
end Kn
set_option Elab.async false
set_option maxRecDepth 100000
set_option linter.all false
set_option autoImplicit false
namespace Kn
open PySem L2
section
variable {K : PySem.W.Frag} {e : Ent}
def mutDO (S : PSt) (j : Nat) (F : List (Key × D) → (List (Key × D) → Prop) → Prop) (Q : PSt → Prop) : Option (Option PC) → Prop
  | some (some (.ownD ds)) => F ds fun es => Q (S.set j (.ownD es))
  | _ => False
def mutDC (S : PSt) (a : Addr) (F : List (Key × D) → (List (Key × D) → Prop) → Prop) (Q : PSt → Prop) : Option Cell → Prop
  | some (.dct ds) => F ds fun es => Q ⟨S.ρ, S.W.put a (.dct es)⟩
  | _ => False
def mutD (S : PSt) (r : Rv) (F : List (Key × D) → (List (Key × D) → Prop) → Prop) (Q : PSt → Prop) : Prop := match r with
  | .own j => mutDO S j F Q S.ρ[j]?
  | .d (.ref a) => mutDC S a F Q (S.W.ω a)
  | _ => False
theorem R.mutD {σ : St} {H : Hp} {S : PSt} {T : List Tm} {v : V} {r : Rv} {F : List (Key × D) → (List (Key × D) → Prop) → Prop} {Q : PSt → Prop} {C : Prop} (x : R K e σ H S (.v v r :: T)) (h : Kn.mutD S r F Q)
    (k : ∀ (l : Addr) (vs : List (Key × V)) (ds : List (Key × D)) (U : Addr → Prop) (Qs : List (Key × D) → Prop), v = .ref l → H l = some (.dK vs) → DvK K S.W.Tp (Hd U H) vs ds → RU K e σ H S (.v v r :: T) U → F ds Qs →
      (∀ (vs' : List (Key × V)) (es : List (Key × D)), Qs es → DvK K S.W.Tp (Hd U H) vs' es → ∃ S', Q S' ∧ RU K e σ (upd H l (.dK vs')) S' T U) → C) : C := by
  obtain ⟨U, x⟩ := x
  match r, x, h with
  | .own j, x, h =>
    have hs : σ[j]? = some (some v) := x.tmp (.v v (.own j)) (by simp)
    have xT := x.less (T' := T) fun p hp => List.mem_cons_of_mem _ hp
    have h : mutDO S j F Q S.ρ[j]? := h
    match q : S.ρ[j]?, h with
    | some (some (.ownD ds)), h =>
      obtain ⟨l, vs, e1, ow, e2, e3⟩ := x.ownD q
      rw [hs] at e1; cases e1
      refine k l vs ds U _ rfl e2 e3 x h fun vs' es q1 d1 => ⟨_, q1, ?_⟩
      exact xT.updO (c' := .ownD es) q trivial trivial hs ow ⟨l, vs', rfl, ow, upd_same, DvK.le (Same.lq (Hd.upd ow.u)) (fun _ z => z) d1⟩
  | .d (.ref a), x, h =>
    have hv : Dv K S.W.Tp (Hd U H) v (.ref a) := x.tmp (.v v (.d (.ref a))) (by simp)
    cases hv
    have xT := x.less (T' := T) fun p hp => List.mem_cons_of_mem _ hp
    have h : mutDC S a F Q (S.W.ω a) := h
    cases q : S.W.ω a with
    | none => rw [q] at h; exact h.elim
    | some c =>
      rw [q] at h
      cases c with
      | dct ds =>
        obtain ⟨u, vs, e2, e3⟩ := x.wo.cell a _ q
        refine k a vs ds U _ rfl e2 e3 x h fun vs' es q1 d1 => ⟨_, q1, ?_⟩
        exact xT.updC (c' := .dct es) q trivial ⟨vs', upd_same, DvK.le (Same.lq (Hd.upd u)) (fun _ z => z) d1⟩
      | ins C fs => exact h.elim
      | lst ks => exact h.elim
      | lk od vs ks => exact h.elim
      | dtn w o ks => exact h.elim
end
end Kn
set_option Elab.async false
set_option maxRecDepth 100000
set_option linter.all false
set_option autoImplicit false
namespace Kn
open PySem L2
section
variable {K : PySem.W.Frag} {e : Ent} {σ : St} {H : Hp} {S : PSt} {T : List Tm}
def refC (Q : List D → Prop) : Option Cell → Prop
  | some (.lst ds) => Q ds
  | _ => False
def refF (S : PSt) (Q : Addr → List D → Prop) : Rv → Prop
  | .d (.ref a) => refC (Q a) (S.W.ω a)
  | _ => False
end
end Kn
set_option Elab.async false
set_option maxRecDepth 100000
set_option linter.all false
set_option autoImplicit false
namespace Kn
open PySem L2
section
variable {K : PySem.W.Frag} {e : Ent} {σ : St} {H : Hp} {S : PSt} {T : List Tm} {U : Addr → Prop}
def insC (C : Addr) (Q : List (Str × D) → Prop) : Option Cell → Prop
  | some (.ins C' fs) => C' = C ∧ Q fs
  | _ => False
def insF (S : PSt) (C : Addr) (Q : Addr → List (Str × D) → Prop) : Rv → Prop
  | .d (.ref a) => insC C (Q a) (S.W.ω a)
  | _ => False
end
section
variable {P : Program} {w : World} {K : PySem.W.Frag} {mg : Str → Option Value} {base : Heap}
def BodyD (P : Program) (w : World) (K : PySem.W.Frag) (mg : Str → Option Value) (base : Heap) (N : List Str) (qual : Str) (st : Stmt) (k : Nat) (Fs : FSpec) : Prop := ∀ (f : Addr) (cdv : Value) (A : Around) (outer : List Env) (s : Shared) (H : Hp) (E : XK) (e : Ent) (ds : List D) (Qd : D → Wd → Prop) (Ed : Exn → Wd → Prop), Room k (A.deeper (PyProof.Rows.envOfC qual (defScope st) s.heap.objs.size f cdv)) → WLk K e (fun c d _ H => E c d H) (fun x S => Ed x S.W) → Fs ds e.W Qd Ed →
      ∃ t td, PSs (cxOf (L2.CX P w) P w K mg base N qual (defScope st) f cdv A outer s H E) (defBody st) t ∧ SimZ K e t td ∧ td ⟨fun S => Qd .non S.W, Qd, fun _ => False, fun _ => False, fun _ _ => False⟩ (S0 N ds e.W)
theorem BodyD.run {N : List Str} {qual : Str} {st : Stmt} {k : Nat} {Fs : FSpec} (hbody : BodyD P w K mg base N qual st k Fs) (f : Addr) (cdv : Value) (A : Around) (outer : List Env) (s : Shared) (H : Hp) (vs : List V) (Q : VK) (E : XK) (hr : Room k (A.deeper (PyProof.Rows.envOfC qual (defScope st) s.heap.objs.size f cdv))) (h : lift K Fs vs H Q E) :
    ∃ t, PSs (cxOf (L2.CX P w) P w K mg base N qual (defScope st) f cdv A outer s H E) (defBody st) t ∧ t { nx := fun _ H' => Q .non H', rt := Q } (start N vs) H := by
  obtain ⟨U, W, ds, Qd, Ed, r, dv, hF, kq, ke⟩ := h
  obtain ⟨t, td, hp, hs, ht⟩ := hbody f cdv A outer s H E ⟨U, W, H⟩ ds Qd Ed hr ⟨fun x S σ H' U' c d hw ru ex => ke x S.W c d H' U' hw ru.wo ru.fr ex⟩ hF
  refine ⟨t, hp, hs.run (start N vs) H (S0 N ds W) _ _ ⟨U, RU.start r dv⟩ ht ⟨fun S' σ' H' q ⟨U', x'⟩ => ?_, fun d S' σ' v H' q ⟨U', x'⟩ => ?_, fun _ _ _ q => q.elim, fun _ _ _ q => q.elim, fun _ _ _ _ _ q => q.elim⟩⟩
  · exact kq _ _ _ _ U' q x'.wo x'.fr .non
  · exact kq _ _ _ _ U' q x'.wo x'.fr (x'.tmp (.v v (.d d)) (by simp))
theorem lift_len {Fs : FSpec} {ps : List Str} (hl : ∀ ds W Q E, Fs ds W Q E → ds.length = ps.length) (vs : List V) (H : Hp) (Q : VK) (E : XK) (h : lift K Fs vs H Q E) : vs.length = ps.length := by
  obtain ⟨U, W, ds, Qd, Ed, r, dv, hF, _⟩ := h
  rw [dv.len]; exact hl _ _ _ _ hF
theorem Mz.okD {C : Addr} {m qual : Str} {st : Stmt} {ps N : List Str} {dvs : List V} {k : Nat} {Fs : FSpec} (F : Mz K C m qual st ps dvs) (S : FnScope N ps (defScope st)) (hl : ∀ ds W Q E, Fs ds W Q E → ds.length = ps.length) (hbody : BodyD P w K mg base N qual st k Fs) : Mx P w K mg base C m (k + 1) ps dvs (lift K Fs) := F.okX S (lift_len hl) hbody.run
theorem Kz.okD {C : Addr} {qual : Str} {st : Stmt} {ps N : List Str} {dvs : List V} {k : Nat} {Fs : FSpec} (F : Kz K C qual st ps dvs) (S : FnScope N ps (defScope st)) (hl : ∀ ds W Q E, Fs ds W Q E → ds.length = ps.length) (hbody : BodyD P w K mg base N qual st k Fs) : Kx P w K mg base C (k + 1) ps dvs (lift K Fs) := F.okX S (lift_len hl) hbody.run
theorem Pz.okD {C : Addr} {m qual : Str} {st : Stmt} {ps N : List Str} {k : Nat} {Fs : FSpec} (F : Pz K C m qual st ps) (S : FnScope N ps (defScope st)) (hl : ∀ ds W Q E, Fs ds W Q E → ds.length = ps.length) (hbody : BodyD P w K mg base N qual st k Fs) : Pp P w K mg base C m (k + 1) ps (lift K Fs) := F.okX S (lift_len hl) hbody.run
end
end Kn
set_option Elab.async false
set_option maxRecDepth 100000
set_option linter.all false
set_option autoImplicit false
namespace Kn
open PySem L2
section
variable {K : PySem.W.Frag} {e : Ent}
end
end Kn
set_option Elab.async false
set_option maxRecDepth 100000
set_option linter.all false
set_option autoImplicit false
namespace Kn
open PySem L2
section
variable {K : PySem.W.Frag} {e : Ent}
theorem DvF.app {Tp : Addr → Prop} {H : Hp} : ∀ {a b : List (Str × V)} {c d : List (Str × D)}, DvF K Tp H a c → DvF K Tp H b d → DvF K Tp H (a ++ b) (c ++ d)
  | _, _, _, _, .nil, h => h
  | _, _, _, _, .cons h t, g => .cons h (DvF.app t g)
def PSt.unset (S : PSt) (i : Nat) : PSt := ⟨S.ρ.set i none, S.W⟩
theorem RU.unset {σ : St} {H : Hp} {S : PSt} {T : List Tm} {U : Addr → Prop} (x : RU K e σ H S T U) (hT : NoOwn T) (i : Nat) : RU K e (σ.set i none) H (S.unset i) T U :=
  x.slots (by simp [x.len]) (fun j c hj => by
    rw [List.getElem?_set] at hj ⊢
    by_cases q : i = j
    · rw [if_pos q] at hj
      split at hj
      · cases hj
      · cases hj
    · rw [if_neg q] at hj ⊢
      exact ⟨hj, rfl⟩) hT
def DEnds.un (i : Nat) (E : DEnds) : DEnds := { E with nx := fun S => E.nx (S.unset i), bk := fun S => E.bk (S.unset i), ct := fun S => E.ct (S.unset i) }
def exB (K : PySem.W.Frag) (c : Value) (x : Exn) (Y N : Prop) : Prop := ∃ b, PySem.W.exmOne K (.ref x.cls) c = some b ∧ (b = true → Y) ∧ (b = false → N)
def tTryAs (K : PySem.W.Frag) (c : Value) (i : Nat) (tb : WX → TS) (ts : Addr → Value → Option Addr → TS) (Wout : WX) : TS := fun D σ H => tb (wAs K c i ts Wout D) D σ H
theorem tryAs_of {X : Cx} {st : Stmt} {c : Value} {i : Nat} {tb : WX → TS} {ts : Addr → Value → Option Addr → TS} {Wout : WX} (K : PySem.W.Frag) (h : PS X st (fun D σ H => tb (wAs X.K c i ts Wout D) D σ H)) (hK : X.K = K := by rfl) : PS X st (tTryAs K c i tb ts Wout) := by subst hK; exact h
def tdTryAs (K : PySem.W.Frag) (c : Value) (i : Nat) (tb : (Exn → PSt → Prop) → TDS) (ts : Addr → Value → Option Addr → TDS) (wo : Exn → PSt → Prop) : TDS := fun E S =>
  tb (fun x S' => exB K c x (∀ a d, ts a (.ref x.cls) d (E.un i) (S'.set i (.val (.exc a x.cls d x.fs)))) (wo x S')) E S
theorem ExOk.dv {U : Addr → Prop} {W : Wd} {H : Hp} {x : Exn} {c : Value} {d : Option Addr} (h : ExOk K U W H x c d) (a : Addr) : c = .ref x.cls ∧ Dv K W.Tp (Hd U H) (.ref a) (.exc a x.cls d x.fs) := by
  obtain ⟨h1, ⟨h2, h3⟩ | ⟨_, b, vs, rfl, nu, hb, t⟩⟩ := h
  · rw [h2, h3]; exact ⟨h1, .exc0 a x.cls⟩
  · exact ⟨h1, .exc1 (Hd.get hb nu) t⟩
def TagW {K : PySem.W.Frag} {e : Ent} {W : WX} {w : Exn → PSt → Prop} (_ : WLk K e W w) : WX := W
instance tagW {W : WX} {w : Exn → PSt → Prop} {h : WLk K e W w} : WLk K e (TagW h) w := h
instance simTryAs {c : Value} {i : Nat} {tb : WX → TS} {ts : Addr → Value → Option Addr → TS} {Wout : WX} {tb' : (Exn → PSt → Prop) → TDS} {ts' : Addr → Value → Option Addr → TDS} {wo : Exn → PSt → Prop}
    [h1 : ∀ (W : WX) (w : Exn → PSt → Prop) (h : WLk K e W w), SimZ K e (tb (TagW h)) (tb' w)] [h2 : ∀ a cls d, SimZ K e (ts a cls d) (ts' a cls d)] [h3 : WLk K e Wout wo] : SimZ K e (tTryAs K c i tb ts Wout) (tdTryAs K c i tb' ts' wo) := ⟨fun σ H S Ed E x h k => by
  have lk : WLk K e (wAs K c i ts Wout E) (fun x S' => exB K c x (∀ a d, ts' a (.ref x.cls) d (Ed.un i) (S'.set i (.val (.exc a x.cls d x.fs)))) (wo x S')) := ⟨fun x S σ H U cv d hw ru ex => by
    obtain ⟨b, hb, hy, hn⟩ := hw
    have ec := (ex.dv 0).1
    subst ec
    refine ⟨b, hb, fun z a ha => ?_, fun z => h3.run x S σ H U _ d (hn z) ru ex⟩
    refine (h2 a (.ref x.cls) d).run _ H _ (Ed.un i) _ ⟨U, ru.setVal (i := i) (ex.dv a).2 (fun p hp => by cases hp)⟩ (hy z a d) ⟨?_, ?_, ?_, ?_, ?_⟩
    · rintro S' σ' H' q ⟨U', x'⟩; exact k.nx _ _ _ q ⟨U', x'.unset noOwn0 i⟩
    · exact k.rt
    · rintro S' σ' H' q ⟨U', x'⟩; exact k.bk _ _ _ q ⟨U', x'.unset noOwn0 i⟩
    · rintro S' σ' H' q ⟨U', x'⟩; exact k.ct _ _ _ q ⟨U', x'.unset noOwn0 i⟩
    · exact k.rn⟩
  exact (h1 _ _ lk).run σ H S Ed E x h k⟩
def tTryN (K : PySem.W.Frag) (l : List (Value × (Addr → Value → Option Addr → TS))) (tb : WX → TS) (Wout : WX) : TS := fun D σ H => tb (wMany K Wout D l) D σ H
class SimCl (K : PySem.W.Frag) (e : Ent) (l : List (Value × (Addr → Value → Option Addr → TS))) (t : outParam (List (Value × (Addr → Value → Option Addr → TDS)))) : Prop where
  run : ∀ (Ed : DEnds) (E : Ends) (Wout : WX) (wo : Exn → PSt → Prop), Lnk K e [] Ed E → WLk K e Wout wo → WLk K e (wMany K Wout E l) (t.foldr (fun p w x S' => exB K p.1 x (∀ a d, p.2 a (.ref x.cls) d Ed S') (w x S')) wo)
instance simClCons {c : Value} {ts : Addr → Value → Option Addr → TS} {l : List (Value × (Addr → Value → Option Addr → TS))} {ts' : Addr → Value → Option Addr → TDS} {l' : List (Value × (Addr → Value → Option Addr → TDS))} [h1 : ∀ a cls d, SimZ K e (ts a cls d) (ts' a cls d)] [h2 : SimCl K e l l'] : SimCl K e ((c, ts) :: l) ((c, ts') :: l') := ⟨fun Ed E Wout wo k h => ⟨fun x S σ H U cv d hw ru ex => by
  obtain ⟨b, hb, hy, hn⟩ := hw
  have ec := (ex.dv 0).1
  subst ec
  exact ⟨b, hb, fun z a ha => (h1 a (.ref x.cls) d).run σ H S Ed E ⟨U, ru⟩ (hy z a d) k, fun z => (h2.run Ed E Wout wo k h).run x S σ H U _ d (hn z) ru ex⟩⟩⟩
def tdTryN (K : PySem.W.Frag) (l : List (Value × (Addr → Value → Option Addr → TDS))) (tb : (Exn → PSt → Prop) → TDS) (wo : Exn → PSt → Prop) : TDS := fun E S =>
  tb (l.foldr (fun p w x S' => exB K p.1 x (∀ a d, p.2 a (.ref x.cls) d E S') (w x S')) wo) E S
instance simTryN {l : List (Value × (Addr → Value → Option Addr → TS))} {tb : WX → TS} {Wout : WX} {tb' : (Exn → PSt → Prop) → TDS} {l' : List (Value × (Addr → Value → Option Addr → TDS))} {wo : Exn → PSt → Prop}
    [h1 : ∀ (W : WX) (w : Exn → PSt → Prop) (h : WLk K e W w), SimZ K e (tb (TagW h)) (tb' w)] [h2 : SimCl K e l l'] [h3 : WLk K e Wout wo] : SimZ K e (tTryN K l tb Wout) (tdTryN K l' tb' wo) := ⟨fun σ H S Ed E x h k => by
  have lk := h2.run Ed E Wout wo k h3
  exact (h1 _ _ lk).run σ H S Ed E x h k⟩
theorem z_seq {t u : TS} {t' u' : TDS} (h1 : SimZ K e t t') (h2 : SimZ K e u u') : SimZ K e (tSeq t u) (tdSeq t' u') := simZSeq
theorem z_if {c : TT} {t u : TS} {c' : TDT} {t' u' : TDS} (h0 : SimT K e c c') (h1 : SimZ K e t t') (h2 : SimZ K e u u') : SimZ K e (tIfS c t u) (tdIfS c' t' u') := simZIf
theorem z_while {c : TT} {tb : TS} {c' : TDT} {tb' : TDS} (h1 : SimT K e c c') (h2 : SimZ K e tb tb') : SimZ K e (tWhile c tb) (tdWhile c' tb') := simZWhile
theorem z_for {wi : TI} {g : TG} {tb : TS} {wi' : TDI} {g' : TDG} {tb' : TDS} (h1 : SimI0 K e wi wi') (h2 : SimG K e g g') (h3 : SimZ K e tb tb') : SimZ K e (tFor wi g tb) (tdFor wi' g' tb') := simZFor
theorem z_try {c : Value} {i : Nat} {tb : WX → TS} {ts : Addr → Value → Option Addr → TS} {Wout : WX} {tb' : (Exn → PSt → Prop) → TDS} {ts' : Addr → Value → Option Addr → TDS} {wo : Exn → PSt → Prop}
    (h1 : ∀ (W : WX) (w : Exn → PSt → Prop) (h : WLk K e W w), SimZ K e (tb (TagW h)) (tb' w)) (h2 : ∀ a cls d, SimZ K e (ts a cls d) (ts' a cls d)) (h3 : WLk K e Wout wo) : SimZ K e (tTryAs K c i tb ts Wout) (tdTryAs K c i tb' ts' wo) := simTryAs
theorem z_tryN {l : List (Value × (Addr → Value → Option Addr → TS))} {tb : WX → TS} {Wout : WX} {tb' : (Exn → PSt → Prop) → TDS} {l' : List (Value × (Addr → Value → Option Addr → TDS))} {wo : Exn → PSt → Prop}
    (h1 : ∀ (W : WX) (w : Exn → PSt → Prop) (h : WLk K e W w), SimZ K e (tb (TagW h)) (tb' w)) (h2 : SimCl K e l l') (h3 : WLk K e Wout wo) : SimZ K e (tTryN K l tb Wout) (tdTryN K l' tb' wo) := simTryN
theorem z_cl {c : Value} {ts : Addr → Value → Option Addr → TS} {l : List (Value × (Addr → Value → Option Addr → TS))} {ts' : Addr → Value → Option Addr → TDS} {l' : List (Value × (Addr → Value → Option Addr → TDS))} (h1 : ∀ a cls d, SimZ K e (ts a cls d) (ts' a cls d)) (h2 : SimCl K e l l') : SimCl K e ((c, ts) :: l) ((c, ts') :: l') := simClCons
theorem zBox {t : TS} {td : TDS} {Ed : DEnds} {S : PSt} (h : SimZ K e t td) (k : td Ed S) : ∃ td, SimZ K e t td ∧ td Ed S := ⟨td, h, k⟩
theorem zEx {X : Cx} {b : List Stmt} {t : TS} {Ed : DEnds} {S : PSt} (hp : PSs X b t) (h : ∃ td, SimZ K e t td ∧ td Ed S) : ∃ t td, PSs X b t ∧ SimZ K e t td ∧ td Ed S := let ⟨td, a, c⟩ := h; ⟨t, td, hp, a, c⟩
def excF (a : Addr) (cls : Value) (d : Option Addr) (F : Addr → List (Str × D) → Prop) : Rv → Prop
  | .d (.exc a' C d' fs) => a' = a ∧ d' = d ∧ cls = .ref C ∧ F C fs
  | _ => False
theorem excF_inv {a : Addr} {cls : Value} {d : Option Addr} {F : Addr → List (Str × D) → Prop} {r : Rv} (h : excF a cls d F r) : ∃ C fs, r = .d (.exc a C d fs) ∧ cls = .ref C ∧ F C fs := by
  cases r with
  | own j => exact h.elim
  | d z =>
    cases z with
    | exc a' C d' fs => obtain ⟨rfl, rfl, h1, h2⟩ := h; exact ⟨C, fs, rfl, h1, h2⟩
    | _ => exact h.elim
def clsV (F : Value → Prop) : Rv → Prop
  | .d (.ref A) => F (.ref A)
  | .d (.ty n) => F (.type n)
  | _ => False
def isYD (K : PySem.W.Frag) (cls : Value) (d : Option Addr) (a : Addr) (S : PSt) (rs : List Rv) (Q : D → PSt → Prop) : Prop := arg2 rs fun r q => excF a cls d (fun C fs => clsV (fun cv => ExcC K C ∧ ∃ b, PySem.W.kitOne K (.ref C) cv = some b ∧ Q (.bl b) S) q) r
instance simIsY {cls : Value} {d : Option Addr} {a : Addr} : SimC K e (rIsY K cls d a) (isYD K cls d a) := ⟨fun σ H S T vs rs Qd Q hl x h k => by
  obtain ⟨r, q, e0, h0⟩ := arg2_inv h
  subst e0
  obtain ⟨v, u, rfl⟩ := len2 hl
  obtain ⟨C, fs, e1, e2, h2⟩ := excF_inv h0
  subst e1 e2
  obtain ⟨U, x⟩ := x
  have d1 : Dv K S.W.Tp (Hd U H) v (.exc a C d fs) := x.tmp (.v v (.d (.exc a C d fs))) (by simp [tms])
  have xT := x.less (T' := T) fun p hp => by simp [tms]; exact .inr (.inr hp)
  have hd : d = none ∨ ∃ dd fs, d = some dd ∧ H dd = some (.xd fs) := by
    cases d1 with
    | exc0 _ _ => exact .inl rfl
    | exc1 hb tb => exact .inr ⟨_, _, rfl, Hd.sub _ _ hb⟩
  have ev : v = .ref a := by cases d1 <;> rfl
  subst ev
  match q, h2, x with
  | .d (.ref A), ⟨he, b, hb, hq⟩, x =>
    have d2 : Dv K S.W.Tp (Hd U H) u (.ref A) := x.tmp (.v u (.d (.ref A))) (by simp [tms])
    cases d2
    exact ⟨C, _, _, b, rfl, hd, he, rfl, fun w hw => hw, hb, k _ _ _ _ hq ⟨U, xT.push (.bl b)⟩⟩
  | .d (.ty n), ⟨he, b, hb, hq⟩, x =>
    have d2 : Dv K S.W.Tp (Hd U H) u (.ty n) := x.tmp (.v u (.d (.ty n))) (by simp [tms])
    cases d2
    exact ⟨C, _, _, b, rfl, hd, he, rfl, fun w hw => hw, hb, k _ _ _ _ hq ⟨U, xT.push (.bl b)⟩⟩⟩
end
end Kn
set_option Elab.async false
set_option maxRecDepth 100000
set_option linter.all false
set_option autoImplicit false
namespace Kn
open PySem L2
section
variable {K : PySem.W.Frag} {e : Ent}
def strsD : List D → Option (List Str)
  | [] => some []
  | .str x :: ds => (strsD ds).map (x :: ·)
  | _ => none
theorem strsD_inv {Tp : Addr → Prop} {H : Hp} : ∀ {vs : List V} {ds : List D} {ys : List Str}, DvL K Tp H vs ds → strsD ds = some ys → vs = ys.map V.str
  | _, _, _, .nil, h => by cases h; rfl
  | _, d :: ds, ys, .cons hv t, h => by
    cases d with
    | str x =>
      cases hv
      rw [strsD, Option.map_eq_some_iff] at h
      obtain ⟨zs, h1, rfl⟩ := h
      rw [strsD_inv t h1]; rfl
    | _ => cases h
theorem strsD_map : ∀ ys : List Str, strsD (ys.map D.str) = some ys
  | [] => rfl
  | y :: ys => by rw [List.map_cons, strsD, strsD_map ys]; rfl
theorem strsD_mapF {α : Type} (f : α → Str) (xs : List α) : strsD (xs.map fun x => D.str (f x)) = some (xs.map f) := by
  have := strsD_map (xs.map f)
  rwa [List.map_map] at this
def asS : Rv → (Str → Prop) → Prop
  | .d (.str x), F => F x
  | _, _ => False
theorem asS_inv {r : Rv} {F : Str → Prop} (h : asS r F) : ∃ x, r = .d (.str x) ∧ F x := by
  cases r with
  | own j => exact h.elim
  | d z => cases z with
    | str x => exact ⟨x, rfl, h⟩
    | _ => exact h.elim
def joinF (a : Str) (Q : Str → Prop) : D → Prop
  | .lst ds => opt (strsD ds) fun ys => (ys.map (·.length)).sum + ys.length * a.length ≤ 16777216 ∧ Q (Txt.join a ys)
  | .tup ds => opt (strsD ds) fun ys => (ys.map (·.length)).sum + ys.length * a.length ≤ 16777216 ∧ Q (Txt.join a ys)
  | _ => False
def tdJoin (to : TDE) (t : TDA) : TDE := fun S Q => to S fun rx S1 => asS rx fun a => t S1 fun rs S2 => arg1 rs fun r => dd1 S2 r (joinF a fun y => Q (.d (.str y)) S2)
theorem R.strV {σ : St} {H : Hp} {S : PSt} {T : List Tm} {v : V} {x : Str} (h : R K e σ H S (.v v (.d (.str x)) :: T)) : v = .str x := by
  obtain ⟨U, h⟩ := h
  have : Dv K S.W.Tp (Hd U H) v (.str x) := h.tmp (.v v (.d (.str x))) (by simp)
  cases this; rfl
instance simJoin {to : TE} {t : TA} {to' : TDE} {t' : TDA} [h1 : SimE K e to to'] [h2 : SimA K e t t'] : SimE K e (tBM K "str" (rJoin K) to t) (tdJoin to' t') := ⟨fun σ H S T Qd Q x h k => by
  refine h1.run σ H S T _ _ x h fun rx S1 v H1 hr x1 => ?_
  obtain ⟨a, rfl, hr⟩ := asS_inv hr
  obtain rfl := x1.strV
  refine ⟨rfl, h2.run σ H1 S1 _ _ _ x1 hr fun rs S2 vs H2 hr hl x2 => ?_⟩
  obtain ⟨r, rfl, hr⟩ := arg1_inv hr
  obtain ⟨y, rfl⟩ := len1 hl
  obtain ⟨d, hd, hr⟩ := dd1_inv hr
  obtain ⟨U, wT, vw, _⟩ := R.one x2 hd
  have wT := wT.less (T' := T) fun p hp => List.mem_cons_of_mem _ hp
  match d, hr, vw with
  | .lst ds, hr, ⟨p, xs, e1, g1, g2⟩ =>
    obtain ⟨ys, hy, hz, hq⟩ := opt_inv hr
    subst e1
    rw [strsD_inv g2 hy] at g1
    exact ⟨a, p, ys, rfl, rfl, .inl (SqL.of g1), hz, k _ _ _ _ hq ⟨U, wT.push (.str _)⟩⟩
  | .tup ds, hr, ⟨p, xs, e1, g1, g2⟩ =>
    obtain ⟨ys, hy, hz, hq⟩ := opt_inv hr
    subst e1
    rw [strsD_inv g2 hy] at g1
    exact ⟨a, p, ys, rfl, rfl, .inr (SqT.same Hd.sub g1), hz, k _ _ _ _ hq ⟨U, wT.push (.str _)⟩⟩⟩
def rSplit : V → List V → Hp → VK → Prop := fun x xs H Q => ∃ a b, x = .str a ∧ xs = [.str b] ∧ (b.length == 0) = false ∧ a.length + 2 ≤ sizeLine ∧ rNewStrs (Txt.split a b) H Q
theorem mt_splitU {X : Cx} : MtR X "str.split" rSplit := mt_split
def tnSplit (to : TDE) (t : TDA) : TDN := fun S Q => to S fun rx S1 => asS rx fun a => t S1 fun rs S2 => arg1 rs fun r => asS r fun b => (b.length == 0) = false ∧ a.length ≤ 1000000 ∧ Q ((Txt.split a b).map D.str) S2
instance simSplit {to : TE} {t : TA} {to' : TDE} {t' : TDA} [h1 : SimE K e to to'] [h2 : SimA K e t t'] : SimN K e (tBM K "str" rSplit to t) (tnSplit to' t') := ⟨fun σ H S T Qd Q x h k => by
  refine h1.run σ H S T _ _ x h fun rx S1 v H1 hr x1 => ?_
  obtain ⟨a, rfl, hr⟩ := asS_inv hr
  obtain rfl := x1.strV
  refine ⟨rfl, h2.run σ H1 S1 _ _ _ x1 hr fun rs S2 vs H2 hr hl x2 => ?_⟩
  obtain ⟨r, rfl, hr⟩ := arg1_inv hr
  obtain ⟨y, rfl⟩ := len1 hl
  obtain ⟨b, rfl, h1, h2, hq⟩ := asS_inv hr
  obtain rfl := R.strV (T := .v (.str a) (.d (.str a)) :: T) x2
  obtain ⟨U, x2⟩ := x2
  have wT := x2.less (T' := T) fun p hp => by simp [tms]; exact .inr (.inr hp)
  refine ⟨a, b, rfl, rfl, h1, by rw [sizeLine_eq]; omega, fun p hp => k _ _ _ _ hq (wT.newL hp (DvL.strs _))⟩⟩
def rPart : V → List V → Hp → VK → Prop := fun x xs H Q => ∃ a b, x = .str a ∧ xs = [.str b] ∧ (b.length == 0) = false ∧ a.length ≤ sizeLine ∧ ∀ p, H p = none → Q (.ref p) (upd H p (.tup [.str (Txt.partition a b).1, .str (Txt.partition a b).2.1, .str (Txt.partition a b).2.2]))
theorem mt_partU {X : Cx} : MtR X "str.partition" rPart := mt_partition
def tdPartn (to : TDE) (t : TDA) : TDE := fun S Q => to S fun rx S1 => asS rx fun a => t S1 fun rs S2 => arg1 rs fun r => asS r fun b => (b.length == 0) = false ∧ a.length ≤ 1000000 ∧ Q (.d (.tup [.str (Txt.partition a b).1, .str (Txt.partition a b).2.1, .str (Txt.partition a b).2.2])) S2
instance simPartn {to : TE} {t : TA} {to' : TDE} {t' : TDA} [h1 : SimE K e to to'] [h2 : SimA K e t t'] : SimE K e (tBM K "str" rPart to t) (tdPartn to' t') := ⟨fun σ H S T Qd Q x h k => by
  refine h1.run σ H S T _ _ x h fun rx S1 v H1 hr x1 => ?_
  obtain ⟨a, rfl, hr⟩ := asS_inv hr
  obtain rfl := x1.strV
  refine ⟨rfl, h2.run σ H1 S1 _ _ _ x1 hr fun rs S2 vs H2 hr hl x2 => ?_⟩
  obtain ⟨r, rfl, hr⟩ := arg1_inv hr
  obtain ⟨y, rfl⟩ := len1 hl
  obtain ⟨b, rfl, h1, h2, hq⟩ := asS_inv hr
  obtain rfl := R.strV (T := .v (.str a) (.d (.str a)) :: T) x2
  obtain ⟨U, x2⟩ := x2
  have wT := x2.less (T' := T) fun p hp => by simp [tms]; exact .inr (.inr hp)
  refine ⟨a, b, rfl, rfl, h1, by rw [sizeLine_eq]; omega, fun p hp => k _ _ _ _ hq ⟨U, (wT.alloc hp).push (.tup (.inl (.inl (Hd.get upd_same (wT.fresh hp)))) (.cons (.str _) (.cons (.str _) (.cons (.str _) .nil))))⟩⟩⟩
def fmtF (Q : Str → Prop) : D → Prop
  | .str y => y.length ≤ 1000000 ∧ Q y
  | .int i => i.natAbs < 2 ^ 1000 ∧ Q (toString i)
  | _ => False
def tdFmt (te : TDE) : TDE := fun S Q => te S fun r S1 => dd1 S1 r (fmtF fun y => Q (.d (.str y)) S1)
instance simFmt {te : TE} {t : TDE} [h1 : SimE K e te t] : SimE K e (tFmt te) (tdFmt t) := ⟨fun σ H S T Qd Q x h k => by
  refine h1.run σ H S T _ _ x h fun r S1 v H1 hr x1 => ?_
  obtain ⟨d, hd, hr⟩ := dd1_inv hr
  obtain ⟨U, wT, vw, _⟩ := R.one (T := T) x1 hd
  match d, hr, vw with
  | .str y, hr, vw => rw [vw.str]; exact .inl ⟨y, rfl, big_of hr.1, k _ _ _ _ hr.2 ⟨U, wT.push (.str _)⟩⟩
  | .int i, hr, vw =>
    rw [vw.int]
    refine .inr ⟨i, rfl, ?_, k _ _ _ _ hr.2 ⟨U, wT.push (.str _)⟩⟩
    by_cases c : i.natAbs = 0
    · rw [c]; decide
    · exact Nat.lt_trans ((Nat.log2_lt c).mpr hr.1) (by decide)⟩
class SimJ (K : PySem.W.Frag) (e : Ent) (ts : List TE) (t : outParam (List TDE)) : Prop where
  run : ∀ (acc : Str) (σ : St) (H : Hp) (S : PSt) (T : List Tm) (Qd : Str → PSt → Prop) (Q : Str → Hp → Prop), R K e σ H S T → (t.foldr (fun te k (acc : Str) S => te S fun r S1 => asS r fun y => (acc ++ y).length ≤ 1000000 ∧ k (acc ++ y) S1) Qd) acc S → (∀ o S' H', Qd o S' → R K e σ H' S' T → Q o H') → tJs ts acc σ H Q
instance simJNil : SimJ K e [] [] := ⟨fun acc σ H S T Qd Q x h k => k _ _ _ h x⟩
instance simJCons {te : TE} {ts : List TE} {te' : TDE} {ts' : List TDE} [h1 : SimE K e te te'] [h2 : SimJ K e ts ts'] : SimJ K e (te :: ts) (te' :: ts') := ⟨fun acc σ H S T Qd Q x h k => by
  refine h1.run σ H S T _ _ x h fun r S1 v H1 hr x1 => ?_
  obtain ⟨y, rfl, hl, hr⟩ := asS_inv hr
  obtain rfl := x1.strV
  exact ⟨y, rfl, big_of hl, h2.run _ σ H1 S1 T _ _ x1.pop hr k⟩⟩
def tdJoined (ts : List TDE) : TDE := fun S Q => (ts.foldr (fun te k (acc : Str) S => te S fun r S1 => asS r fun y => (acc ++ y).length ≤ 1000000 ∧ k (acc ++ y) S1) (fun o S1 => Q (.d (.str o)) S1)) Str.empty S
instance simJoined {ts : List TE} {ts' : List TDE} [h1 : SimJ K e ts ts'] : SimE K e (tJoined ts) (tdJoined ts') := ⟨fun σ H S T Qd Q x h k =>
  h1.run _ σ H S T (fun o S1 => Qd (.d (.str o)) S1) _ x h fun o S' H' q ⟨U, x'⟩ => k _ _ _ _ q ⟨U, x'.push (.str o)⟩⟩
theorem comp_seq {g : TDG} {tt : TDT} {te : TDE} {vs : List Nat} {Q : List D → PSt → Prop} {S : PSt} {α : Type} (h f : α → D) (R : α → Prop) : ∀ (xs : List α) (acc : List D), acc.length + xs.length ≤ 1000000 →
    (∀ (pre : List α) (x : α) (post : List α), xs = pre ++ x :: post → (∀ y ∈ pre, R y) → ∀ (N : D → PSt → Prop) (M : PSt → Prop), (R x → N (f x) S) → turnD g tt te vs (h x) S N M) → ((∀ x ∈ xs, R x) → Q (acc ++ xs.map f) S) → compD g tt te vs Q (xs.map h) acc S
  | [], acc, _, _, q => by simpa [compD] using q (fun x hx => by cases hx)
  | x :: xs, acc, hl, hs, q => by
    refine ⟨fun a S' => S' = S ∧ R x ∧ a = acc ++ [f x], ?_, hs [] x xs rfl (fun y hy => by cases hy) (fun y S' => acc.length ≤ 999999 ∧ S' = S ∧ R x ∧ acc ++ [y] = acc ++ [f x]) (fun S' => S' = S ∧ R x ∧ acc = acc ++ [f x]) fun hR => ⟨by simp at hl; omega, rfl, hR, rfl⟩⟩
    rintro a S' ⟨rfl, hR, rfl⟩
    refine comp_seq h f R xs _ (by simp at hl ⊢; omega) (fun pre y post e hp => hs (x :: pre) y post (by rw [e]; rfl) fun z hz => (List.mem_cons.mp hz).elim (fun e => e ▸ hR) (hp z)) fun hA => ?_
    have := q fun z hz => (List.mem_cons.mp hz).elim (fun e => e ▸ hR) (hA z)
    simpa using this
end
end Kn
set_option Elab.async false
set_option maxRecDepth 100000
set_option linter.all false
set_option autoImplicit false
namespace Kn
open PySem L2
section
variable {K : PySem.W.Frag} {e : Ent}
end
end Kn
set_option Elab.async false
set_option maxRecDepth 100000
set_option linter.all false
set_option autoImplicit false
namespace Kn
open PySem L2
section
variable {K : PySem.W.Frag} {e : Ent}
end
theorem put_ne {W : Wd} {a b : Addr} {c : Cell} (h : (W.put a c).ω b = none) : b ≠ a := fun z => by
  subst z
  rw [Wd.put_same] at h; cases h
end Kn
set_option Elab.async false
set_option maxRecDepth 100000
set_option linter.all false
set_option autoImplicit false
namespace Kn
open PySem L2
section
variable {K : PySem.W.Frag} {e : Ent}
def tdNeg (t : TDE) : TDE := fun S Q => t S fun r S1 => asI r fun i => Q (.d (.int (-i))) S1
instance simNeg {te : TE} {t : TDE} [h : SimE K e te t] : SimE K e (tUn (rU fun i => .int (-i)) te) (tdNeg t) := ⟨fun σ H S T Qd Q x ht k => by
  refine h.run σ H S T _ _ x ht fun r S1 v H1 h1 x1 => ?_
  match r, h1, x1 with
  | .d (.int b), h1, ⟨U, x1⟩ =>
    have hv : Dv K S1.W.Tp (Hd U H1) v (.int b) := x1.tmp (.v v (.d (.int b))) (by simp)
    cases hv
    have xT := x1.less (T' := T) fun p hp => List.mem_cons_of_mem _ hp
    exact ⟨b, rfl, k _ _ _ _ h1 ⟨U, xT.push (.int (-b))⟩⟩⟩
end
section
variable {P : Program} {w : World} {K : PySem.W.Frag} {mg : Str → Option Value} {base : Heap}
end
end Kn
set_option Elab.async false
set_option maxRecDepth 100000
set_option linter.all false
set_option autoImplicit false
namespace Kn
open PySem L2
section
variable {K : PySem.W.Frag} {e : Ent} {σ : St} {H : Hp} {S : PSt} {T : List Tm} {U : Addr → Prop}
def dctC (Q : List (Key × D) → Prop) : Option Cell → Prop
  | some (.dct ks) => Q ks
  | _ => False
end
end Kn
set_option Elab.async false
set_option maxRecDepth 100000
set_option linter.all false
set_option autoImplicit false
namespace Kn
open PySem L2
section
variable {K : PySem.W.Frag} {e : Ent}
def popI (ds : List D) (i : Int) : Option (Nat × D) := (ixN ds.length i).bind fun j => ds[j]?.map fun y => (j, y)
theorem popI_inv {ds : List D} {i : Int} {p : Nat × D} (h : popI ds i = some p) : ixN ds.length i = some p.1 ∧ ds[p.1]? = some p.2 := by
  obtain ⟨j, h1, h2⟩ := Option.bind_eq_some_iff.mp h
  obtain ⟨y, h3, rfl⟩ := Option.map_eq_some_iff.mp h2
  exact ⟨h1, h3⟩
theorem popI_at {ds : List D} {i : Int} {j : Nat} {y : D} (e : i = (j : Int)) (h : ds[j]? = some y) : popI ds i = some (j, y) := by
  have hj : j < ds.length := (List.getElem?_eq_some_iff.mp h).1
  unfold popI
  have : ixN ds.length i = some j := by
    subst e
    unfold ixN
    rw [if_pos (by omega)]
    simp [hj]
  rw [this]
  simp [h]
def popF (i : Int) (G : List D → Nat → D → Prop) : D → Prop
  | .lst ds => (-(2 ^ 63) ≤ i ∧ i < 2 ^ 63) ∧ opt (popI ds i) fun p => G ds p.1 p.2
  | _ => False
theorem popF_inv {i : Int} {G : List D → Nat → D → Prop} {d : D} (h : popF i G d) : ∃ ds, d = .lst ds ∧ (-(2 ^ 63) ≤ i ∧ i < 2 ^ 63) ∧ opt (popI ds i) fun p => G ds p.1 p.2 := by
  cases d with
  | lst ds => exact ⟨ds, rfl, h⟩
  | _ => exact h.elim
theorem asI_inv {r : Rv} {F : Int → Prop} (h : asI r F) : ∃ i, r = .d (.int i) ∧ F i := by
  cases r with
  | own j => exact h.elim
  | d d =>
    cases d with
    | int i => exact ⟨i, rfl, h⟩
    | _ => exact h.elim
theorem RU.mutU {σ : St} {H : Hp} {S : PSt} {T : List Tm} {U : Addr → Prop} {v : V} {r : Rv} {F : List D → (List D → Prop) → Prop} {Q : List D → PSt → Prop} (x : RU K e σ H S (.v v r :: T) U) (h : Kn.mutL S r F Q) {l : Addr} (e1 : v = .ref l) : U l := by
  match r, x, h with
  | .own j, x, h =>
    have hs : σ[j]? = some (some v) := x.tmp (.v v (.own j)) (by simp)
    have h : mutO S j F Q S.ρ[j]? := h
    match q : S.ρ[j]?, h with
    | some (some (.ownL ds)), h =>
      obtain ⟨l', vs, e2, ow, _⟩ := x.ownL q
      rw [hs, e1] at e2; cases e2
      exact ow.u
  | .d (.ref a), x, h =>
    have hv : Dv K S.W.Tp (Hd U H) v (.ref a) := x.tmp (.v v (.d (.ref a))) (by simp)
    cases hv
    injection e1 with e1
    subst e1
    have h : mutC S a F Q (S.W.ω a) := h
    cases q : S.W.ω a with
    | none => rw [q] at h; exact h.elim
    | some c => exact (x.wo.cell a c q).1
theorem DvL.erase {Tp : Addr → Prop} {H : Hp} : ∀ (n : Nat) {vs : List V} {ds : List D}, DvL K Tp H vs ds → DvL K Tp H (vs.eraseIdx n) (ds.eraseIdx n)
  | _, _, _, .nil => .nil
  | 0, _, _, .cons _ a => a
  | n + 1, _, _, .cons h a => .cons h (DvL.erase n a)
def tdPopAt (to : TDE) (t : TDA) : TDE := fun S Q => to S fun rx S1 => (∃ ds, derefD S1 rx = some (.lst ds)) ∧ t S1 fun rs S2 => arg1 rs fun r => asI r fun i => dd1 S2 rx (popF i fun ds j y => mutL S2 rx (fun ds' k => ds' = ds ∧ k (ds.eraseIdx j)) fun _ S3 => Q (.d y) S3)
instance simPopAt {to : TE} {t : TA} {to' : TDE} {t' : TDA} [h1 : SimE K e to to'] [h2 : SimA K e t t'] : SimE K e (tBM K "list" rPopAt to t) (tdPopAt to' t') := ⟨fun σ H S T Qd Q x h k => by
  refine h1.run σ H S T _ _ x h fun rx S1 v H1 hr x1 => ?_
  obtain ⟨⟨ds0, hd0⟩, hr⟩ := hr
  refine ⟨tyV_list x1 hd0, h2.run σ H1 S1 _ _ _ x1 hr fun rs S2 vs H2 hr hl x2 => ?_⟩
  obtain ⟨r, rfl, hr⟩ := arg1_inv hr
  obtain ⟨y, rfl⟩ := len1 hl
  obtain ⟨i, rfl, hr⟩ := asI_inv hr
  obtain ⟨d, hd, hr⟩ := dd1_inv hr
  obtain ⟨ds, rfl, hb, hr⟩ := popF_inv hr
  obtain ⟨⟨j, yd⟩, hj, hr⟩ := opt_inv hr
  obtain ⟨a1, a2⟩ := popI_inv hj
  have ey : y = .int i := by
    obtain ⟨U, x2⟩ := x2
    have := x2.tmp (.v y (.d (.int i))) (by simp [tms])
    have this : Dv K S2.W.Tp (Hd U H2) y (.int i) := this
    cases this; rfl
  subst ey
  have x3 : R K e σ H2 S2 (.v v rx :: T) := x2.less fun p hp => by simp [tms]; exact .inr (by simpa using hp)
  refine x3.mutL hr fun l xs ds' U Qs e1 e2 e3 x4 hq kk => ?_
  obtain ⟨rfl, hq⟩ := hq
  obtain ⟨yv, h5, h6⟩ := e3.get a2
  obtain ⟨S4, q4, x5, etp⟩ := kk (xs.eraseIdx j) _ hq (e3.erase j)
  have u : U l := x4.mutU hr e1
  have h7 : Dv K S4.W.Tp (Hd U (upd H2 l (.lst (xs.eraseIdx j)))) yv yd := by
    rw [etp]
    exact Dv.le (Same.lq (Hd.upd u)) (fun _ z => z) h6
  exact ⟨l, xs, i, j, yv, e1, rfl, e2, hb.1, hb.2, by rw [e3.len]; exact (ixN_seq a1).1, h5, k _ _ _ _ q4 ⟨U, x5.push h7⟩⟩⟩
abbrev TRg := St → Hp → (Int → Int → Hp → Prop) → Prop
abbrev TDRg := PSt → (Int → Int → PSt → Prop) → Prop
class SimRg (K : PySem.W.Frag) (e : Ent) (te : TRg) (t : outParam TDRg) : Prop where
  run : ∀ (σ : St) (H : Hp) (S : PSt) (T : List Tm) (Qd : Int → Int → PSt → Prop) (Q : Int → Int → Hp → Prop), R K e σ H S T → t S Qd → (∀ a b S' H', Qd a b S' → R K e σ H' S' T → Q a b H') → te σ H Q
def tdRg1 (ta : TDE) : TDRg := fun S Q => ta S fun r S1 => asI r fun n => Q 0 n S1
instance simRg1 {ta : TE} {ta' : TDE} [h1 : SimE K e ta ta'] : SimRg K e (tRg1 ta) (tdRg1 ta') := ⟨fun σ H S T Qd Q x h k => by
  refine h1.run σ H S T _ _ x h fun r S1 v H1 hr x1 => ?_
  obtain ⟨n, rfl, hr⟩ := asI_inv hr
  obtain ⟨U, wT, vw, _⟩ := R.one (T := T) (a := .int n) x1 rfl
  exact ⟨n, vw.int, k _ _ _ _ hr ⟨U, wT⟩⟩⟩
theorem rgV_dv {Tp : Addr → Prop} {H : Hp} (a b : Int) : DvL K Tp H (rgV a b) (rng a (b - a).toNat) := by
  have : ∀ l : List Nat, DvL K Tp H (l.map fun i => V.int (a + (i : Nat))) (l.map fun (i : Nat) => D.int (a + (i : Int))) := fun l => by
    induction l with
    | nil => exact .nil
    | cons i l ih => exact .cons (.int _) ih
  exact this _
def tdTupRg (t : TDRg) : TDE := fun S Q => t S fun a b S1 => (0 ≤ a ∧ a ≤ 1000000 ∧ 0 ≤ b ∧ b ≤ 1000000) ∧ Q (.d (.tup (rng a (b - a).toNat))) S1
instance simTupRg {te : TRg} {t : TDRg} [h1 : SimRg K e te t] : SimE K e (tTupRg te) (tdTupRg t) := ⟨fun σ H S T Qd Q x h k => by
  refine h1.run σ H S T _ _ x h fun a b S1 H1 hr x1 => ?_
  obtain ⟨⟨a1, a2, a3, a4⟩, hr⟩ := hr
  obtain ⟨U, x1⟩ := x1
  exact ⟨RgOk.of_le a1 (by omega) (by omega) a3, fun q hq => k _ _ _ _ hr (x1.newT hq (rgV_dv a b))⟩⟩
end
end Kn
set_option Elab.async false
set_option maxRecDepth 100000
set_option linter.all false
set_option autoImplicit false
namespace Kn
open PySem L2
section
variable {K : PySem.W.Frag} {e : Ent}
end
end Kn
set_option Elab.async false
set_option maxRecDepth 100000
set_option linter.all false
set_option autoImplicit false
namespace Kn
open PySem L2
section
variable {K : PySem.W.Frag} {e : Ent}
theorem DvL.set {Tp : Addr → Prop} {H : Hp} {v : V} {d : D} (g : Dv K Tp H v d) : ∀ (n : Nat) {vs : List V} {ds : List D}, DvL K Tp H vs ds → DvL K Tp H (vs.set n v) (ds.set n d)
  | _, _, _, .nil => .nil
  | 0, _, _, .cons _ a => .cons g a
  | n + 1, _, _, .cons h a => .cons h (DvL.set g n a)
end
end Kn
set_option Elab.async false
set_option maxRecDepth 100000
set_option linter.all false
set_option autoImplicit false
namespace Kn
open PySem L2
section
variable {K : PySem.W.Frag} {e : Ent}
end
theorem MzK.okD {P : Program} {w : World} {K : PySem.W.Frag} {mg : Str → Option Value} {base : Heap} {C : Addr} {m qual : Str} {st : Stmt} {ps N : List Str} {n : Nat} {ks : List Str} {k : Nat} {Fs : FSpec} (F : MzK K C m qual st ps n ks) (S : FnScope N ps (defScope st)) (hl : ∀ ds W Q E, Fs ds W Q E → ds.length = ps.length) (hbody : BodyD P w K mg base N qual st k Fs) : MxK P w K mg base C m (k + 1) ps n ks (lift K Fs) := F.okX S (lift_len hl) hbody.run
end Kn
set_option Elab.async false
set_option maxRecDepth 100000
set_option linter.all false
set_option autoImplicit false
namespace Kn
open PySem L2
section
variable {K : PySem.W.Frag} {e : Ent}
end
end Kn
set_option Elab.async false
set_option maxRecDepth 100000
set_option linter.all false
set_option autoImplicit false
namespace Kn
open PySem L2
section
variable {K : PySem.W.Frag} {e : Ent}
theorem RN.ofNw {σ σ' : St} {H : Hp} {S : PSt} {TA TB : List Tm} {l : Addr} {acc : List D} {vs : List Nat} (hT : NoOwn (TA ++ TB)) (nt : NoTm (TA ++ TB) l) (e2 : L2.wipe σ vs = σ') (x : R K e σ H S (TA ++ (.nw l acc :: TB))) : RN K e σ' H (S.wipe vs) (TA ++ TB) l acc := by
  obtain ⟨U2, x2⟩ := x
  have hTn : NoOwn (TA ++ (.nw l acc :: TB)) := fun p hp w j z => by
    rcases List.mem_append.mp hp with hp | hp
    · exact hT p (List.mem_append_left _ hp) w j z
    · rcases List.mem_cons.mp hp with rfl | hp
      · cases z
      · exact hT p (List.mem_append_right _ hp) w j z
  have x3 := x2.wipe vs hTn
  rw [e2] at x3
  obtain ⟨o3, n3, v3, h3, d3⟩ := x3.tmp (.nw l acc) (by simp)
  exact ⟨U2, v3, x3.less fun p hp => by
    rcases List.mem_append.mp hp with hp | hp
    · exact List.mem_append_left _ hp
    · exact List.mem_append_right _ (List.mem_cons_of_mem _ hp), o3, n3, nt, h3, d3⟩
theorem RN.nw {σ : St} {H : Hp} {S : PSt} {TA TB : List Tm} {l : Addr} {acc : List D} (x : RN K e σ H S (TA ++ TB) l acc) : R K e σ H S (TA ++ (.nw l acc :: TB)) := by
  obtain ⟨U, xs, xu, ow, ns, _, hlm, hxs⟩ := x.ex
  exact ⟨U, (xu.push (p := .nw l acc) ⟨ow, ns, xs, hlm, hxs⟩).less fun p hp => by
    rcases List.mem_append.mp hp with hp | hp
    · exact List.mem_cons_of_mem _ (List.mem_append_left _ hp)
    · rcases List.mem_cons.mp hp with rfl | hp
      · exact List.mem_cons_self
      · exact List.mem_cons_of_mem _ (List.mem_append_right _ hp)⟩
theorem RN.more {σ σ' : St} {H : Hp} {S : PSt} {TA TB : List Tm} {l : Addr} {acc : List D} {vs : List Nat} {y : V} {d : D} (hT : NoOwn (TA ++ TB)) (nt : NoTm (TA ++ TB) l) (e2 : L2.wipe σ vs = σ') (x : R K e σ H S (.v y (.d d) :: (TA ++ (.nw l acc :: TB)))) :
    ∃ xs, H l = some (.lst xs) ∧ xs.length = acc.length ∧ RN K e σ' (L2.upd H l (.lst (xs ++ [y]))) (S.wipe vs) (TA ++ TB) l (acc ++ [d]) := by
  have rn : RN K e σ' H (S.wipe vs) (.v y (.d d) :: (TA ++ TB)) l acc := by
    have := RN.ofNw (TA := .v y (.d d) :: TA) (TB := TB) (fun p hp w j z => by
      rcases List.mem_cons.mp hp with rfl | hp
      · cases z
      · exact hT p hp w j z) (fun ds hm => by
      rcases List.mem_cons.mp hm with z | z
      · cases z
      · exact nt ds z) e2 x
    exact this
  exact rn.app
end
end Kn
set_option Elab.async false
set_option maxRecDepth 100000
set_option linter.all false
set_option autoImplicit false
namespace Kn
open PySem L2
theorem Mz.none {P : Program} {w : World} {K : PySem.W.Frag} {mg : Str → Option Value} {base : Heap} {C : Addr} {m qual : Str} {st : Stmt} {ps : List Str} {dvs : List V} {k : Nat} {sp : Sp} (F : Mz K C m qual st ps dvs) (h : ∀ vs H Q E, ¬ sp vs H Q E) : Mx P w K mg base C m k ps dvs sp := by
  obtain ⟨f, fd, ds, F1, mm, b, v⟩ := F.ex
  exact ⟨f, fd, ds, ⟨fun vs H Q E z => (h vs H Q E z).elim, fun A outer s H args us vs Q E _ _ _ _ z => (h vs H Q E z).elim⟩, mm, b, v⟩
def idxI (ds : List D) (y : D) : Nat := ds.findIdx fun z => decide (z = y)
def idxF (y : D) (Q : Nat → Prop) : D → Prop
  | .lst ds => (∃ c, okD c y = true ∧ okL c ds = true ∧ dpD y ≤ 64 ∧ dpL ds < 64) ∧ y ∈ ds ∧ Q (idxI ds y)
  | _ => False
theorem idxI_at {ds : List D} {y : D} (h : y ∈ ds) : ds[idxI ds y]? = some y ∧ ∀ (m : Nat) (z : D), m < idxI ds y → ds[m]? = some z → decide (z = y) = false := by
  have hl : ds.findIdx (fun z => decide (z = y)) < ds.length := List.findIdx_lt_length_of_exists ⟨y, h, decide_eq_true rfl⟩
  refine ⟨?_, fun m z hm hz => ?_⟩
  · have := List.findIdx_getElem (w := hl)
    unfold idxI
    rw [List.getElem?_eq_getElem hl]
    exact congrArg some (of_decide_eq_true this)
  · have := List.not_of_lt_findIdx (p := fun z => decide (z = y)) (xs := ds) hm
    obtain ⟨h2, e⟩ := List.getElem?_eq_some_iff.mp hz
    rw [← e]
    simpa using this
theorem toPs_get : ∀ {ds : List D} {j : Nat}, (toPs ds)[j]? = (ds[j]?).map toP
  | [], _ => by rw [toPs]; rfl
  | d :: ds, 0 => by rw [toPs]; rfl
  | d :: ds, j + 1 => by
    rw [toPs, List.getElem?_cons_succ, List.getElem?_cons_succ]
    exact toPs_get
theorem okL_get {c : Bool} : ∀ {ds : List D} {j : Nat} {d : D}, okL c ds = true → ds[j]? = some d → okD c d = true
  | [], _, _, _, h => by simp at h
  | a :: ds, 0, d, h, e => by
    rw [okL, Bool.and_eq_true] at h
    cases e; exact h.1
  | a :: ds, j + 1, d, h, e => by
    rw [okL, Bool.and_eq_true] at h
    exact okL_get h.2 (by simpa using e)
def tdIndex (to : TDE) (t : TDA) : TDE := fun S Q => to S fun rx S1 => (∃ ds, derefD S1 rx = some (.lst ds)) ∧ t S1 fun rs S2 => arg1 rs fun r => dd1 S2 rx fun a => dd1 S2 r fun b => idxF b (fun j => Q (.d (.int (j : Int))) S2) a
section
variable {K : PySem.W.Frag} {e : Ent}
instance simIndex {to : TE} {t : TA} {to' : TDE} {t' : TDA} [h1 : SimE K e to to'] [h2 : SimA K e t t'] : SimE K e (tBM K "list" (rIndexD K) to t) (tdIndex to' t') := ⟨fun σ H S T Qd Q x h k => by
  refine h1.run σ H S T _ _ x h fun rx S1 v H1 hr x1 => ?_
  obtain ⟨⟨ds0, hd0⟩, hr⟩ := hr
  refine ⟨tyV_list x1 hd0, h2.run σ H1 S1 _ _ _ x1 hr fun rs S2 vs H2 hr hl x2 => ?_⟩
  obtain ⟨r, rfl, hr⟩ := arg1_inv hr
  obtain ⟨y, rfl⟩ := len1 hl
  obtain ⟨a, ha, hr⟩ := dd1_inv hr
  obtain ⟨b, hb, hr⟩ := dd1_inv hr
  have x2 : R K e σ H2 S2 (.v y r :: .v v rx :: T) := x2
  obtain ⟨U, wT, vx, vy, w2⟩ := x2.two ha hb
  match a, hr, vx with
  | .lst ds, ⟨⟨c, g1, g2, g3, g4⟩, hm, hq⟩, ⟨p, xs, e1, q1, q2⟩ =>
    subst e1
    have gl : okD c (.lst ds) = true := by rw [okD]; exact g2
    have dl : dpD (.lst ds) ≤ 64 := by rw [dpD]; omega
    have sh := toP_shaped gl dl
    have dp : Dp K H2 (.ref p) (toP (.lst ds)) := Vw.dp (d := .lst ds) ⟨p, xs, rfl, q1, q2⟩ gl
    rw [toP] at sh dp
    obtain ⟨i1, i2⟩ := idxI_at hm
    refine ⟨p, y, toP b, toPs ds, idxI ds b, toP b, rfl, rfl, dp, vy.dp g1, sh, toP_shaped g1 g3, by rw [toPs_get, i1]; rfl, by rw [eqv_toP b b g1 g1, beqD_dec]; exact decide_eq_true rfl, fun m z' hlt hz => ?_, k _ _ _ _ hq ⟨U, wT.push (.int _)⟩⟩
    rw [toPs_get] at hz
    obtain ⟨d, hd, rfl⟩ := Option.map_eq_some_iff.mp hz
    rw [eqv_toP d b (okL_get g2 hd) g1, beqD_dec]
    exact i2 m d hlt hd⟩
end
end Kn
set_option Elab.async false
set_option maxRecDepth 100000
set_option linter.all false
set_option autoImplicit false
namespace Kn
open PySem L2
section
variable {K : PySem.W.Frag} {e : Ent}
end
end Kn
set_option Elab.async false
set_option maxRecDepth 100000
set_option linter.all false
set_option autoImplicit false
namespace Kn
open PySem L2
section
variable {K : PySem.W.Frag} {e : Ent}
end
end Kn
set_option Elab.async false
set_option maxRecDepth 100000
set_option linter.all false
set_option autoImplicit false
namespace Kn
open PySem L2
section
variable {K : PySem.W.Frag} {e : Ent}
end
end Kn
set_option Elab.async false
set_option maxRecDepth 100000
set_option linter.all false
set_option autoImplicit false
namespace L2
open PySem PySem.Spec PyProof.Rows
def rListDR : List V → Hp → VK → Prop := fun xs H Q => ∃ p kvs, xs = [.ref p] ∧ Rd H p (.dK kvs) ∧ ∀ q, H q = none → Q (.ref q) (upd H q (.lst (kvs.map fun kv => kV kv.1)))
theorem call_list_dR {X : Cx} (hc : X.calm = true) : CallR X (.type "list") rListDR := by
  intro pins s σ H xs us Q I r h
  obtain ⟨p, kvs, e, hk, q⟩ := h
  subst e
  obtain ⟨u, eu, rx⟩ := r.one
  subst eu
  obtain rfl : u = Value.ref p := rx
  obtain ⟨z, lo, vs, rk, hd⟩ := (show ObjOk X.prog X.w H s.heap p (.dK kvs) from hk.ok I.hok)
  obtain ⟨ep, hat⟩ := hd.dictAt
  have hl : kvs.length = vs.length := Paired.length rk
  refine PySem.W.kdl_call (PySem.W.kdl_dict (knd := mixKind X.prog X.w) (kvs := vs) (ep := ep) lo) (I.ok.hd hc) hat (by rw [← hl]; exact z) fun h' tk acc' c' hkeep hS hacc => ?_
  refine ⟨.ref s.heap.objs.size, upd H s.heap.objs.size (.lst (kvs.map fun kv => kV kv.1)), I.laid hkeep (Nat.le_refl _) (show ObjOk X.prog X.w _ _ _ (.lst (kvs.map fun kv => kV kv.1)) from ⟨?_, acc'.toList, c', ?_, ?_⟩), rfl, q _ (I.hok.fresh (Nat.le_refl _))⟩
  · rw [List.length_map]; exact z
  · have el : acc'.toList.length = acc'.size := by simp
    refine vals_of_at (by rw [List.length_map, el, hacc.1, hl]) fun j x w h1 h2 => ?_
    obtain ⟨k, y, hky, hi⟩ := hacc.2 j w (by rw [← Array.getElem?_toList]; exact h2)
    have e1 : (kvs.map (·.1))[j]? = some k := by
      rw [KV.keys rk, List.getElem?_map, hky] <;> rfl
    have e2 : (kvs.map fun kv => kV kv.1)[j]? = some (kV k) := by
      have e3 : (kvs.map fun kv => kV kv.1) = (kvs.map (·.1)).map kV := by rw [List.map_map] <;> rfl
      rw [e3, List.getElem?_map, e1] <;> rfl
    rw [e2] at h1
    cases h1
    exact keyIs_rel hi
  · rw [Array.toArray_toList]; exact hS
end L2
namespace Kn
open PySem L2
def rListK (K : PySem.W.Frag) : List V → Hp → VK → Prop := fun xs H Q => rListOf K xs H Q ∨ rListDR xs H Q
theorem call_listK {X : Cx} (K : PySem.W.Frag) (hc : X.calm = true) (h : X.K = K := by rfl) : CallR X (.type "list") (rListK K) := CallR.or (call_list_ofK K h) (call_list_dR hc)
section
variable {K : PySem.W.Frag} {e : Ent}
theorem keysV_dv {Tp : Addr → Prop} {H : Hp} : ∀ {vs : List (Key × V)}, DvL K Tp H (vs.map fun p => kV p.1) (vs.map fun p => keyV p.1)
  | [] => .nil
  | p :: l => .cons (keyV_dv p.1) keysV_dv
def lstK (_ : PSt) (Q : List D → Prop) : D → Prop
  | .lst ds => Q ds
  | .tup ds => Q ds
  | .dct ks => Q (ks.map fun p => keyV p.1)
  | _ => False
instance simListK : SimCN K e (rListK K) (fun S rs Q => arg1 rs fun x => dd1 S x (lstK S fun d => Q d S)) := simCN1 fun σ H S T U v a Qd Q x vw h k => by
  match a, h, vw with
  | .lst ds, h, ⟨p, xs, e1, h1, h2⟩ => subst e1; exact .inl ⟨p, xs, rfl, .inl (SqL.of h1), fun l hl => k _ _ _ h (x.newL hl h2)⟩
  | .tup ds, h, ⟨p, xs, e1, h1, h2⟩ => subst e1; exact .inl ⟨p, xs, rfl, .inr (SqT.same Hd.sub h1), fun l hl => k _ _ _ h (x.newL hl h2)⟩
  | .dct ks, h, ⟨p, xs, e1, h1, h2⟩ => subst e1; exact .inr ⟨p, xs, rfl, h1, fun l hl => k _ _ _ h (x.newL hl (by rw [h2.keys]; exact keysV_dv))⟩
end
end Kn
set_option Elab.async false
set_option maxRecDepth 100000
set_option linter.all false
set_option autoImplicit false
namespace Kn
open PySem L2
section
variable {K : PySem.W.Frag} {e : Ent}
end
section
variable {P : Program} {w : World} {K : PySem.W.Frag} {mg : Str → Option Value} {base : Heap}
theorem Cz.okD {C : Addr} {qual : Str} {st : Stmt} {ps N : List Str} {dvs : List V} {k : Nat} {Fs : FSpec} (F : Cz K C qual st ps dvs) (S : FnScope N ps (defScope st)) (hl : ∀ ds W Q E, Fs ds W Q E → ds.length = ps.length) (hbody : BodyD P w K mg base N qual st k Fs) : Cq P w K mg base C (k + 1) ps dvs (lift K Fs) := F.okX S (lift_len hl) hbody.run
end
end Kn
set_option Elab.async false
set_option maxRecDepth 100000
set_option linter.all false
set_option autoImplicit false
namespace Kn
open PySem L2
section
variable {K : PySem.W.Frag} {e : Ent}
end
end Kn
set_option Elab.async false
set_option maxRecDepth 100000
set_option linter.all false
set_option autoImplicit false
namespace Kn
open PySem L2
section
variable {S : PSt} {F : D → Prop} {G : D → PSt → Prop} {H2 : D → D → Prop}
theorem dd2_dd1 {rx ry : Rv} : dd2 S rx ry H2 = dd1 S rx fun a => dd1 S ry fun b => H2 a b := by
  unfold dd2 dd1
  cases derefD S rx with
  | none => rfl
  | some a => cases derefD S ry <;> rfl
end
end Kn
set_option Elab.async false
set_option maxRecDepth 100000
set_option linter.all false
set_option autoImplicit true
namespace Kn
open PySem L2
theorem u_tdC {d : D} {S Q} : tdC d S Q = (Q (.d d) S) := rfl
theorem u_tdOp {o : PSt → Rv → Rv → (D → PSt → Prop) → Prop} {ta tb : TDE} {S Q} : tdOp o ta tb S Q = (ta S fun x S1 => tb S1 fun y S2 => o S2 x y fun d S3 => Q (.d d) S3) := rfl
theorem u_tdNil {S Q} : tdNil S Q = (Q [] S) := rfl
theorem u_tdCons {ta : TDE} {tr : TDA} {S Q} : tdCons ta tr S Q = (ta S fun r S1 => tr S1 fun rs S2 => Q (r :: rs) S2) := rfl
theorem u_tdTup {ta : TDA} {S Q} : tdTup ta S Q = (ta S fun rs S1 => frcL rs S1 fun ds S2 => ds.length ≤ 1000000 ∧ Q (.d (.tup ds)) S2) := rfl
theorem u_tnLst {ta : TDA} {S Q} : tnLst ta S Q = (ta S fun rs S1 => frcL rs S1 fun ds S2 => ds.length ≤ 1000000 ∧ Q ds S2) := rfl
theorem u_tdFrz {t : TDN} {S Q} : tdFrz t S Q = (t S fun ds S1 => Q (.d (.lst ds)) S1) := rfl
theorem u_tdTest {t : TDE} {S Q} : tdTest t S Q = (t S fun r S1 => asB r fun b => Q b S1) := rfl
theorem u_tdOr {t u : TDT} {S Q} : tdOr t u S Q = (t S fun c S1 => if c = true then Q true S1 else u S1 Q) := rfl
theorem u_tdNot {t : TDT} {S Q} : tdNot t S Q = (t S fun c S1 => Q (!c) S1) := rfl
theorem u_tdYes {S Q} : tdYes S Q = (Q true S) := rfl
theorem u_tdAndV {ta tb : TDE} {S Q} : tdAndV ta tb S Q = (tdTest ta S fun c S1 => if c = true then tb S1 Q else Q (.d (.bl false)) S1) := rfl
theorem u_tdNotV {ta : TDE} {S Q} : tdNotV ta S Q = (tdTest ta S fun c S1 => Q (.d (.bl (!c))) S1) := rfl
theorem u_tdCB {o : PSt → List Rv → (D → PSt → Prop) → Prop} {t : TDA} {S Q} : tdCB o t S Q = (t S fun rs S1 => o S1 rs fun d S2 => Q (.d d) S2) := rfl
theorem u_tnCB {o : PSt → List Rv → (List D → PSt → Prop) → Prop} {t : TDA} {S Q} : tnCB o t S Q = (t S fun rs S1 => o S1 rs Q) := rfl
theorem u_tnAdd {ta tb : TDE} {S Q} : tnAdd ta tb S Q = (ta S fun x S1 => tb S1 fun y S2 => dd2 S2 x y fun a b => match a, b with
  | .lst a, .lst b => a.length + b.length ≤ 1000000 ∧ Q (a ++ b) S2
  | _, _ => False) := rfl
theorem u_tdNoPart {S Q} : tdNoPart S Q = (Q none S) := rfl
theorem u_tdPart {t : TDE} {S Q} : tdPart t S Q = (t S fun r S1 => asI r fun i => Q (some i) S1) := rfl
theorem u_tdSl {te : TDE} {tl th : TDO} {S Q} : tdSl te tl th S Q = (te S fun r S1 => tl S1 fun lo S2 => th S2 fun hi S3 => dd1 S3 r (slF lo hi fun d => Q (.d d) S3)) := rfl
theorem u_tnSl {te : TDE} {tl th : TDO} {S Q} : tnSl te tl th S Q = (te S fun r S1 => tl S1 fun lo S2 => th S2 fun hi S3 => dd1 S3 r fun d => match d with
  | .lst ds => Q (cut ds lo hi) S3
  | _ => False) := rfl
theorem u_tdRevT {te : TDE} {tk : TDO} {S Q} : tdRevT te tk S Q = (te S fun r S1 => tk S1 fun o S2 => o = some (-1) ∧ dd1 S2 r fun d => match d with
  | .tup ds => Q (.d (.tup ds.reverse)) S2
  | _ => False) := rfl
theorem u_tnRevL {te : TDE} {tk : TDO} {S Q} : tnRevL te tk S Q = (te S fun r S1 => tk S1 fun o S2 => o = some (-1) ∧ dd1 S2 r fun d => match d with
  | .lst ds => Q ds.reverse S2
  | _ => False) := rfl
theorem u_tdIsiT {tx : TDE} {ta : TDA} {S Q} : tdIsiT tx ta S Q = (tx S fun x S1 => ta S1 fun rs S2 => opt (tysOf rs) fun ns => ns.all tyOk = true ∧ rs.length ≤ 1000 ∧ dd1 S2 x fun a => opt (tyN a) fun t => Q (.d (.bl (ns.any (isB t)))) S2) := rfl
theorem u_tdNext {E S} : tdNext E S = (E.nx S) := rfl
theorem u_tdSeq {t u : TDS} {E S} : tdSeq t u E S = (t { E with nx := u E } S) := rfl
theorem u_tdDrop {te : TDE} {E S} : tdDrop te E S = (te S fun _ S1 => E.nx S1) := rfl
theorem u_tdRet {te : TDE} {E S} : tdRet te E S = (te S fun r S1 => frc r S1 fun d S2 => E.rt d S2.W) := rfl
theorem u_tdIfS {c : TDT} {t u : TDS} {E S} : tdIfS c t u E S = (c S fun b S1 => if b = true then t E S1 else u E S1) := rfl
theorem u_gdName {i : Nat} {d S Q} : gdName i d S Q = (Q (S.set i (.val d))) := rfl
theorem u_gdNil {ds S Q} : gdNil ds S Q = (ds = [] ∧ Q S) := rfl
theorem u_gdCons {t : TDG} {u : TDGs} {ds S Q} : gdCons t u ds S Q = (match ds with
  | d :: r => t d S fun S1 => u r S1 Q
  | [] => False) := rfl
theorem u_gdTup {n : Nat} {t : TDGs} {d S Q} : gdTup n t d S Q = (match d with
  | .tup ds => ds.length = n ∧ t ds S Q
  | _ => False) := rfl
theorem u_tdAsg {te : TDE} {g : TDG} {E S} : tdAsg te g E S = (te S fun r S1 => frc r S1 fun d S2 => g d S2 E.nx) := rfl
theorem u_tdAsgN {i : Nat} {t : TDN} {E S} : tdAsgN i t E S = (t S fun ds S1 => E.nx (S1.set i (.ownL ds))) := rfl
theorem u_tiAny {td : TDE} {S Q} : tiAny td S Q = (td S fun r S1 => frc r S1 fun d S2 => walkF (fun ds => Q ds S2) d) := rfl
theorem u_tiRng1 {ta : TDA} {S Q} : tiRng1 ta S Q = (ta S fun rs S1 => arg1 rs fun r => asI r fun j => -(2 ^ 62) ≤ j ∧ j < 2 ^ 62 ∧ Q (rng 0 j.toNat) S1) := rfl
theorem u_tdFor {wi : TDI} {g : TDG} {tb : TDS} {E S} : tdFor wi g tb E S = (wi S fun ds S1 => forD g tb E ds S1) := rfl
theorem u_tnLc {wi : TDI} {g : TDG} {tt : TDT} {te : TDE} {vs : List Nat} {S Q} : tnLc wi g tt te vs S Q = (wi S fun ds S1 => compD g tt te vs Q ds [] (S1.wipe vs)) := rfl
theorem u_tdCall {F : FSpec} {w : Exn → PSt → Prop} {t : TDA} {S Q} : tdCall F w t S Q = (t S fun rs S1 => frcL rs S1 fun ds S2 => CallF F ds S2 Q w) := rfl
theorem u_tnCall {F : FSpecN} {w : Exn → PSt → Prop} {t : TDA} {S Q} : tnCall F w t S Q = (t S fun rs S1 => frcL rs S1 fun ds S2 => CallN F ds S2 Q w) := rfl
theorem u_tdRaise {C : Addr} {w : Exn → PSt → Prop} {zz0 S} : tdRaise C w zz0 S = (w ⟨C, []⟩ S) := rfl
theorem u_tdApp {to : TDE} {t : TDA} {S Q} : tdApp to t S Q = (to S fun rx S1 => (∃ ds, derefD S1 rx = some (.lst ds)) ∧ t S1 fun rs S2 => arg1 rs fun r => frc r S2 fun d S3 => mutL S3 rx (fun ds k => ds.length ≤ 999999 ∧ k (ds ++ [d])) fun _ S4 => Q (.d .non) S4) := rfl
theorem u_tdTryAs {K : PySem.W.Frag} {c : Value} {i : Nat} {tb : (Exn → PSt → Prop) → TDS} {ts : Addr → Value → Option Addr → TDS} {wo : Exn → PSt → Prop} {E S} : tdTryAs K c i tb ts wo E S = (tb (fun x S' => exB K c x (∀ a d, ts a (.ref x.cls) d (E.un i) (S'.set i (.val (.exc a x.cls d x.fs)))) (wo x S')) E S) := rfl
theorem u_tdTryN {K : PySem.W.Frag} {l : List (Value × (Addr → Value → Option Addr → TDS))} {tb : (Exn → PSt → Prop) → TDS} {wo : Exn → PSt → Prop} {E S} : tdTryN K l tb wo E S = (tb (l.foldr (fun p w x S' => exB K p.1 x (∀ a d, p.2 a (.ref x.cls) d E S') (w x S')) wo) E S) := rfl
theorem u_tdJoin {to : TDE} {t : TDA} {S Q} : tdJoin to t S Q = (to S fun rx S1 => asS rx fun a => t S1 fun rs S2 => arg1 rs fun r => dd1 S2 r (joinF a fun y => Q (.d (.str y)) S2)) := rfl
theorem u_tnSplit {to : TDE} {t : TDA} {S Q} : tnSplit to t S Q = (to S fun rx S1 => asS rx fun a => t S1 fun rs S2 => arg1 rs fun r => asS r fun b => (b.length == 0) = false ∧ a.length ≤ 1000000 ∧ Q ((Txt.split a b).map D.str) S2) := rfl
theorem u_tdPartn {to : TDE} {t : TDA} {S Q} : tdPartn to t S Q = (to S fun rx S1 => asS rx fun a => t S1 fun rs S2 => arg1 rs fun r => asS r fun b => (b.length == 0) = false ∧ a.length ≤ 1000000 ∧ Q (.d (.tup [.str (Txt.partition a b).1, .str (Txt.partition a b).2.1, .str (Txt.partition a b).2.2])) S2) := rfl
theorem u_tdFmt {te : TDE} {S Q} : tdFmt te S Q = (te S fun r S1 => dd1 S1 r (fmtF fun y => Q (.d (.str y)) S1)) := rfl
theorem u_tdJoined {ts : List TDE} {S Q} : tdJoined ts S Q = ((ts.foldr (fun te k (acc : Str) S => te S fun r S1 => asS r fun y => (acc ++ y).length ≤ 1000000 ∧ k (acc ++ y) S1) (fun o S1 => Q (.d (.str o)) S1)) Str.empty S) := rfl
theorem u_tdNeg {t : TDE} {S Q} : tdNeg t S Q = (t S fun r S1 => asI r fun i => Q (.d (.int (-i))) S1) := rfl
theorem u_tdPopAt {to : TDE} {t : TDA} {S Q} : tdPopAt to t S Q = (to S fun rx S1 => (∃ ds, derefD S1 rx = some (.lst ds)) ∧ t S1 fun rs S2 => arg1 rs fun r => asI r fun i => dd1 S2 rx (popF i fun ds j y => mutL S2 rx (fun ds' k => ds' = ds ∧ k (ds.eraseIdx j)) fun _ S3 => Q (.d y) S3)) := rfl
theorem u_tdRg1 {ta : TDE} {S Q} : tdRg1 ta S Q = (ta S fun r S1 => asI r fun n => Q 0 n S1) := rfl
theorem u_tdTupRg {t : TDRg} {S Q} : tdTupRg t S Q = (t S fun a b S1 => (0 ≤ a ∧ a ≤ 1000000 ∧ 0 ≤ b ∧ b ≤ 1000000) ∧ Q (.d (.tup (rng a (b - a).toNat))) S1) := rfl
theorem u_tdIndex {to : TDE} {t : TDA} {S Q} : tdIndex to t S Q = (to S fun rx S1 => (∃ ds, derefD S1 rx = some (.lst ds)) ∧ t S1 fun rs S2 => arg1 rs fun r => dd1 S2 rx fun a => dd1 S2 r fun b => idxF b (fun j => Q (.d (.int (j : Int))) S2) a) := rfl
theorem u_addF_i {Q : D → Prop} {i j : Int} : addF Q (.int i) (.int j) = Q (.int (i + j)) := rfl
theorem u_addF_s {Q : D → Prop} {a b : Str} : addF Q (.str a) (.str b) = (a.length + b.length ≤ 1000000 ∧ Q (.str (a ++ b))) := rfl
theorem u_addF_t {Q : D → Prop} {a b : List D} : addF Q (.tup a) (.tup b) = (a.length + b.length ≤ 1000000 ∧ Q (.tup (a ++ b))) := rfl
theorem u_addF_l {Q : D → Prop} {a b : List D} : addF Q (.lst a) (.lst b) = (a.length + b.length ≤ 1000000 ∧ Q (.lst (a ++ b))) := rfl
theorem u_iiF {P : Int → Int → Prop} {f : Int → Int → D} {Q : D → Prop} {i j : Int} : iiF P f Q (.int i) (.int j) = (P i j ∧ Q (f i j)) := rfl
theorem u_inF_l {Q : Bool → Prop} {x : D} {ds : List D} : inF Q x (.lst ds) = (inOk x ds ∧ Q (decide (x ∈ ds))) := rfl
theorem u_inF_t {Q : Bool → Prop} {x : D} {ds : List D} : inF Q x (.tup ds) = ((∃ c, fl c x = true ∧ ds.all (fl c) = true) ∧ Q (decide (x ∈ ds))) := rfl
theorem u_inF_s {Q : Bool → Prop} {i j : Str} : inF Q (.str i) (.str j) = Q (strIn i j) := rfl
theorem u_inF_ds {Q : Bool → Prop} {i : Str} {ks : List (Key × D)} : inF Q (.str i) (.dct ks) = Q (look ks (.inr i)).isSome := rfl
theorem u_inF_di {Q : Bool → Prop} {i : Int} {ks : List (Key × D)} : inF Q (.int i) (.dct ks) = Q (look ks (.inl i)).isSome := rfl
theorem u_ixF_l {Q : D → Prop} {ds : List D} {i : Int} : ixF Q (.lst ds) (.int i) = opt (atI ds i) Q := rfl
theorem u_ixF_t {Q : D → Prop} {ds : List D} {i : Int} : ixF Q (.tup ds) (.int i) = opt (atI ds i) Q := rfl
theorem u_ixF_s {Q : D → Prop} {z : Str} {i : Int} : ixF Q (.str z) (.int i) = (z.length ≤ 1000000 ∧ opt (atI z.cps.toList i) fun c => Q (.str ⟨#[c]⟩)) := rfl
theorem u_ixF_di {Q : D → Prop} {ks : List (Key × D)} {i : Int} : ixF Q (.dct ks) (.int i) = opt (look ks (.inl i)) Q := rfl
theorem u_ixF_ds {Q : D → Prop} {ks : List (Key × D)} {i : Str} : ixF Q (.dct ks) (.str i) = opt (look ks (.inr i)) Q := rfl
theorem u_slF_l {Q : D → Prop} {ds : List D} {lo hi : Option Int} : slF lo hi Q (.lst ds) = Q (.lst (cut ds lo hi)) := rfl
theorem u_slF_t {Q : D → Prop} {ds : List D} {lo hi : Option Int} : slF lo hi Q (.tup ds) = Q (.tup (cut ds lo hi)) := rfl
theorem u_slF_s {Q : D → Prop} {z : Str} {lo hi : Option Int} : slF lo hi Q (.str z) = (z.length ≤ 1000000 ∧ Q (.str (cutS z lo hi))) := rfl
theorem u_lenF_l {S : PSt} {Q : D → Prop} {ds : List D} : lenF S Q (.lst ds) = Q (.int ds.length) := rfl
theorem u_lenF_t {S : PSt} {Q : D → Prop} {ds : List D} : lenF S Q (.tup ds) = Q (.int ds.length) := rfl
theorem u_lenF_s {S : PSt} {Q : D → Prop} {z : Str} : lenF S Q (.str z) = (z.length ≤ 1000000 ∧ Q (.int z.length)) := rfl
theorem u_lenF_d {S : PSt} {Q : D → Prop} {ks : List (Key × D)} : lenF S Q (.dct ks) = Q (.int ks.length) := rfl
theorem u_isiF {S : PSt} {n : String} {Q : D → Prop} {a : D} : isiF S n Q a = (tyOk n = true ∧ opt (tyN a) fun t => Q (.bl (isB t n))) := rfl
theorem u_isiD {S : PSt} {x : Rv} {n : String} {Q : D → PSt → Prop} : isiD S [x, .d (.ty n)] Q = dd1 S x (isiF S n fun d => Q d S) := rfl
theorem u_tupF_l {S : PSt} {Q : D → Prop} {ds : List D} : tupF S Q (.lst ds) = Q (.tup ds) := rfl
theorem u_tupF_t {S : PSt} {Q : D → Prop} {ds : List D} : tupF S Q (.tup ds) = Q (.tup ds) := rfl
theorem u_allF {S : PSt} {Q : D → Prop} {ds : List D} : allF S Q (.lst ds) = opt (bls ds) fun bs => Q (.bl (bs.all id)) := rfl
theorem u_sortF {S : PSt} {Q : List D → Prop} {ds : List D} : sortF S Q (.lst ds) = opt (nts ds) fun ns => ns.length < 64 ∧ Q ((srt ns).map D.int) := rfl
theorem u_intF_i {S : PSt} {Q : D → Prop} {i : Int} : intF S Q (.int i) = Q (.int i) := rfl
theorem u_intF_b {S : PSt} {Q : D → Prop} {b : Bool} : intF S Q (.bl b) = Q (.int (if b then 1 else 0)) := rfl
theorem u_strF {S : PSt} {Q : D → Prop} {i : Int} : strF S Q (.int i) = (i.natAbs.log2 < 1920 ∧ Q (.str (toString i))) := rfl
theorem u_walkF_l {Q : List D → Prop} {ds : List D} : walkF Q (.lst ds) = Q ds := rfl
theorem u_walkF_t {Q : List D → Prop} {ds : List D} : walkF Q (.tup ds) = Q ds := rfl
theorem u_walkF_s {Q : List D → Prop} {z : Str} : walkF Q (.str z) = Q (signs z) := rfl
theorem u_walkF_d {Q : List D → Prop} {ks : List (Key × D)} : walkF Q (.dct ks) = Q (ks.map fun p => keyV p.1) := rfl
theorem u_arg1 {r : Rv} {F : Rv → Prop} : arg1 [r] F = F r := rfl
theorem u_arg2 {r q : Rv} {F : Rv → Rv → Prop} : arg2 [r, q] F = F r q := rfl
theorem u_frcL_n {S : PSt} {Q : List D → PSt → Prop} : frcL [] S Q = Q [] S := rfl
theorem u_frcL_c {r : Rv} {rs : List Rv} {S : PSt} {Q : List D → PSt → Prop} : frcL (r :: rs) S Q = frc r S fun d S1 => frcL rs S1 fun ds S2 => Q (d :: ds) S2 := rfl
theorem u_addD {S : PSt} {rx ry : Rv} {Q : D → PSt → Prop} : addD S rx ry Q = dd1 S rx fun a => dd1 S ry fun b => addF (fun d => Q d S) a b := dd2_dd1
theorem u_iiD {P : Int → Int → Prop} {f : Int → Int → D} {S : PSt} {rx ry : Rv} {Q : D → PSt → Prop} : iiD P f S rx ry Q = dd1 S rx fun a => dd1 S ry fun b => iiF P f (fun d => Q d S) a b := dd2_dd1
theorem u_eqD_f {S : PSt} {rx ry : Rv} {Q : D → PSt → Prop} : eqD false S rx ry Q = dd1 S rx fun a => dd1 S ry fun b => eqOk a b ∧ Q (.bl (decide (a = b))) S := dd2_dd1
theorem u_eqD_t {S : PSt} {rx ry : Rv} {Q : D → PSt → Prop} : eqD true S rx ry Q = dd1 S rx fun a => dd1 S ry fun b => eqOk a b ∧ Q (.bl (!decide (a = b))) S := dd2_dd1
theorem u_inD_f {S : PSt} {rx ry : Rv} {Q : D → PSt → Prop} : inD false S rx ry Q = dd1 S rx fun a => dd1 S ry fun b => inF (fun b => Q (.bl b) S) a b := dd2_dd1
theorem u_inD_t {S : PSt} {rx ry : Rv} {Q : D → PSt → Prop} : inD true S rx ry Q = dd1 S rx fun a => dd1 S ry fun b => inF (fun b => Q (.bl (!b)) S) a b := dd2_dd1
theorem u_ixD {S : PSt} {rx ry : Rv} {Q : D → PSt → Prop} : ixD S rx ry Q = dd1 S rx fun a => dd1 S ry fun b => ixF (fun d => Q d S) a b := dd2_dd1
theorem u_dd2 {S : PSt} {rx ry : Rv} {F : D → D → Prop} : dd2 S rx ry F = dd1 S rx fun a => dd1 S ry fun b => F a b := dd2_dd1
theorem u_turnD {g : TDG} {tt : TDT} {te : TDE} {vs : List Nat} {d : D} {S : PSt} {N : D → PSt → Prop} {M : PSt → Prop} : turnD g tt te vs d S N M = g d S fun S2 => tt S2 fun b S3 => if b = true then te S3 fun r S4 => frc r S4 fun y S5 => N y (S5.wipe vs) else M (S3.wipe vs) := rfl
theorem u_excF {a a' C : Addr} {cls : Value} {d d' : Option Addr} {F : Addr → List (Str × D) → Prop} {fs : List (Str × D)} : excF a cls d F (.d (.exc a' C d' fs)) = (a' = a ∧ d' = d ∧ cls = .ref C ∧ F C fs) := rfl
theorem u_asS {F : Str → Prop} {x : Str} : asS (.d (.str x)) F = F x := rfl
theorem u_joinF_l {a : Str} {Q : Str → Prop} {ds : List D} : joinF a Q (.lst ds) = opt (strsD ds) fun ys => (ys.map (·.length)).sum + ys.length * a.length ≤ 16777216 ∧ Q (Txt.join a ys) := rfl
theorem u_joinF_t {a : Str} {Q : Str → Prop} {ds : List D} : joinF a Q (.tup ds) = opt (strsD ds) fun ys => (ys.map (·.length)).sum + ys.length * a.length ≤ 16777216 ∧ Q (Txt.join a ys) := rfl
theorem u_fmtF_s {Q : Str → Prop} {y : Str} : fmtF Q (.str y) = (y.length ≤ 1000000 ∧ Q y) := rfl
theorem u_fmtF_i {Q : Str → Prop} {i : Int} : fmtF Q (.int i) = (i.natAbs < 2 ^ 1000 ∧ Q (toString i)) := rfl
theorem u_popF {i : Int} {G : List D → Nat → D → Prop} {ds : List D} : popF i G (.lst ds) = ((-(2 ^ 63) ≤ i ∧ i < 2 ^ 63) ∧ opt (popI ds i) fun p => G ds p.1 p.2) := rfl
theorem u_idxF {y : D} {Q : Nat → Prop} {ds : List D} : idxF y Q (.lst ds) = ((∃ c, okD c y = true ∧ okL c ds = true ∧ dpD y ≤ 64 ∧ dpL ds < 64) ∧ y ∈ ds ∧ Q (idxI ds y)) := rfl
theorem u_clsV_r {F : Value → Prop} {A : Addr} : clsV F (.d (.ref A)) = F (.ref A) := rfl
theorem u_clsV_t {F : Value → Prop} {n : String} : clsV F (.d (.ty n)) = F (.type n) := rfl
theorem u_isYD {K : PySem.W.Frag} {cls : Value} {d : Option Addr} {a : Addr} {S : PSt} {r q : Rv} {Q : D → PSt → Prop} : isYD K cls d a S [r, q] Q = excF a cls d (fun C fs => clsV (fun cv => ExcC K C ∧ ∃ b, PySem.W.kitOne K (.ref C) cv = some b ∧ Q (.bl b) S) q) r := rfl
theorem u_lstK_l {S : PSt} {Q : List D → Prop} {ds : List D} : lstK S Q (.lst ds) = Q ds := rfl
theorem u_lstK_t {S : PSt} {Q : List D → Prop} {ds : List D} : lstK S Q (.tup ds) = Q ds := rfl
theorem u_lstK_d {S : PSt} {Q : List D → Prop} {ks : List (Key × D)} : lstK S Q (.dct ks) = Q (ks.map fun p => keyV p.1) := rfl
class Bx (α : Type) where
  v : α
class Px where
  v : Prop
def CallB (F : FSpec) (ds : List D) (S : PSt) [Q : Bx (Rv → PSt → Prop)] [w : Bx (Exn → PSt → Prop)] : Prop := CallF F ds S Q.v w.v
def CallNB (F : FSpecN) (ds : List D) (S : PSt) [Q : Bx (List D → PSt → Prop)] [w : Bx (Exn → PSt → Prop)] : Prop := CallN F ds S Q.v w.v
def optB {α : Type} (o : Option α) [F : Bx (α → Prop)] : Prop := opt o F.v
def dd1B (S : PSt) (r : Rv) [F : Bx (D → Prop)] : Prop := dd1 S r F.v
def asBB (r : Rv) [F : Bx (Bool → Prop)] : Prop := asB r F.v
def asIB (r : Rv) [F : Bx (Int → Prop)] : Prop := asI r F.v
def frcB (r : Rv) (S : PSt) [F : Bx (D → PSt → Prop)] : Prop := frc r S F.v
def forB (ds : List D) (S : PSt) [g : Bx TDG] [tb : Bx TDS] [E : Bx DEnds] : Prop := forD g.v tb.v E.v ds S
def compB (ds acc : List D) (S : PSt) [g : Bx TDG] [tt : Bx TDT] [te : Bx TDE] [vs : Bx (List Nat)] [Q : Bx (List D → PSt → Prop)] : Prop := compD g.v tt.v te.v vs.v Q.v ds acc S
def iteB (c : Prop) [Decidable c] [A : Px] [B : Px] : Prop := if c then A.v else B.v
def whileB (S : PSt) [c : Bx TDT] [tb : Bx TDS] [E : Bx DEnds] : Prop := tdWhile c.v tb.v E.v S
def varB (c : Option (Option PC)) (i : Nat) [Q : Bx (Rv → Prop)] : Prop := match c with
  | some (some (.val d)) => Q.v (.d d)
  | some (some (.ownL _)) => Q.v (.own i)
  | some (some (.ownD _)) => Q.v (.own i)
  | _ => False
def augB (i : Nat) (S : PSt) (c : Option (Option PC)) (d : D) [Q : Bx (PSt → Prop)] : Prop := augF i S Q.v c d
def mutLB (S : PSt) (r : Rv) [F : Bx (List D → (List D → Prop) → Prop)] [Q : Bx (List D → PSt → Prop)] : Prop := mutL S r F.v Q.v
def mutDB (S : PSt) (r : Rv) [F : Bx (List (Key × D) → (List (Key × D) → Prop) → Prop)] [Q : Bx (PSt → Prop)] : Prop := mutD S r F.v Q.v
def retVB (c : Option (Option PC)) (W : Wd) [Q : Bx (List D → Wd → Prop)] : Prop := match c with
  | some (some (.ownL ds)) => Q.v ds W
  | _ => False
theorem b_Call {F : FSpec} {ds : List D} {S : PSt} {Q : Rv → PSt → Prop} {w : Exn → PSt → Prop} : CallF F ds S Q w = @CallB F ds S ⟨Q⟩ ⟨w⟩ := rfl
theorem b_CallN {F : FSpecN} {ds : List D} {S : PSt} {Q : List D → PSt → Prop} {w : Exn → PSt → Prop} : CallN F ds S Q w = @CallNB F ds S ⟨Q⟩ ⟨w⟩ := rfl
theorem b_opt {α : Type} {o : Option α} {F : α → Prop} : opt o F = @optB α o ⟨F⟩ := rfl
theorem b_dd1 {S : PSt} {r : Rv} {F : D → Prop} : dd1 S r F = @dd1B S r ⟨F⟩ := rfl
theorem b_asB {r : Rv} {F : Bool → Prop} : asB r F = @asBB r ⟨F⟩ := rfl
theorem b_asI {r : Rv} {F : Int → Prop} : asI r F = @asIB r ⟨F⟩ := rfl
theorem b_frc {r : Rv} {S : PSt} {F : D → PSt → Prop} : frc r S F = @frcB r S ⟨F⟩ := rfl
theorem b_for {g : TDG} {tb : TDS} {E : DEnds} {ds : List D} {S : PSt} : forD g tb E ds S = @forB ds S ⟨g⟩ ⟨tb⟩ ⟨E⟩ := rfl
theorem b_comp {g : TDG} {tt : TDT} {te : TDE} {vs : List Nat} {Q : List D → PSt → Prop} {ds acc : List D} {S : PSt} : compD g tt te vs Q ds acc S = @compB ds acc S ⟨g⟩ ⟨tt⟩ ⟨te⟩ ⟨vs⟩ ⟨Q⟩ := rfl
theorem b_ite {c : Prop} [Decidable c] {A B : Prop} : (if c then A else B) = @iteB c _ ⟨A⟩ ⟨B⟩ := rfl
theorem b_while {c : TDT} {tb : TDS} {E : DEnds} {S : PSt} : tdWhile c tb E S = @whileB S ⟨c⟩ ⟨tb⟩ ⟨E⟩ := rfl
theorem b_var {i : Nat} {S : PSt} {Q : Rv → PSt → Prop} : tdVar i S Q = @varB S.ρ[i]? i ⟨fun r => Q r S⟩ := by
  unfold tdVar varB
  cases S.ρ[i]? with
  | none => rfl
  | some c =>
    cases c with
    | none => rfl
    | some c => cases c <;> rfl
theorem b_aug {i : Nat} {t : TDE} {E : DEnds} {S : PSt} : tdAug i t E S = ((∃ c, S.ρ[i]? = some (some c)) ∧ t S fun r S1 => dd1 S1 r fun d => @augB i S1 S1.ρ[i]? d ⟨E.nx⟩) := rfl
theorem b_mutL {S : PSt} {r : Rv} {F : List D → (List D → Prop) → Prop} {Q : List D → PSt → Prop} : mutL S r F Q = @mutLB S r ⟨F⟩ ⟨Q⟩ := rfl
theorem b_mutD {S : PSt} {r : Rv} {F : List (Key × D) → (List (Key × D) → Prop) → Prop} {Q : PSt → Prop} : mutD S r F Q = @mutDB S r ⟨F⟩ ⟨Q⟩ := rfl
theorem b_retV {i : Nat} {E : DEnds} {S : PSt} : tdRetV i E S = @retVB S.ρ[i]? S.W ⟨E.rn⟩ := by
  unfold tdRetV retVB
  cases S.ρ[i]? with
  | none => rfl
  | some c =>
    cases c with
    | none => rfl
    | some c => cases c <;> rfl
section
variable {S : PSt} {F : Bx (D → Prop)} {G : Bx (D → PSt → Prop)}
theorem o_opt {α : Type} {a : α} {F : Bx (α → Prop)} : @optB α (some a) F = F.v a := rfl
theorem o_asB {b : Bool} {F : Bx (Bool → Prop)} : @asBB (.d (.bl b)) F = F.v b := rfl
theorem o_asI {b : Int} {F : Bx (Int → Prop)} : @asIB (.d (.int b)) F = F.v b := rfl
theorem o_non : @dd1B S (.d .non) F = F.v .non := rfl
theorem o_bl {b : Bool} : @dd1B S (.d (.bl b)) F = F.v (.bl b) := rfl
theorem o_int {b : Int} : @dd1B S (.d (.int b)) F = F.v (.int b) := rfl
theorem o_str {b : Str} : @dd1B S (.d (.str b)) F = F.v (.str b) := rfl
theorem o_ty {b : String} : @dd1B S (.d (.ty b)) F = F.v (.ty b) := rfl
theorem o_tup {b : List D} : @dd1B S (.d (.tup b)) F = F.v (.tup b) := rfl
theorem o_lst {b : List D} : @dd1B S (.d (.lst b)) F = F.v (.lst b) := rfl
theorem o_dct {b : List (Key × D)} : @dd1B S (.d (.dct b)) F = F.v (.dct b) := rfl
theorem o_obj {C : Addr} {b : List (Str × D)} : @dd1B S (.d (.obj C b)) F = F.v (.obj C b) := rfl
theorem o_varV {i : Nat} {d : D} {Q : Bx (Rv → Prop)} : @varB (some (some (.val d))) i Q = Q.v (.d d) := rfl
theorem o_varL {i : Nat} {d : List D} {Q : Bx (Rv → Prop)} : @varB (some (some (.ownL d))) i Q = Q.v (.own i) := rfl
theorem o_varD {i : Nat} {d : List (Key × D)} {Q : Bx (Rv → Prop)} : @varB (some (some (.ownD d))) i Q = Q.v (.own i) := rfl
theorem o_frc {d : D} : @frcB (.d d) S G = G.v d S := rfl
theorem o_augI {i : Nat} {a b : Int} {Q : Bx (PSt → Prop)} : @augB i S (some (some (.val (.int a)))) (.int b) Q = Q.v (S.set i (.val (.int (a + b)))) := rfl
theorem o_augS {i : Nat} {a b : Str} {Q : Bx (PSt → Prop)} : @augB i S (some (some (.val (.str a)))) (.str b) Q = (a.length + b.length ≤ 1000000 ∧ Q.v (S.set i (.val (.str (a ++ b))))) := rfl
theorem o_augL {i : Nat} {a b : List D} {Q : Bx (PSt → Prop)} : @augB i S (some (some (.ownL a))) (.lst b) Q = (a.length + b.length ≤ 1000000 ∧ Q.v (S.set i (.ownL (a ++ b)))) := rfl
theorem o_retV {ds : List D} {W : Wd} {Q : Bx (List D → Wd → Prop)} : @retVB (some (some (.ownL ds))) W Q = Q.v ds W := rfl
theorem o_iteT {A B : Px} : @iteB True _ A B = A.v := by unfold iteB; simp
theorem o_iteF {A B : Px} : @iteB False _ A B = B.v := by unfold iteB; simp
end
theorem iteB_by {c : Prop} [Decidable c] {A B : Px} (h1 : c → A.v) (h2 : ¬ c → B.v) : @iteB c _ A B := by
  unfold iteB
  split
  · exact h1 ‹_›
  · exact h2 ‹_›
theorem iteB_F {c : Prop} [Decidable c] {A B : Px} (hc : ¬ c) (h : B.v) : @iteB c _ A B := by unfold iteB; rw [if_neg hc]; exact h
def derefO : Option (Option PC) → Option D
  | some (some (.val (.ref _))) => none
  | some (some (.val d)) => some d
  | some (some (.ownL ds)) => some (.lst ds)
  | some (some (.ownD ks)) => some (.dct ks)
  | _ => none
theorem b_deref {S : PSt} {j : Nat} : derefD S (.own j) = derefO S.ρ[j]? := by
  rw [derefD]
  cases S.ρ[j]? with
  | none => rfl
  | some c =>
    cases c with
    | none => rfl
    | some c =>
      cases c with
      | val d => cases d <;> rfl
      | ownL ds => rfl
      | ownD ds => rfl
theorem o_derefL {ds : List D} : derefO (some (some (.ownL ds))) = some (.lst ds) := rfl
theorem o_derefD {ds : List (Key × D)} : derefO (some (some (.ownD ds))) = some (.dct ds) := rfl
theorem b_dd1own {S : PSt} {j : Nat} {F : Bx (D → Prop)} : @dd1B S (.own j) F = @optB D (derefO S.ρ[j]?) F := by
  unfold dd1B dd1 optB opt
  rw [b_deref]
  cases derefO S.ρ[j]? <;> rfl
def mutOB (S : PSt) (j : Nat) (c : Option (Option PC)) [F : Bx (List D → (List D → Prop) → Prop)] [Q : Bx (List D → PSt → Prop)] : Prop := mutO S j F.v Q.v c
theorem b_mutO {S : PSt} {j : Nat} {F : Bx (List D → (List D → Prop) → Prop)} {Q : Bx (List D → PSt → Prop)} : @mutLB S (.own j) F Q = @mutOB S j S.ρ[j]? F Q := rfl
theorem o_mutO {S : PSt} {j : Nat} {ds : List D} {F : Bx (List D → (List D → Prop) → Prop)} {Q : Bx (List D → PSt → Prop)} : @mutOB S j (some (some (.ownL ds))) F Q = F.v ds fun es => Q.v es (S.set j (.ownL es)) := rfl
def mutDOB (S : PSt) (j : Nat) (c : Option (Option PC)) [F : Bx (List (Key × D) → (List (Key × D) → Prop) → Prop)] [Q : Bx (PSt → Prop)] : Prop := mutDO S j F.v Q.v c
theorem b_mutDO {S : PSt} {j : Nat} {F : Bx (List (Key × D) → (List (Key × D) → Prop) → Prop)} {Q : Bx (PSt → Prop)} : @mutDB S (.own j) F Q = @mutDOB S j S.ρ[j]? F Q := rfl
theorem o_mutDO {S : PSt} {j : Nat} {ds : List (Key × D)} {F : Bx (List (Key × D) → (List (Key × D) → Prop) → Prop)} {Q : Bx (PSt → Prop)} : @mutDOB S j (some (some (.ownD ds))) F Q = F.v ds fun es => Q.v (S.set j (.ownD es)) := rfl
def frcOB (S : PSt) (j : Nat) (c : Option (Option PC)) [G : Bx (D → PSt → Prop)] : Prop := match c with
  | some (some (.val d)) => G.v d S
  | some (some (.ownL ds)) => G.v (.lst ds) (S.set j (.val (.lst ds)))
  | some (some (.ownD ks)) => G.v (.dct ks) (S.set j (.val (.dct ks)))
  | _ => False
theorem b_frcO {S : PSt} {j : Nat} {G : Bx (D → PSt → Prop)} : @frcB (.own j) S G = @frcOB S j S.ρ[j]? G := by
  unfold frcB frcOB
  rw [frc] <;> (cases S.ρ[j]? with
    | none => rfl
    | some c =>
      cases c with
      | none => rfl
      | some c => cases c <;> rfl)
theorem o_frcL {S : PSt} {j : Nat} {ds : List D} {G : Bx (D → PSt → Prop)} : @frcOB S j (some (some (.ownL ds))) G = G.v (.lst ds) (S.set j (.val (.lst ds))) := rfl
theorem o_frcD {S : PSt} {j : Nat} {ds : List (Key × D)} {G : Bx (D → PSt → Prop)} : @frcOB S j (some (some (.ownD ds))) G = G.v (.dct ds) (S.set j (.val (.dct ds))) := rfl
theorem o_frcV {S : PSt} {j : Nat} {d : D} {G : Bx (D → PSt → Prop)} : @frcOB S j (some (some (.val d))) G = G.v d S := rfl
def refB (S : PSt) (r : Rv) [Q : Bx (Addr → List D → Prop)] : Prop := refF S Q.v r
def dctCB (o : Option Cell) [Q : Bx (List (Key × D) → Prop)] : Prop := dctC Q.v o
theorem b_dctC {o : Option Cell} {Q : List (Key × D) → Prop} : dctC Q o = @dctCB o ⟨Q⟩ := rfl
theorem o_dctC {ks : List (Key × D)} {Q : Bx (List (Key × D) → Prop)} : @dctCB (some (.dct ks)) Q = Q.v ks := rfl
theorem b_ref {S : PSt} {r : Rv} {Q : Addr → List D → Prop} : refF S Q r = @refB S r ⟨Q⟩ := rfl
theorem o_ref {ρ : List (Option PC)} {W : Wd} {a : Addr} {ds : List D} {Q : Bx (Addr → List D → Prop)} : @refB ⟨ρ, W.put a (.lst ds)⟩ (.d (.ref a)) Q = Q.v a ds := by
  unfold refB refF
  simp only [Wd.put_same, refC]
theorem o_derefR {ρ : List (Option PC)} {W : Wd} {a : Addr} {ds : List D} : derefD ⟨ρ, W.put a (.lst ds)⟩ (.d (.ref a)) = some (.lst ds) := by
  simp only [derefD, Wd.put_same]
theorem o_dd1R {ρ : List (Option PC)} {W : Wd} {a : Addr} {ds : List D} {F : Bx (D → Prop)} : @dd1B ⟨ρ, W.put a (.lst ds)⟩ (.d (.ref a)) F = F.v (.lst ds) := by
  unfold dd1B dd1
  rw [o_derefR]
theorem put_put {W : Wd} {a : Addr} {c c' : Cell} : (W.put a c).put a c' = W.put a c' := by
  unfold Wd.put
  congr 1
  funext b
  by_cases h : b = a <;> simp [h]
theorem o_mutR {ρ : List (Option PC)} {W : Wd} {a : Addr} {ds : List D} {F : Bx (List D → (List D → Prop) → Prop)} {Q : Bx (List D → PSt → Prop)} : @mutLB ⟨ρ, W.put a (.lst ds)⟩ (.d (.ref a)) F Q = F.v ds fun es => Q.v es ⟨ρ, W.put a (.lst es)⟩ := by
  unfold mutLB mutL
  simp only [Wd.put_same, mutC, put_put]
theorem o_derefK {ρ : List (Option PC)} {W : Wd} {a : Addr} {ds : List (Key × D)} : derefD ⟨ρ, W.put a (.dct ds)⟩ (.d (.ref a)) = some (.dct ds) := by
  simp only [derefD, Wd.put_same]
theorem o_dd1K {ρ : List (Option PC)} {W : Wd} {a : Addr} {ds : List (Key × D)} {F : Bx (D → Prop)} : @dd1B ⟨ρ, W.put a (.dct ds)⟩ (.d (.ref a)) F = F.v (.dct ds) := by
  unfold dd1B dd1
  rw [o_derefK]
theorem o_mutK {ρ : List (Option PC)} {W : Wd} {a : Addr} {ds : List (Key × D)} {F : Bx (List (Key × D) → (List (Key × D) → Prop) → Prop)} {Q : Bx (PSt → Prop)} : @mutDB ⟨ρ, W.put a (.dct ds)⟩ (.d (.ref a)) F Q = F.v ds fun es => Q.v ⟨ρ, W.put a (.dct es)⟩ := by
  unfold mutDB mutD
  simp only [Wd.put_same, mutDC, put_put]
theorem o_putT {T : Addr → Prop} {W : Wd} {a : Addr} {c : Cell} : (⟨T, (W.put a c).ω⟩ : Wd) = Wd.put ⟨T, W.ω⟩ a c := rfl
def insFB (S : PSt) (C : Addr) (r : Rv) [Q : Bx (Addr → List (Str × D) → Prop)] : Prop := insF S C Q.v r
def insCB (C : Addr) (o : Option Cell) [Q : Bx (List (Str × D) → Prop)] : Prop := insC C Q.v o
theorem b_insF {S : PSt} {C : Addr} {r : Rv} {Q : Addr → List (Str × D) → Prop} : insF S C Q r = @insFB S C r ⟨Q⟩ := rfl
theorem b_insC {C : Addr} {o : Option Cell} {Q : List (Str × D) → Prop} : insC C Q o = @insCB C o ⟨Q⟩ := rfl
theorem o_insF {ρ : List (Option PC)} {W : Wd} {a C : Addr} {fs : List (Str × D)} {Q : Bx (Addr → List (Str × D) → Prop)} : @insFB ⟨ρ, W.put a (.ins C fs)⟩ C (.d (.ref a)) Q = Q.v a fs := by
  unfold insFB insF
  simp only [Wd.put_same, insC, true_and]
theorem o_insC {C : Addr} {fs : List (Str × D)} {Q : Bx (List (Str × D) → Prop)} : @insCB C (some (.ins C fs)) Q = Q.v fs := by
  unfold insCB
  simp only [insC, true_and]
theorem o_derefI {ρ : List (Option PC)} {W : Wd} {a C : Addr} {fs : List (Str × D)} : derefD ⟨ρ, W.put a (.ins C fs)⟩ (.d (.ref a)) = some (.obj C fs) := by
  simp only [derefD, Wd.put_same]
theorem o_dd1I {ρ : List (Option PC)} {W : Wd} {a C : Addr} {fs : List (Str × D)} {F : Bx (D → Prop)} : @dd1B ⟨ρ, W.put a (.ins C fs)⟩ (.d (.ref a)) F = F.v (.obj C fs) := by
  unfold dd1B dd1
  rw [o_derefI]
theorem o_putS {W : Wd} {a : Addr} {c : Cell} : (W.put a c).ω a = some c := Wd.put_same
theorem o_putP {W : Wd} {a : Addr} {c c' : Cell} : (W.put a c).put a c' = W.put a c' := put_put
def exBB (K : PySem.W.Frag) (c : Value) (x : Exn) [Y : Bx Prop] [N : Bx Prop] : Prop := exB K c x Y.v N.v
theorem b_exB {K : PySem.W.Frag} {c : Value} {x : Exn} {Y N : Prop} : exB K c x Y N = @exBB K c x ⟨Y⟩ ⟨N⟩ := rfl
theorem ex_catch {K : PySem.W.Frag} {c : Value} {x : Exn} {Y N : Bx Prop} (h : PySem.W.exmOne K (.ref x.cls) c = some true) (y : Y.v) : @exBB K c x Y N := ⟨true, h, fun _ => y, fun z => by cases z⟩
theorem ofS_inj {a b : String} (h : Str.ofString a = Str.ofString b) : a = b := by
  have h : a.toList.map Char.toNat = b.toList.map Char.toNat := by
    rw [Str.ofString_eq_toList, Str.ofString_eq_toList] at h
    simpa using h
  exact String.toList_inj.mp ((List.map_inj_right (f := Char.toNat) fun x y e => Char.toNat_inj.mp e).mp h)
theorem ofS_eq (a b : String) : (Str.ofString a = Str.ofString b) = (a = b) := propext ⟨ofS_inj, fun h => by rw [h]⟩
theorem look_c {p : Str × D} {l : List (Str × D)} {k : Str} : look (p :: l) k = if p.1 = k then some p.2 else look l k := rfl
theorem look_n {k : Str} : look ([] : List (Str × D)) k = none := rfl
theorem putFd_c {f : Str} {x : D} {p : Str × D} {r : List (Str × D)} : putFd f x (p :: r) = if p.1 = f then (p.1, x) :: r else p :: putFd f x r := rfl
theorem putFd_n {f : Str} {x : D} : putFd f x [] = [(f, x)] := rfl
theorem bq_t (b : Bool) : (b == true) = b := by cases b <;> rfl
theorem bq_f (b : Bool) : (b == false) = !b := by cases b <;> rfl
theorem exC {c : PC} : (∃ c', (some (some c) : Option (Option PC)) = some (some c')) = True := eq_true ⟨c, rfl⟩
theorem exK {ds : List (Key × D)} : (∃ ds', (some (D.dct ds) : Option D) = some (.dct ds')) = True := eq_true ⟨ds, rfl⟩
theorem exL {ds : List D} : (∃ ds', (some (D.lst ds) : Option D) = some (.lst ds')) = True := eq_true ⟨ds, rfl⟩
end Kn
set_option Elab.async false
set_option maxRecDepth 100000
set_option linter.all false
set_option autoImplicit false
namespace Kn
open PySem L2
section
variable {α : Type} {g : TDG} {tt : TDT} {te : TDE} {vs : List Nat} {Q : List D → PSt → Prop} {tb : TDS} {E : DEnds} {S : PSt}
theorem for_rng {lo : Int} {n : Nat} (I : Nat → PSt → Prop) (h0 : I 0 S) (hs : ∀ (i : Nat) S, i < n → I i S → g (.int (lo + i)) S fun S2 => tb ⟨I (i + 1), E.rt, E.nx, I (i + 1), E.rn⟩ S2) (hd : ∀ S, I n S → E.nx S) : @forB (rng lo n) S ⟨g⟩ ⟨tb⟩ ⟨E⟩ := by
  refine forD_ix (g := g) (tb := tb) (E := E) (fun (i : Nat) => D.int (lo + (i : Int))) (List.range n) I h0 (fun i x S hx hi => ?_) (fun S h => hd S (by simpa using h))
  obtain ⟨h1, h2⟩ := List.getElem?_eq_some_iff.mp hx
  simp at h1 h2
  subst h2
  exact hs i S h1 hi
theorem for_map (h : α → D) (xs : List α) (I : Nat → PSt → Prop) (h0 : I 0 S) (hs : ∀ (i : Nat) x S, xs[i]? = some x → I i S → g (h x) S fun S2 => tb ⟨I (i + 1), E.rt, E.nx, I (i + 1), E.rn⟩ S2) (hd : ∀ S, I xs.length S → E.nx S) : @forB (xs.map h) S ⟨g⟩ ⟨tb⟩ ⟨E⟩ := forD_ix h xs I h0 hs hd
theorem for_nil : @forB [] S ⟨g⟩ ⟨tb⟩ ⟨E⟩ = E.nx S := rfl
theorem for_cons {d : D} {ds : List D} (h : g d S fun S2 => tb ⟨fun S' => @forB ds S' ⟨g⟩ ⟨tb⟩ ⟨E⟩, E.rt, E.nx, fun S' => @forB ds S' ⟨g⟩ ⟨tb⟩ ⟨E⟩, E.rn⟩ S2) : @forB (d :: ds) S ⟨g⟩ ⟨tb⟩ ⟨E⟩ := ⟨_, fun _ z => z, h⟩
theorem comp_map (h f : α → D) (xs : List α) {acc : List D} (hl : acc.length + xs.length ≤ 1000000) (hs : ∀ x ∈ xs, ∀ (N : D → PSt → Prop) (M : PSt → Prop), N (f x) S → turnD g tt te vs (h x) S N M) (q : Q (acc ++ xs.map f) S) : @compB (xs.map h) acc S ⟨g⟩ ⟨tt⟩ ⟨te⟩ ⟨vs⟩ ⟨Q⟩ := compD_map h f xs acc hl hs q
theorem comp_rel (h : α → D) (P : α → D → Prop) (xs : List α) {acc : List D} (hl : acc.length + xs.length ≤ 1000000) (hs : ∀ x ∈ xs, ∀ (N : D → PSt → Prop) (M : PSt → Prop), (∀ y, P x y → N y S) → turnD g tt te vs (h x) S N M) (q : ∀ ys, All2 P xs ys → Q (acc ++ ys) S) : @compB (xs.map h) acc S ⟨g⟩ ⟨tt⟩ ⟨te⟩ ⟨vs⟩ ⟨Q⟩ := compD_rel h P xs acc hl hs q
theorem comp_seqB (h f : α → D) (R : α → Prop) (xs : List α) {acc : List D} (hl : acc.length + xs.length ≤ 1000000) (hs : ∀ (pre : List α) (x : α) (post : List α), xs = pre ++ x :: post → (∀ y ∈ pre, R y) → ∀ (N : D → PSt → Prop) (M : PSt → Prop), (R x → N (f x) S) → turnD g tt te vs (h x) S N M) (q : (∀ x ∈ xs, R x) → Q (acc ++ xs.map f) S) : @compB (xs.map h) acc S ⟨g⟩ ⟨tt⟩ ⟨te⟩ ⟨vs⟩ ⟨Q⟩ := comp_seq h f R xs acc hl hs q
end
section
variable {α : Type} {g : TDG} {tt : TDT} {te : TDE} {vs : List Nat} {Q : List D → PSt → Prop} {tb : TDS} {E : DEnds} {S : PSt} {b : Addr} {od : Obj} {vk : List (Key × V)} {ks : List (Key × D)}
end
theorem pg_tupK {X : Cx} {es : List Expr} {k : Nat} {t : TGs} {pos : Pos} (K : PySem.W.Frag) (n : Nat) (hc : X.calm = true) (h : PGs X es t) (hn : (assignEach es X.env).length = n := by rfl) (hst : (assignEach es X.env).findIdx? (·.1) = none := by rfl) (hK : X.K = K := by rfl) : PG X (.Tuple es k pos) (gTup K n t) := by
  subst hK
  exact pg_tup hc h hn hst
end Kn
set_option Elab.async false
set_option maxRecDepth 100000
set_option linter.all false
set_option autoImplicit false
namespace Kn
open PySem L2
def spLaw (K : PySem.W.Frag) : Sp := fun vs H Q _ => ∃ (a : Addr) (ns : List Int), vs = [.ref a] ∧ SqL K H a (ns.map V.int) ∧ ns.length ≤ 63 ∧ ∀ H', Q (.bl true) H'
def W0 : Wd := ⟨fun _ => False, fun _ => none⟩
theorem Hd.none (H : Hp) : Hd (fun _ => False) H = H := by
  funext b
  unfold Hd
  exact if_neg id
theorem okLaw {P : Program} {w : World} {K : PySem.W.Frag} {mg : Str → Option Value} {base : Heap} {x qual : Str} {st : Stmt} {f : Addr} {fd : FuncData} {N : List Str} {p : Str} {k : Nat} (F : Fun K x qual st f fd) (S : FnScope N [p] (defScope st))
    (hbody : ∀ (cdv : Value) (A : Around) (outer : List Env) (s : Shared) (H : Hp) (E : XK) (e : Ent), Room k (A.deeper (PyProof.Rows.envOfC qual (defScope st) s.heap.objs.size f cdv)) →
      ∃ t td, PSs (cxOf CX0 P w K mg base N qual (defScope st) f cdv A outer s H E).nox (defBody st) t ∧ SimZ K e t td ∧ td ⟨fun _ => False, fun d _ => d = .bl true, fun _ => False, fun _ => False, fun _ _ => False⟩ (S0 N [.scr] e.W)) : FnOk P w K mg base CX0 (k + 1) f fd [p] (spLaw K) := by
  refine F.ok S (fun vs H Q E h => ?_) (fun cdv A outer s H vs Q E hr h => ?_)
  · obtain ⟨a, ns, rfl, _⟩ := h
    rfl
  · obtain ⟨a, ns, rfl, hS, hl, kq⟩ := h
    obtain ⟨t, td, hp, hs, ht⟩ := hbody cdv A outer s H E ⟨fun _ => False, W0, H⟩ hr
    have r : Rw K (fun _ => False) W0 H := ⟨fun _ z => z.elim, fun _ z => z.elim, fun _ _ z => by cases z⟩
    have dv : DvL K W0.Tp (Hd (fun _ => False) H) [.ref a] [.scr] := by
      rw [Hd.none]
      exact .cons (.scr hS hl) .nil
    refine ⟨t, hp, hs.run (start N [.ref a]) H (S0 N [.scr] W0) _ _ ⟨_, RU.start r dv⟩ ht ⟨fun S' σ' H' q _ => q.elim, fun d S' σ' v H' q ⟨U', x'⟩ => ?_, fun _ _ _ q => q.elim, fun _ _ _ q => q.elim, fun _ _ _ _ _ q => q.elim⟩⟩
    have dv' := x'.tmp (.v v (.d d)) (by simp)
    subst q
    cases dv'
    exact kq H'
end Kn
set_option Elab.async false
set_option maxRecDepth 100000
set_option maxHeartbeats 1000000
set_option linter.all false
set_option autoImplicit false
namespace Kn
open PySem L2 PySem.Spec PyProof.Rows
def NsK (X : Cx) (s s' : Shared) : Prop := ∀ m, s.heap.Ns X.env.locals m → s'.heap.Ns X.env.locals m
section
variable {X : Cx} {pins : List (Addr × Obj)} {σ : L2.St} {H H' : Hp} {s s' s1 : Shared}
theorem NsK.refl : NsK X s s := fun _ h => h
theorem NsK.trans (a : NsK X s s1) (b : NsK X s1 s') : NsK X s s' := fun m h => b m (a m h)
theorem NsK.keep (k : ∀ b o, s.heap.get? b = some o → s'.heap.get? b = some o) : NsK X s s' := fun _ h => h.keeps k
theorem NsK.heap (e : s'.heap = s.heap) : NsK X s s' := fun m h => by rw [e]; exact h
theorem NsK.un {fs ch : List Addr} (I : Inv X pins σ H s) (u : Un fs ch H H' s.heap s'.heap) (h : X.env.locals ∉ ch) : NsK X s s' := by
  rintro m ⟨o, es, ep, ho, r⟩
  obtain ⟨sl, hL⟩ := u.any ho I.free h
  exact ⟨_, es, ep, hL, r⟩
def RawAt (X : Cx) (x : Str) (u : Value) (s : Shared) : Prop := ∃ m, s.heap.Ns X.env.locals m ∧ m x = some u
theorem RawAt.kept {x : Str} {u : Value} (h : RawAt X x u s) (k : NsK X s s') : RawAt X x u s' := let ⟨m, a, b⟩ := h; ⟨m, k m a, b⟩
end
structure PEn (X : Cx) (e : Expr) (t : TE) : Prop where
  run : ∀ (pins : List (Addr × Obj)) (s : Shared) (σ : L2.St) (H : Hp) (Q : VK), 1 ≤ s.toks → Inv X pins σ H s → t σ H Q → wpAny (model X.prog X.w) X.A (eval e X.env) (fun u s' => NsK X s s' ∧ EP X pins σ Q u s') X.xe s
structure PAn (X : Cx) (es : List Expr) (t : TA) : Prop where
  run : ∀ (pos : Pos) (pins : List (Addr × Obj)) (s : Shared) (σ : L2.St) (H : Hp) (Q : List V → Hp → Prop), 1 ≤ s.toks → Inv X pins σ H s → t σ H Q → wpAny (model X.prog X.w) X.A (spliced (backTo pos (starEach es X.env))) (fun us s' => NsK X s s' ∧ AP X pins σ Q us s') X.xe s
structure PIn (X : Cx) (tg iter : Expr) (wi : TI) : Prop where
  run : ∀ (pins : List (Addr × Obj)) (s : Shared) (σ : L2.St) (H : Hp) (R : It → Hp → Prop), 1 ≤ s.toks → Inv X pins σ H s → wi σ H R →
    wpAny (model X.prog X.w) X.A (eval iter X.env) (fun v s1 => wpAny (model X.prog X.w) X.A (pyIter v) (fun itv s2 => NsK X s s2 ∧ PIE X pins σ tg R itv s2) X.xe s1) X.xe s
def OpN (X : Cx) (f : Value → Value → Sem Value) (r : R2) : Prop :=
  ∀ (pins : List (Addr × Obj)) (s : Shared) (σ : L2.St) (H : Hp) (x y : V) (v u : Value) (Q : VK), Inv X pins σ H s → RelV x v → RelV y u → r x y H Q →
    wpAny (model X.prog X.w) X.A (f v u) (fun z s' => NsK X s s' ∧ EP X pins σ Q z s') X.xe s
section
variable {X : Cx} {a b e o : Expr} {es : List Expr} {ta tb te to : TE} {t : TA} {pos : Pos}
theorem n_var {i : Nat} {x : Str} (hN : X.N[i]? = some x) (hv : Vis X.env.scope x) (hd : (x == ("__debug__" : Str)) = false := by decide) (hcd : (x == ("__classdict__" : Str)) = false := by decide) : PEn X (.Name x pos) (tVar i) := by
  refine ⟨fun pins s σ H Q _ I h => ?_⟩
  obtain ⟨v, e, h⟩ := h
  exact raw_name hN hv I e (fun u r => ⟨NsK.refl, v, H, I, r, h⟩) hd hcd
theorem n_int {i : Int} {j : Nat} : PEn X (.Constant (.int i) j pos) (tC (.int i)) := ⟨fun _ _ _ H _ _ I h => wpAny_Constant_int ⟨NsK.heap rfl, .int i, H, I.tok _, ⟨_, rfl⟩, h⟩⟩
theorem n_str {x : Str} {j : Nat} : PEn X (.Constant (.str x) j pos) (tC (.str x)) := ⟨fun _ _ _ H _ _ I h => Calls.Constant_str ⟨NsK.heap rfl, .str x, H, I.tok _, ⟨_, rfl⟩, h⟩⟩
theorem OpN.or {f : Value → Value → Sem Value} {r r' : R2} (h : OpN X f r) (h' : OpN X f r') : OpN X f (fun x y H Q => r x y H Q ∨ r' x y H Q) := by
  intro pins s σ H x y v u Q I rx ry q
  rcases q with q | q
  · exact h pins s σ H x y v u Q I rx ry q
  · exact h' pins s σ H x y v u Q I rx ry q
theorem opn_int : OpN X (binaryOp .Add) (rI0 fun i j => .int (i + j)) := by
  intro pins s σ H x y v u Q I rx ry h
  obtain ⟨i, j, rfl, rfl, q⟩ := h
  obtain ⟨t, rfl⟩ := rx
  obtain ⟨t', rfl⟩ := ry
  exact add_int ⟨NsK.heap rfl, .int (i + j), H, I.tok _, ⟨_, rfl⟩, q⟩
theorem opn_str : OpN X (binaryOp .Add) rAddS := by
  intro pins s σ H x y v u Q I rx ry h
  obtain ⟨i, j, rfl, rfl, hz, q⟩ := h
  obtain ⟨t, rfl⟩ := rx
  obtain ⟨t', rfl⟩ := ry
  exact add_str (fun t' tk => ⟨NsK.heap rfl, .str (i ++ j), H, I.tok _, ⟨_, rfl⟩, q⟩) hz
theorem opn_lst : OpN X (binaryOp .Add) rCat := by
  intro pins s σ H x y v u Q I rx ry h
  obtain ⟨l, b, xs, zs, rfl, rfl, hH, hB, hz, q⟩ := h
  cases rx
  cases ry
  obtain ⟨z, its, n, r, hl, e⟩ := I.lstM hH
  obtain ⟨z2, its2, n2, r2, hl2, e2⟩ := I.lstM hB
  refine PySem.P.add_list e e2 ?_ (by rw [List.size_toArray, List.size_toArray]; omega)
  have ea : its.toArray ++ its2.toArray = (its ++ its2).toArray := by simp
  rw [ea]
  exact ⟨NsK.keep fun _ _ e => Heap.get?_push_of_some _ e, .ref _, _, I.lnew (t' := s.toks) (r.append r2) (by rw [List.length_append]; omega), rfl, q _ I.fresh⟩
theorem n_op {op : Operator} {r : R2} (ho : OpN X (binaryOp op) r) (ha : PEn X a ta) (hb : PEn X b tb) : PEn X (.BinOp a op b pos) (tOp r ta tb) := by
  refine ⟨fun pins s σ H Q h1 I h => wpAny_BinOp ?_⟩
  refine wpAny_mono (PySem.wpAny_toks (ha.run pins s σ H _ h1 I h)) (fun v s1 ⟨ht, k1, x, H1, I1, r1, q1⟩ => ?_) fun _ _ z => z.2
  refine thn (hb.run pins s1 σ H1 _ (Nat.le_trans h1 ht) I1 q1) fun u s2 ⟨k2, y, H2, I2, r2, q2⟩ => ?_
  exact thn (ho pins s2 σ H2 x y v u Q I2 r1 r2 q2) fun z s3 ⟨k3, q⟩ => ⟨(k1.trans k2).trans k3, q⟩
theorem n_nil : PAn X [] tNil := ⟨fun _ _ _ _ H Q _ I h => Calls.spliced_nil ⟨NsK.refl, [], H, I, .nil, h⟩⟩
theorem n_cons (ha : PEn X e te) (hr : PAn X es t) (hs : starEach (e :: es) X.env = (false, eval e X.env) :: starEach es X.env := by rfl) : PAn X (e :: es) (tCons te t) := by
  refine ⟨fun pos pins s σ H Q h1 I h => ?_⟩
  rw [hs]
  show wpAny _ _ (spliced ((false, eval e X.env) :: backTo pos (starEach es X.env))) _ _ s
  refine Calls.spliced_cons (wpAny_mono (PySem.wpAny_toks (ha.run pins s σ H _ h1 I h)) (fun u s1 ⟨ht, k1, x, H1, I1, r1, q1⟩ => ?_) fun _ _ z => z.2)
  exact thn (hr.run pos pins s1 σ H1 _ (Nat.le_trans h1 ht) I1 q1) fun us s2 ⟨k2, xs, H2, I2, r2, q2⟩ => ⟨k1.trans k2, x :: xs, H2, I2, .cons r1 r2, q2⟩
theorem n_lst (h : PAn X es t) : PEn X (.List es pos) (tLst t) := by
  refine ⟨fun pins s σ H Q h1 I hq => ?_⟩
  refine wpAny_List_spliced (thn (h.run pos pins s σ H _ h1 I hq) fun us s1 ⟨k1, xs, H1, I1, r, z, q⟩ => ⟨by rw [← r.length]; exact z, ?_⟩)
  have hf : H1 s1.heap.objs.size = none := I1.hok.fresh (Nat.le_refl _)
  refine ⟨k1.trans (NsK.keep fun b u e => Heap.get?_push_of_some _ e), .ref s1.heap.objs.size, upd H1 s1.heap.objs.size (.lst xs), I1.laid (t' := s1.toks) (fun b u e => Heap.get?_push_of_some _ e) (Nat.le_refl _) ?_, rfl, q _ hf⟩
  exact ⟨z, us, 0, r, Heap.get?_push_size _ rfl⟩
end
section
variable {X : Cx} {k : Nat} {ps : List Str} {sp : Sp} {x : Str} {p pos : Pos} {e : Expr} {es : List Expr} {t : TA}
theorem n_after {pins : List (Addr × Obj)} {σ : L2.St} {H : Hp} {s s' : Shared} {Q : VK} {u : Value} (I : Inv X pins σ H s) (h : CE X.stack X.prog X.w H s Q u s') : NsK X s s' := by
  obtain ⟨v, H', os, bare, un, hok, r, q⟩ := h
  exact NsK.un I un (by simp)
theorem n_fcallX {W : WX} (tk : Takes X W) (F : Fx X.prog X.w X.K X.mg X.base (L2.CX X.prog X.w) x k ps sp) (hr : Room k X.A) (hg : Gl X x) (ha : PAn X (e :: es) t)
    (hdb : (x == ("__debug__" : Str)) = false := by decide) (he : starEach (e :: es) X.env = (false, eval e X.env) :: starEach es X.env := by rfl) (hpl : (backTo pos (starEach es X.env)).any (·.1) = false := by rfl) :
    PEn X (.Call (.Name x p) (e :: es) [] pos) (tCallS sp (WE W) t) := by
  obtain ⟨f, fd, F1, m, kp, b⟩ := F.ex
  refine ⟨fun pins s σ H Q h1 I h => wpAny_Call_Name_kw (ld_glob I hg m ?_ hdb)⟩
  refine PySem.W.callWith_K (h₀ := X.base) I.ok.mod.kin kp (thn (ha.run pos pins s σ H _ h1 I h) fun us s1 ⟨k1, vs, H1, I1, r, q⟩ => ⟨I1.kIn, ?_⟩) he hpl
  have hl : us.length = ps.length := by rw [← r.length]; exact F1.len _ _ _ _ q
  have hb : BindsTo s1 fd ⟨us, []⟩ (ps.zip us) := by
    have := b s1 us I1.kIn (by rw [List.append_nil]; exact hl)
    rwa [List.append_nil] at this
  refine wpAny_call (codeAny_mono (F1.run X.A X.stack s1 H1 ⟨us, []⟩ us vs Q _ hr I1.env0 hb r q) fun r s' hq => ?_)
  cases r with
  | error e => exact passAt tk σ pins H1 s1 e s' I1 hq
  | ok fl =>
    cases fl with
    | ret u => exact ⟨k1.trans (n_after I1 hq), I1.after hq⟩
    | next => exact False.elim hq
    | brk => exact False.elim hq
    | cont => exact False.elim hq
end
section
variable {X : Cx} {o e : Expr} {es : List Expr} {to : TE} {t : TA} {y z : Str} {j k : Nat} {c0 c1 apos pos : Pos}
theorem n_repl (ho : PEn X o to) (hyz : (y == z) = false := by decide)
    (hst : starEach [.Constant (.str y) j c0, .Constant (.str z) k c1] X.env = [(false, eval (.Constant (.str y) j c0) X.env), (false, eval (.Constant (.str z) k c1) X.env)] := by rfl)
    (hbase : attributeBase o "replace" X.env (eval o X.env) = eval o X.env := by rfl) (hline : (apos.endLine == pos.line) = true := by rfl) :
    PEn X (.Call (.Attribute o "replace" apos) [.Constant (.str y) j c0, .Constant (.str z) k c1] [] pos) (CwR.tReplC to y z) := by
  refine ⟨fun pins s σ H Q h0 I h => ?_⟩
  refine PySem.Call_method2 hbase hst hline (wpAny_mono (PySem.wpAny_toks (ho.run pins s σ H _ h0 I h)) (fun v s1 q => ?_) fun _ _ z => z.2)
  obtain ⟨hk, k1, v', H1, I1, r1, x, e1, hb, q⟩ := q
  subst e1
  obtain ⟨tx, e2⟩ := r1
  subst e2
  refine ⟨"str", _, PySem.F.plainAttrs_str, PySem.F.slot_str_replace, PySem.F.type_str_replace, typeIs_str _ _ _, (fun _ e => nomatch e), Calls.callWith_builtin rfl (Calls.evalArgs_plain (Calls.spliced_cons ?_))⟩
  refine Calls.Constant_str (Calls.spliced_cons (Calls.Constant_str (Calls.spliced_nil ?_)))
  exact PySem.SC.replace (by show s1.toks ≠ 0; omega) (by show s1.toks + 1 ≠ 0; omega) (by show s1.toks ≠ s1.toks + 1; omega) hyz hb fun t' k => ⟨k1, .str (Txt.replace x y z), H1, I1.tok k, ⟨t', rfl⟩, q⟩
theorem n_join (K : PySem.W.Frag) (ho : PEn X o to) (ha : PAn X (e :: es) t) (hK : X.K = K := by rfl)
    (hbase : attributeBase o "join" X.env (eval o X.env) = eval o X.env := by rfl)
    (hfew : ((backTo pos (starEach (e :: es) X.env)).all (fun x => !x.1) && (backToKw pos (keywordEach [] X.env)).all (fun x => x.1.isSome)
      && decide ((e :: es).length + ([] : List Keyword).length + (if ([] : List Keyword).isEmpty then 0 else 1) < 30)) = true := by rfl)
    (hline : (apos.endLine == pos.line) = true := by rfl) (hs : starEach (e :: es) X.env = (false, eval e X.env) :: starEach es X.env := by rfl) (hplain : (backTo pos (starEach es X.env)).any (·.1) = false := by rfl) :
    PEn X (.Call (.Attribute o "join" apos) (e :: es) [] pos) (tBM K "str" (rJoin K) to t) := by
  subst hK
  refine ⟨fun pins s σ H Q h0 I h => ?_⟩
  refine wpAny_Call_method_late hbase hfew hline rfl (wpAny_mono (PySem.wpAny_toks (ho.run pins s σ H _ h0 I h)) (fun v s1 ⟨hk, k1, x, H1, I1, r1, ty, q1⟩ => ?_) fun _ _ z => z.2)
  obtain ⟨h1, h2⟩ := tyV_is I1 r1 ty
  refine ⟨"str", _, PySem.F.plainAttrs_str, PySem.F.slot_str_join, PySem.F.type_str_join, h1, h2, ?_⟩
  have hA := ha.run pos pins s1 σ H1 _ (Nat.le_trans h0 hk) I1 q1
  rw [hs] at hA ⊢
  refine Calls.callWith_builtin (by show (false || (backTo pos (starEach es X.env)).any (·.1)) = false; rw [hplain] <;> rfl) (Calls.evalArgs_plain ?_)
  refine thn hA fun us s2 ⟨k2, vs, H2, I2, r2, a, p, ys, ea, eb, hp, hz, q⟩ => ?_
  subst ea
  subst eb
  obtain ⟨t, rfl⟩ := r1
  cases r2 with
  | cons r1 rs =>
    cases rs
    cases r1
    rcases hp with hp | hp
    · obtain ⟨its, r, ⟨o, n, ho, hc, _, hd⟩, _⟩ := I2.list hp
      exact PyProof.Rows.join_list (items := its.toArray) ⟨o, ho, hc, n, hd⟩ (by rw [List.toList_toArray]; exact strs_of_vals r) hz fun t' k => ⟨(k1.trans k2).trans (NsK.heap rfl), .str _, H2, I2.tok k, ⟨t', rfl⟩, q⟩
    · obtain ⟨its, r, ht, _⟩ := I2.tuple hp
      exact PyProof.Rows.join_tuple (items := its.toArray) ht (by rw [List.toList_toArray]; exact strs_of_vals r) hz fun t' k => ⟨(k1.trans k2).trans (NsK.heap rfl), .str _, H2, I2.tok k, ⟨t', rfl⟩, q⟩
end
end Kn
set_option Elab.async false
set_option maxRecDepth 100000
set_option maxHeartbeats 1000000
set_option linter.all false
set_option autoImplicit false
namespace Kn
open PySem L2 PySem.Spec PyProof.Rows
section
variable {X : Cx} {E : XK}
theorem ns_uniq {h : Heap} {a : Addr} {m m' : Str → Option Value} (x : h.Ns a m) (y : h.Ns a m') : m = m' := by
  obtain ⟨o, es, ep, h1, h2, _, h3⟩ := x
  obtain ⟨o', es', ep', g1, g2, _, g3⟩ := y
  rw [h1] at g1; cases g1
  rw [h2] at g2; cases g2
  exact funext fun n => (h3 n).symm.trans (g3 n)
def NsB (X : Cx) (y : Str) (s s' : Shared) : Prop := ∀ m, s.heap.Ns X.env.locals m → ∃ m', s'.heap.Ns X.env.locals m' ∧ ∀ z, z ≠ y → m' z = m z
theorem NsK.but {y : Str} {s s' : Shared} (k : NsK X s s') : NsB X y s s' := fun m h => ⟨m, k m h, fun _ _ => rfl⟩
theorem NsB.trans {y : Str} {s s1 s' : Shared} (a : NsB X y s s1) (b : NsB X y s1 s') : NsB X y s s' := fun m h =>
  let ⟨m1, h1, e1⟩ := a m h
  let ⟨m2, h2, e2⟩ := b m1 h1
  ⟨m2, h2, fun z hz => (e2 z hz).trans (e1 z hz)⟩
theorem RawAt.but {x y : Str} {u : Value} {s s' : Shared} (h : RawAt X x u s) (k : NsB X y s s') (n : x ≠ y) : RawAt X x u s' :=
  let ⟨m, a, b⟩ := h
  let ⟨m', a', e⟩ := k m a
  ⟨m', a', (e x n).trans b⟩
theorem inv_store {pins : List (Addr × Obj)} {σ : L2.St} {H : Hp} {s : Shared} {i : Nat} {x : Str} {v : V} {u : Value} {m : Str → Option Value} {h' : Heap} {tk : Nat} (I : Inv X pins σ H s) (hN : X.N.Nodup) (hi : X.N[i]? = some x) (hk : X.env.scope.names.lookup x = some .local) (r : RelV v u)
    (hn : s.heap.Ns X.env.locals m) (hn' : h'.Ns X.env.locals (fun z => if z = x then some u else m z)) (hs : Heap.SameBut X.env.locals s.heap h') : Inv X pins (σ.set i (some v)) H { s with heap := h', toks := tk } := by
  obtain ⟨m0, hm0, hl⟩ := id I.loc
  cases ns_uniq hm0 hn
  have hiσ : i < σ.length := by rw [I.len]; exact (List.getElem?_eq_some_iff.mp hi).1
  have neL : ∀ b o, X.s_0.heap.get? b = some o → b ≠ X.env.locals := fun b o e => Nat.ne_of_lt (Nat.lt_of_lt_of_le (Heap.lt_size e) I.ok.above)
  refine ⟨I.ok, I.os, I.bare, ⟨fun b o e n hb hx => (hs.2 b (neL b o e)).trans (I.base.keep b o e n hb hx), fun b o e n hb hx => ?_, I.base.free, fun b o e hx => ?_, I.base.tups, I.base.frzs, I.base.tbls⟩, ⟨_, hn', fun j y v' e1 e2 e3 => ?_⟩, fun y c e => ?_, I.free, I.freeC, fun p hp => ?_, fun b ob e => ?_, by rw [List.length_set]; exact I.len⟩
  · obtain ⟨sl, e1⟩ := I.base.slot b o e n hb hx
    exact ⟨sl, (hs.2 b (neL b o e)).trans e1⟩
  · obtain ⟨o', e1⟩ := I.base.there b o e hx
    exact ⟨o', (hs.2 b (neL b o e)).trans e1⟩
  · by_cases hj : j = i
    · subst hj
      rw [hi] at e1; cases e1
      rw [List.getElem?_set_self hiσ] at e2
      cases e2
      exact ⟨u, r, .inl ⟨hk, by simp⟩⟩
    · rw [List.getElem?_set_ne (Ne.symm hj)] at e2
      obtain ⟨u', r', q⟩ := hl j y v' e1 e2 e3
      refine ⟨u', r', ?_⟩
      rcases q with ⟨k, e⟩ | ⟨k, c, e, z⟩
      · have ny : y ≠ x := fun e => hj (nodup_ix hN e1 (e ▸ hi))
        exact .inl ⟨k, by simp [ny, e]⟩
      · exact .inr ⟨k, c, e, z.sameBut hs (I.cne y c e)⟩
  · obtain ⟨w', z⟩ := I.cell y c e
    exact ⟨w', z.sameBut hs (I.cne y c e)⟩
  · obtain ⟨e, n, ne, nf, d⟩ := I.pin p hp
    exact ⟨(hs.2 p.1 ne).trans e, n, ne, nf, d⟩
  · refine (I.hok b ob e).stay (fun c w' hc q => (hs.2 c ?_).trans q) (fun _ q => q) fun _ _ q => q
    rintro rfl
    rcases hc with rfl | hc
    · rw [I.free] at e; cases e
    · rw [I.free] at hc; cases hc
theorem inv_storeC {pins : List (Addr × Obj)} {σ : L2.St} {H : Hp} {s : Shared} {i : Nat} {x : Str} {v : V} {u : Value} {c : Addr} {h' : Heap} {tk : Nat} (I : Inv X pins σ H s) (hN : X.N.Nodup) (hi : X.N[i]? = some x) (hk : X.env.scope.names.lookup x = some .cell) (hf : X.fn x = true) (r : RelV v u)
    (hc : X.env.cells.lookup x = some c) (hc' : h'.IsCell c (some u)) (hs : Heap.SameBut c s.heap h') : Inv X pins (σ.set i (some v)) H { s with heap := h', toks := tk } := by
  obtain ⟨m, hn, hl⟩ := id I.loc
  obtain ⟨w0, z0⟩ := I.cell x c hc
  obtain ⟨oc, hoc, hocd⟩ := id z0
  have hiσ : i < σ.length := by rw [I.len]; exact (List.getElem?_eq_some_iff.mp hi).1
  have nec : ∀ b o, X.s_0.heap.get? b = some o → b ≠ c := fun b o e => Nat.ne_of_lt (Nat.lt_of_lt_of_le (Heap.lt_size e) (I.ok.cab x c hf hc))
  refine ⟨I.ok, I.os, I.bare, ⟨fun b o e n hb hx => (hs.2 b (nec b o e)).trans (I.base.keep b o e n hb hx), fun b o e n hb hx => ?_, I.base.free, fun b o e hx => ?_, I.base.tups, I.base.frzs, I.base.tbls⟩, ⟨m, hn.sameBut hs (Ne.symm (I.cne x c hc)), fun j y v' e1 e2 e3 => ?_⟩, fun y c' e => ?_, I.free, I.freeC, fun p hp => ?_, fun b ob e => ?_, by rw [List.length_set]; exact I.len⟩
  · obtain ⟨sl, e1⟩ := I.base.slot b o e n hb hx
    exact ⟨sl, (hs.2 b (nec b o e)).trans e1⟩
  · obtain ⟨o', e1⟩ := I.base.there b o e hx
    exact ⟨o', (hs.2 b (nec b o e)).trans e1⟩
  · by_cases hj : j = i
    · subst hj
      rw [hi] at e1; cases e1
      rw [List.getElem?_set_self hiσ] at e2
      cases e2
      exact ⟨u, r, .inr ⟨.inl hk, c, hc, hc'⟩⟩
    · rw [List.getElem?_set_ne (Ne.symm hj)] at e2
      obtain ⟨u', r', q⟩ := hl j y v' e1 e2 e3
      refine ⟨u', r', ?_⟩
      rcases q with q | ⟨k, c', e, z⟩
      · exact .inl q
      · refine .inr ⟨k, c', e, z.sameBut hs ?_⟩
        rintro rfl
        exact hj (nodup_ix hN e1 (I.ok.inj _ _ _ e hc ▸ hi))
  · by_cases hcc : c' = c
    · subst hcc; exact ⟨_, hc'⟩
    · obtain ⟨w', z⟩ := I.cell y c' e
      exact ⟨w', z.sameBut hs hcc⟩
  · obtain ⟨e, n, ne, nf, d⟩ := I.pin p hp
    refine ⟨(hs.2 p.1 ?_).trans e, n, ne, nf, d⟩
    intro q
    rw [q, hoc] at e
    have q' : oc = p.2 := Option.some.inj e
    exact d _ (by rw [← q']; exact hocd)
  · refine (I.hok b ob e).stay (fun d w' hd q => (hs.2 d ?_).trans q) (fun _ q => q) fun _ _ q => q
    rintro rfl
    rcases hd with rfl | hd
    · rw [I.freeC x _ hc] at e; cases e
    · rw [I.freeC x _ hc] at hd; cases hd
theorem n_store {M : Model} {A : Around} {E : Value → Shared → Prop} {pins : List (Addr × Obj)} {σ : L2.St} {H : Hp} {s : Shared} {i : Nat} {x : Str} {v : V} {u : Value} {Q : Unit → Shared → Prop} (I : Inv X pins σ H s) (hN : X.N.Nodup) (hi : X.N[i]? = some x) (hx : Loc X.env.scope x) (r : RelV v u)
    (h : ∀ s', NsB X x s s' → s.toks ≤ s'.toks → Inv X pins (σ.set i (some v)) H s' → Q () s') (hf : X.fn x = true ∨ X.env.scope.names.lookup x = some .local := by first | exact .inl rfl | exact .inr rfl | assumption) : wpAny M A (storeName X.env x u) Q E s := by
  obtain ⟨m, hn, _⟩ := id I.loc
  have hcls : (X.env.scope.kind == .class || (X.env.scope.kind == .module && X.env.locals != X.env.globals)) = false := by rw [I.ok.kind]; rfl
  rcases hx with hk | hk
  · refine wpAny_storeName_local hk hn (fun h' hn' hs => ?_) hcls
    refine h _ (fun m1 h1 => ⟨_, hn', fun z hz => ?_⟩) (Nat.le_succ _) (inv_store I hN hi hk r hn hn' hs)
    cases ns_uniq hn h1
    simp [hz]
  · have hfn : X.fn x = true := by
      rcases hf with z | z
      · exact z
      · rw [z] at hk; cases hk
    obtain ⟨c, hc⟩ := I.ok.has x (.inl hk)
    obtain ⟨w', z⟩ := I.cell x c hc
    refine wpAny_storeName_cell I.ok.kind hk hc z (fun h' hc' hs => ?_)
    exact h { s with heap := h' } (fun m1 h1 => ⟨m1, h1.sameBut hs (Ne.symm (I.cne x c hc)), fun _ _ => rfl⟩) (Nat.le_refl _) (inv_storeC (tk := s.toks) I hN hi hk hfn r hc hc' hs)
structure PSn (X : Cx) (y : Str) (st : Stmt) (t : TS) : Prop where
  run : ∀ (pins : List (Addr × Obj)) (s : Shared) (σ : L2.St) (H : Hp) (D : Ends), 1 ≤ s.toks → Inv X pins σ H s → t D σ H → wpAny (model X.prog X.w) X.A (exec st X.env) (fun f s' => NsB X y s s' ∧ SP X pins D f s') X.xe s
theorem n_set {i : Nat} {x : Str} {e : Expr} {te : TE} {pos pos' : Pos} (hN : X.N.Nodup) (hi : X.N[i]? = some x) (hx : Loc X.env.scope x) (he : PEn X e te) (hs : swapsWith e (some (.Name x pos')) pos.line X.env = pure false := by rfl) (hf : X.fn x = true ∨ X.env.scope.names.lookup x = some .local := by first | exact .inl rfl | exact .inr rfl | assumption) :
    PSn X x (.Assign [.Name x pos'] e pos) (tAsg te (gName i)) := by
  refine ⟨fun pins s σ H D h1 I h => ?_⟩
  refine wpAny_Assign_Name (thn (he.run pins s σ H _ h1 I h) fun v s1 ⟨k1, y, H1, I1, r1, q1⟩ => ?_) hs
  exact n_store I1 hN hi hx r1 (fun s2 k2 _ I2 => ⟨(NsK.but k1).trans k2, _, H1, I2, q1⟩) hf
theorem lc_coreN {pins : List (Addr × Obj)} {s : Shared} {σ : L2.St} {H : Hp} {Q : VK} {elt tg iter : Expr} {ifs : List Expr} {scope : Scope} {own : List (Str × Nat)} {pos pos' : Pos} {wi : TI} {g : TG} {tt : TT} {te : TE} {use : Option (Value → Sem Unit)} {Qf : Value → Shared → Prop}
    (hc : X.calm = true) (es : X.stack = X.env :: X.outer) (ef : X.env.frame = some X.env.locals) (tk : Takes X fun c d _ H => E c d H) (nd : X.N.Nodup) (h1 : 1 ≤ s.toks) (I : Inv X pins σ H s) (hi : PIn X tg iter wi) (ok : BlkOk X.N X.env.scope scope own)
    (hg : ∀ s H C cl fp xe, PG (bX X scope s H C cl fp xe) tg g) (ht : ∀ s H C cl fp xe, Takes (bX X scope s H C cl fp xe) (fun c d _ H => E c d H) → PTs (bX X scope s H C cl fp xe) ifs tt)
    (he : ∀ s H C cl fp xe, Takes (bX X scope s H C cl fp xe) (fun c d _ H => E c d H) → PE (bX X scope s H C cl fp xe) elt te) (hs : ∀ x, foldedSetIterable iter X.env x = pure x) (h : tLc wi g tt te (own.map (·.2)) σ H Q)
    (hRR : ∀ D C s' m H', NsK X s s' → Inv X pins σ H' s' → Q (.ref D) H' → s'.heap.Ns C m → FpOk X pins H' C → compPost (model X.prog X.w) X.A X.xe use Qf (.ref D) C (.ok .next) s') :
    wpAny (model X.prog X.w) X.A (comprehension (.ListComp elt [⟨tg, iter, ifs, 0⟩] scope pos) scope X.env pos' (newList []) false (eval iter X.env) use) Qf X.xe s := by
  have fre : ∀ y ∈ scope.names, y.2 = .free → ∃ c, X.env.cells.lookup y.1 = some c := fun y hy e => (ok.free y hy e).elim (fun k => I.ok.has _ (.inl k)) fun k => I.ok.has _ (.inr k)
  refine comp_free (use := use) rfl hs (closure_ok fre) ok.kind (fun y hy e => by rw [ok.uniq y hy, e]) (thn (hi.run pins s σ H _ h1 I h) fun xv s1 hx => thn hx fun itv s2 ⟨kn, it, fp, tn, J, H2, e, I2, T, st2, f2, q⟩ => ?_)
  subst e
  refine wpAny_newObj_type (newEnv_comp ?_) (by show 0 ≤ sizeLine; decide)
  generalize hD : s2.heap.objs.size = D
  obtain ⟨W, ⟨m0, w0⟩, turn⟩ := q D (I2.hok.fresh (Nat.le_of_eq hD))
  generalize e3 : ({ s2 with heap := s2.heap.push { cls := .type "list", data := .seq ([] : List Value).toArray } } : Shared) = s3
  have h3 : s3.heap = s2.heap.push { cls := .type "list", data := .seq ([] : List Value).toArray } := by rw [← e3]
  have I3 : Inv X pins σ (upd H2 D (.lst [])) s3 := by
    subst e3
    refine I2.laid (o := .lst []) (t' := s2.toks) (fun b o e => Heap.get?_push_of_some _ e) (Nat.le_of_eq hD) (show ObjOk X.prog X.w _ _ D (.lst []) from ⟨Nat.zero_le _, [], 0, .nil, by rw [← hD]; exact Heap.get?_push_size _ rfl⟩)
  have f3 : ∀ b ∈ fp, FpOk X pins (upd H2 D (.lst [])) b ∧ b < s3.heap.objs.size := fun b hb => by
    obtain ⟨o, e, _⟩ := T.obj _ _ st2 b hb
    have lt := Heap.lt_size e
    exact ⟨⟨by rw [upd_ne (by rw [← hD]; exact Nat.ne_of_lt lt)]; exact (f2 b hb).1, (f2 b hb).2⟩, by rw [h3, Heap.size_push]; exact Nat.lt_succ_of_lt lt⟩
  have st3 : tn 0 s3.heap := T.keep _ _ _ st2 fun b _ o e => by rw [h3]; exact Heap.get?_push_of_some _ e
  have I4 := block_start I3 ok nd f3
  generalize hcl : cellsFrom (s3.heap.objs.size + 1) scope.names (cloFrom X.env.cells scope.names []) = cl at I4
  show codeAny _ _ (.compStart (.ListComp elt [⟨tg, iter, ifs, 0⟩] scope pos) 0 (.ref it) (.ref D) (compEnvC scope cl s3.heap.objs.size X.env)) (endX (model X.prog X.w) X.A X.xe use Qf (.ref D) s3.heap.objs.size X.env.frame) { s3 with heap := pushCells (s3.heap.push { cls := .type "dict", data := .dict #[] }) scope.names }
  have cL : (compEnvC scope cl s3.heap.objs.size X.env).locals = s3.heap.objs.size := rfl
  have cF : (compEnvC scope cl s3.heap.objs.size X.env).frame = X.env.frame := rfl
  have pg := fun xe => hg s3 (upd H2 D (.lst [])) s3.heap.objs.size cl fp xe
  have pt := fun xe => ht s3 (upd H2 D (.lst [])) s3.heap.objs.size cl fp xe
  have pe := fun xe => he s3 (upd H2 D (.lst [])) s3.heap.objs.size cl fp xe
  have n0 : ∀ b ∈ fp, (upd H2 D (.lst [])) b = none := fun b hb => (f3 b hb).1.1
  unfold bX at pg pt pe
  generalize compEnvC scope cl s3.heap.objs.size X.env = ce at I4 pg pt pe cL cF ⊢
  generalize upd H2 D (.lst []) = H3 at I3 I4 pg pt pe w0 n0 f3
  have tkB := fun own => blk_takes (own := own) (use := use) (Qf := Qf) (acc := .ref D) (scope := scope) es ef tk I3 f3 cL cF
  have tkB := tkB []
  have pg := pg (notedBy (model X.prog X.w) X.A ce fun e s' => endX (model X.prog X.w) X.A X.xe use Qf (.ref D) s3.heap.objs.size X.env.frame (.error e) s')
  have pt := pt _ tkB
  have pe := pe _ tkB
  generalize e4 : ({ s3 with heap := pushCells (s3.heap.push { cls := .type "dict", data := .dict #[] }) scope.names } : Shared) = s4 at I4 ⊢
  have st4 : tn 0 s4.heap := T.keep _ _ _ st3 fun b _ o e => by rw [← e4]; exact pushCells_keeps _ _ _ _ (Heap.get?_push_of_some _ e)
  have stat : ∀ {σ' : L2.St} {H' : Hp} {s' : Shared}, Inv (X.blk s3 H3 scope ce fp) [] σ' H' s' → (∀ b ∈ fp, H' b = none) → ∀ b ∈ fp, FpOk (X.blk s3 H3 scope ce fp) [] H' b := fun {σ' H' s'} I' hn b hb =>
    ⟨hn b hb, (I'.ok.exf b hb).1, I'.ok.exfs b hb, .inl hb, fun x c e => (I'.ok.exf b hb).2 x c e, fun p hp => absurd (show p ∈ ([] : List (Addr × Obj)) ++ [] from hp) (by simp)⟩
  have loop : codeAny (model X.prog X.w) X.A (.compLoop (.ListComp elt [⟨tg, iter, ifs, 0⟩] scope pos) 0 (.ref it) (.ref D) ce) (endX (model X.prog X.w) X.A X.xe use Qf (.ref D) s3.heap.objs.size X.env.frame) s4 := by
    refine compLoop_any (fun n s' => ∃ i H', Inv (X.blk s3 H3 scope ce fp) [] (wipe σ (own.map (·.2))) H' s' ∧ tn i s'.heap ∧ (∀ b ∈ fp, H' b = none) ∧ W i n H') ?_ m0 ⟨0, H3, I4, st4, n0, w0⟩
    rintro n s5 ⟨i, H5, I5, st5, n5, w5⟩
    rcases turn i n H5 w5 with ⟨stop, qq⟩ | ⟨go, Nx, hNx, step⟩
    · refine thnF (T.done (X.blk s3 H3 scope ce fp) rfl rfl rfl hc i [] s5 _ H5 (fun _ _ => False) I5 (stat I5 n5) st5 stop) fun r s6 ⟨hr, I6⟩ => ?_
      subst hr
      have I7 : Inv X pins σ H5 s6 := I3.call' (ch := fp) I6.os I6.base I6.hok I6.bare fun b hb => ⟨(f3 b hb).1.2.2.2.1, (f3 b hb).1.2.1, (f3 b hb).1.2.2.2.2.1, (f3 b hb).1.2.2.2.2.2⟩
      have nC : H5 s3.heap.objs.size = none := cL ▸ (I6.free : H5 ce.locals = none)
      obtain ⟨m, hn, _⟩ := I6.loc
      have k3 : NsK X s2 s3 := NsK.keep fun b o e => by rw [h3]; exact Heap.get?_push_of_some _ e
      have k6 : NsK X s3 s6 := NsK.un (s' := s6) I3 I6.base fun hb => (f3 _ hb).1.2.1 rfl
      exact hRR D s3.heap.objs.size s6 m H5 ((kn.trans k3).trans k6) I7 qq (cL ▸ (hn : s6.heap.Ns ce.locals m)) (I3.fpOk (Nat.le_refl _) nC)
    · refine thnF (T.item (X.blk s3 H3 scope ce fp) rfl rfl rfl hc i [] s5 _ H5 (fun _ _ => False) I5 (stat I5 n5) st5 go) fun r s6 ⟨u, hr, h6⟩ => ?_
      subst hr
      refine thnF h6 fun _ s7 ⟨x, H7, I7, r7, y7, st7, n7⟩ => ?_
      refine thn (pg.run _ s7 _ H7 x u _ ((I7.pinned (stat I7 n7) (T.obj _ _ st7)).wish _) r7 (step x H7 y7)) fun _ s8 ⟨σ8, H8, I8, hw8, q8⟩ => ?_
      refine thn (pt.run _ s8 σ8 H8 _ I8 q8) fun b s9 ⟨H9, I9, q9⟩ => ?_
      have fin : ∀ {s' : Shared} {H' : Hp}, Inv (X.blk s3 H3 scope ce fp) ([] ++ pinsAt fp s7.heap) σ8 H' s' → Nx H' → ∃ m, m < n ∧ ∃ i H', Inv (X.blk s3 H3 scope ce fp) [] (wipe σ (own.map (·.2))) H' s' ∧ tn i s'.heap ∧ (∀ b ∈ fp, H' b = none) ∧ W i m H' := fun {s' H'} I' nx => by
        obtain ⟨m', hm, w'⟩ := hNx H' nx
        have pn : ∀ b ∈ fp, ∀ o, s7.heap.get? b = some o → s'.heap.get? b = some o ∧ H' b = none := fun b hb o e => (I'.pin (b, o) (List.mem_append_right _ (List.mem_append_right _ (mem_pinsAt hb e)))).imp id And.left
        refine ⟨m', hm, i + 1, H', (I'.unpinned (pins := [])).weak (by rw [← hw8, wipe_length]) (fun j v e => by rw [← hw8] at e; exact (wipe_some e).1), T.keep _ _ _ st7 fun b hb o e => (pn b hb o e).1, fun b hb => ?_, w'⟩
        obtain ⟨o, e, _⟩ := T.obj _ _ st7 b hb
        exact (pn b hb o e).2
      cases b
      · exact fin I9.unwish q9
      · refine thn (pe.run _ s9 σ8 H9 _ I9 q9) fun z s10 ⟨yv, H10, I10, r10, acc, hD10, hz10, nx⟩ => ?_
        exact app_ok (X := (X.blk s3 H3 scope ce fp)) I10.unwish hD10 hz10 r10 fun s11 I11 => fin I11 nx
  exact codeAny_compStart_list loop (T.self X.A 0 _ _ _ st4 loop)
theorem n_setLc {i : Nat} {y : Str} {py : Pos} {elt tg iter : Expr} {ifs : List Expr} {scope : Scope} {own : List (Str × Nat)} {pos spos : Pos} {wi : TI} {g : TG} {tt : TT} {te : TE} (hc : X.calm = true) (es : X.stack = X.env :: X.outer) (ef : X.env.frame = some X.env.locals) (tk : Takes X fun c d _ H => E c d H) (nd : X.N.Nodup) (hy : X.N[i]? = some y) (yl : X.env.scope.names.lookup y = some .local)
    (sw : swapsWith (.ListComp elt [⟨tg, iter, ifs, 0⟩] scope pos) (some (.Name y py)) spos.line X.env = pure true) (hi : PIn X tg iter wi) (ok : BlkOk X.N X.env.scope scope own)
    (hg : ∀ s H C cl fp xe, PG (bX X scope s H C cl fp xe) tg g) (ht : ∀ s H C cl fp xe, Takes (bX X scope s H C cl fp xe) (fun c d _ H => E c d H) → PTs (bX X scope s H C cl fp xe) ifs tt)
    (he : ∀ s H C cl fp xe, Takes (bX X scope s H C cl fp xe) (fun c d _ H => E c d H) → PE (bX X scope s H C cl fp xe) elt te) (hs : ∀ x, foldedSetIterable iter X.env x = pure x := by intro _; rfl) :
    PSn X y (.Assign [.Name y py] (.ListComp elt [⟨tg, iter, ifs, 0⟩] scope pos) spos) (tAsg (tLc wi g tt te (own.map (·.2))) (gName i)) := by
  refine ⟨fun pins s σ H D h1 I h => ?_⟩
  rw [exec_Assign_Name_used _ _ _ _ sw]
  refine wpAny_bind (wpAny_standAt (wpAny_bind ?_))
  have h : tLc wi g tt te (own.map (·.2)) σ H (fun x H1 => gName i x σ H1 D.nx) := h
  refine wpAny_bind (thn (lc_coreN (Qf := fun _ s' => NsB X y s s' ∧ SP X pins D .next s') (use := some (assign (.Name y py) X.env)) hc es ef tk nd h1 I hi ok hg ht he hs h fun L C s' m H' kn I' q hn f => ?_) fun _ s' hq => wpAny_pure (wpAny_pure hq))
  show wpAny _ _ (assign (.Name y py) X.env (.ref L)) _ _ _
  obtain ⟨m0, hm0, _⟩ := id I'.loc
  have hcls : (X.env.scope.kind == .class || (X.env.scope.kind == .module && X.env.locals != X.env.globals)) = false := by rw [I'.ok.kind]; rfl
  refine wpAny_assign_Name (wpAny_storeName_local yl hm0 (fun h' hn' sb => ?_) hcls)
  have nC : C ≠ X.env.locals := f.2.1
  have I2 := inv_store (v := V.ref L) (tk := s'.toks + 1) I' nd hy yl rfl hm0 hn' sb
  refine ⟨m, hn.sameBut sb nC, fun h3 sb3 => ⟨?_, _, H', I2.turned (t' := s'.toks + 1) (fun b o hb e => (sb3.2 b hb).trans e) f.1 f.2.1 f.2.2.2.1 f.2.2.2.2.1 f.2.2.2.2.2, q⟩⟩
  refine (NsK.but kn).trans fun m1 h1 => ⟨_, hn'.sameBut sb3 (Ne.symm nC), fun z hz => ?_⟩
  cases ns_uniq hm0 h1
  simp [hz]
end
section
variable {X : Cx} {tg l : Expr} {tl : TE}
end
end Kn
set_option Elab.async false
set_option maxRecDepth 100000
set_option maxHeartbeats 1000000
set_option linter.all false
set_option autoImplicit false
namespace Kn
open PySem L2 PySem.Spec PyProof.Rows
section
variable {X : Cx} {x y : Str} {s s' : Shared}
def Held (X : Cx) (x : Str) (s : Shared) : Prop := ∃ h t, t ≠ 0 ∧ t < s.toks ∧ RawAt X x (.str h t) s
theorem Held.one (h : Held X x s) : 1 ≤ s.toks := let ⟨_, t, _, ht, _⟩ := h; Nat.lt_of_le_of_lt (Nat.zero_le t) ht
theorem Held.but (h : Held X x s) (k : NsB X y s s') (n : (x == y) = false) (ht : s.toks ≤ s'.toks) : Held X x s' :=
  let ⟨c, t, h0, h1, r⟩ := h
  ⟨c, t, h0, Nat.lt_of_lt_of_le h1 ht, r.but k (by simpa using n)⟩
theorem Held.kept (h : Held X x s) (k : NsK X s s') (ht : s.toks ≤ s'.toks) : Held X x s' :=
  let ⟨c, t, h0, h1, r⟩ := h
  ⟨c, t, h0, Nat.lt_of_lt_of_le h1 ht, r.kept k⟩
theorem Held.is {pins : List (Addr × Obj)} {σ : L2.St} {H : Hp} {i : Nat} {c : Str} (h : Held X x s) (I : Inv X pins σ H s) (hN : X.N[i]? = some x) (hl : X.env.scope.names.lookup x = some .local) (hσ : σ[i]? = some (some (.str c))) :
    ∃ m t, s.heap.Ns X.env.locals m ∧ m x = some (.str c t) ∧ t ≠ 0 ∧ t < s.toks := by
  obtain ⟨d, t, h0, h1, m, hn, e⟩ := h
  obtain ⟨m', hn', hl'⟩ := I.loc
  cases ns_uniq hn hn'
  obtain ⟨u, r, q⟩ := hl' i x _ hN hσ (.inl hl)
  rcases q with ⟨_, q⟩ | ⟨q, _⟩
  · rw [e] at q
    cases q
    obtain ⟨t', e'⟩ := r
    injection e' with e1 e2
    subst e1
    exact ⟨m, t, hn, e, h0, h1⟩
  · unfold Env.kindOf at q
    rw [hl] at q
    rcases q with q | q <;> cases q
end
structure PSw (X : Cx) (x : Str) (st : List Stmt) (t : TS) : Prop where
  run : ∀ (pins : List (Addr × Obj)) (s : Shared) (σ : L2.St) (H : Hp) (D : Ends), Held X x s → Inv X pins σ H s → t D σ H → wpAny (model X.prog X.w) X.A (execs st X.env) (SP X pins D) X.xe s
structure PEw (X : Cx) (x : Str) (e : Expr) (t : TE) : Prop where
  run : ∀ (pins : List (Addr × Obj)) (s : Shared) (σ : L2.St) (H : Hp) (Q : VK), Held X x s → Inv X pins σ H s → t σ H Q → wpAny (model X.prog X.w) X.A (eval e X.env) (EP X pins σ Q) X.xe s
section
variable {X : Cx} {x y : Str} {st : Stmt} {rest : List Stmt} {t u : TS} {a b e : Expr} {es : List Expr} {ta tb te : TE} {tr : TA} {pos : Pos}
theorem w_cons (h1 : PSn X y st t) (h2 : PSw X x rest u) (n : (x == y) = false := by decide) : PSw X x (st :: rest) (tSeq t u) := by
  refine ⟨fun pins s σ H D hh I h => ?_⟩
  refine wpAny_execs_cons (wpAny_mono (PySem.wpAny_toks (h1.run pins s σ H { D with nx := u D } hh.one I h)) (fun f s1 q => ?_) fun _ _ z => z.2)
  obtain ⟨ht, kb, q⟩ := q
  cases f with
  | next =>
    obtain ⟨σ', H', I', q⟩ := q
    exact h2.run pins s1 σ' H' D (hh.but kb n ht) I' q
  | ret v => exact q
  | brk => exact q
  | cont => exact q
theorem w_op {op : Operator} {r : R2} (ho : OpR X (binaryOp op) r) (ha : PEn X a ta) (hb : PEw X x b tb) : PEw X x (.BinOp a op b pos) (tOp r ta tb) := by
  refine ⟨fun pins s σ H Q hh I h => wpAny_BinOp ?_⟩
  refine wpAny_mono (PySem.wpAny_toks (ha.run pins s σ H _ hh.one I h)) (fun v s1 ⟨ht, k1, z, H1, I1, r1, q1⟩ => ?_) fun _ _ z => z.2
  exact thn (hb.run pins s1 σ H1 _ (hh.kept k1 ht) I1 q1) fun u s2 ⟨y, H2, I2, r2, q2⟩ => ho pins s2 σ H2 z y v u Q I2 r1 r2 q2
theorem w_opl {op : Operator} {r : R2} (ho : OpR X (binaryOp op) r) (ha : PEw X x a ta) (hb : PE X b tb) : PEw X x (.BinOp a op b pos) (tOp r ta tb) := by
  refine ⟨fun pins s σ H Q hh I h => wpAny_BinOp ?_⟩
  refine thn (ha.run pins s σ H _ hh I h) fun v s1 ⟨z, H1, I1, r1, q1⟩ => ?_
  exact thn (hb.run pins s1 σ H1 _ I1 q1) fun u s2 ⟨y, H2, I2, r2, q2⟩ => ho pins s2 σ H2 z y v u Q I2 r1 r2 q2
theorem w_lst (ha : PEw X x e te) (hr : PA X es tr) (hs : starEach (e :: es) X.env = (false, eval e X.env) :: starEach es X.env := by rfl) : PEw X x (.List (e :: es) pos) (tLst (tCons te tr)) := by
  refine ⟨fun pins s σ H Q hh I hq => wpAny_List_spliced ?_⟩
  rw [hs]
  show wpAny _ _ (spliced ((false, eval e X.env) :: backTo pos (starEach es X.env))) _ _ s
  refine Calls.spliced_cons (thn (ha.run pins s σ H _ hh I hq) fun v s1 ⟨z, H1, I1, r1, q1⟩ => ?_)
  refine thn (hr.run pos pins s1 σ H1 _ I1 q1) fun us s2 ⟨xs, H2, I2, r2, hz, q⟩ => ?_
  have rr : Vals (z :: xs) (v :: us) := .cons r1 r2
  refine ⟨by rw [← rr.length]; exact hz, ?_⟩
  have hf : H2 s2.heap.objs.size = none := I2.hok.fresh (Nat.le_refl _)
  refine ⟨.ref s2.heap.objs.size, upd H2 s2.heap.objs.size (.lst (z :: xs)), I2.laid (t' := s2.toks) (fun b u e => Heap.get?_push_of_some _ e) (Nat.le_refl _) ?_, rfl, q _ hf⟩
  exact ⟨hz, v :: us, 0, rr, Heap.get?_push_size _ rfl⟩
def tReplH (ik ih : Nat) (c : Str) : TE := fun σ H Q => ∃ a h, σ[ik]? = some (some (.str a)) ∧ σ[ih]? = some (some (.str h)) ∧ h.length ≠ 0 ∧ c.length ≠ 0 ∧ h.length + c.length ≤ sizeLine ∧ a.length + (a.length + 1) * h.length ≤ 16777216 ∧ Q (.str (Txt.replace a (h ++ c) h)) H
theorem w_repl {ik ih : Nat} {kx c : Str} {j : Nat} {p1 p2 p3 cp bp apos : Pos} (hNk : X.N[ik]? = some kx) (hvk : Vis X.env.scope kx) (hNx : X.N[ih]? = some x) (hl : X.env.scope.names.lookup x = some .local)
    (hdk : (kx == ("__debug__" : Str)) = false := by decide) (hck : (kx == ("__classdict__" : Str)) = false := by decide) (hdx : (x == ("__debug__" : Str)) = false := by decide)
    (hst : starEach [.BinOp (.Name x p2) .Add (.Constant (.str c) j cp) bp, .Name x p3] X.env = [(false, eval (.BinOp (.Name x p2) .Add (.Constant (.str c) j cp) bp) X.env), (false, eval (.Name x p3) X.env)] := by rfl)
    (hbase : attributeBase (.Name kx p1) "replace" X.env (eval (.Name kx p1) X.env) = eval (.Name kx p1) X.env := by rfl) (hline : (apos.endLine == pos.line) = true := by rfl) :
    PEw X x (.Call (.Attribute (.Name kx p1) "replace" apos) [.BinOp (.Name x p2) .Add (.Constant (.str c) j cp) bp, .Name x p3] [] pos) (tReplH ik ih c) := by
  refine ⟨fun pins s σ H Q hh I h => ?_⟩
  obtain ⟨a, d, ha, hd, n1, n2, hz, hb, q⟩ := h
  obtain ⟨m, t, hn, hm, ht0, ht⟩ := hh.is I hNx hl hd
  refine PySem.Call_method2 hbase hst hline (raw_name hNk hvk I ha (fun v r => ?_) hdk hck)
  obtain ⟨tx, e⟩ := r
  subst e
  refine ⟨"str", _, PySem.F.plainAttrs_str, PySem.F.slot_str_replace, PySem.F.type_str_replace, typeIs_str _ _ _, (fun _ e => nomatch e), Calls.callWith_builtin rfl (Calls.evalArgs_plain (Calls.spliced_cons ?_))⟩
  refine wpAny_BinOp (wpAny_Name (wpAny_loadName_local I.ok.kind hl hn hm ?_) hdx)
  refine Calls.Constant_str (PySem.P.add_str ?_)
  have e1 : (d.length == 0) = false := by simpa using n1
  have e2 : (c.length == 0) = false := by simpa using n2
  rw [e1, e2]
  simp only [Bool.false_eq_true, if_false]
  refine ⟨by rw [Str.length_append]; exact hz, Calls.spliced_cons (wpAny_Name (wpAny_loadName_local I.ok.kind hl hn hm ?_) hdx)⟩
  refine Calls.spliced_nil ?_
  have e3 : (d ++ c == d) = false := by
    rw [beq_eq_false_iff_ne]
    intro z
    have := congrArg Str.length z
    rw [Str.length_append] at this
    omega
  exact PySem.SC.replace (by show s.toks + 1 ≠ 0; omega) ht0 (fun z => Nat.lt_irrefl t (Nat.lt_trans ht (by have z' : s.toks + 1 = t := z; rw [← z']; exact Nat.lt_succ_self _))) e3 hb fun t' k => ⟨.str (Txt.replace a (d ++ c) d), H, I.tok k, ⟨t', rfl⟩, q⟩
end
structure FnW (P : Program) (w : World) (K : PySem.W.Frag) (mg : Str → Option Value) (base : Heap) (CX : CXT) (k : Nat) (f : Addr) (fd : FuncData) (ps : List Str) (sp : Sp) : Prop where
  len : ∀ vs H Q E, sp vs H Q E → vs.length = ps.length
  run : ∀ (A : Around) (outer : List Env) (s : Shared) (H : Hp) (args : Args) (us : List Value) (vs : List V) (Q : VK) (E : XK) (c : Str) (t : Tok), us[0]? = some (.str c t) → t ≠ 0 → t < s.toks → Room k A → Env0 P w K mg base A outer s H → BindsTo s fd args (ps.zip us) → Vals vs us → sp vs H Q E →
    codeAny (model P w) A (.call (.ref f) args) (CR CX outer P w H s Q E) s
structure FxW (P : Program) (w : World) (K : PySem.W.Frag) (mg : Str → Option Value) (base : Heap) (CX : CXT) (x : Str) (k : Nat) (ps : List Str) (sp : Sp) : Prop where
  ex : ∃ (f : Addr) (fd : FuncData), FnW P w K mg base CX k f fd ps sp ∧ mg x = some (.ref f) ∧ PySem.W.keepIn K (.ref f) = true ∧ Binds K fd ps []
theorem fnw_of {CX : CXT} {P : Program} {w : World} {K : PySem.W.Frag} {mg : Str → Option Value} {base : Heap} {k : Nat} {f : Addr} {name qual : Str} {params : Arguments} {body : List Stmt} {scope : Scope} {dV kV doc pm cdv ct oc : Value} {an od : Option Addr}
    {osl : Array (Option Value)} {N ps : List Str} {x0 : Str} {sp : Sp} (lk : K.lookup f = some ⟨oc, od, .func (PySem.W.fnOf name qual params body scope dV kV doc pm an cdv ct), osl⟩) (hcd : PySem.W.codeIn K cdv qual = true) (S : FnScope N ps scope) (h0 : ps[0]? = some x0) (hk0 : scope.names.lookup x0 = some .local)
    (len : ∀ vs H Q E, sp vs H Q E → vs.length = ps.length)
    (hbody : ∀ (A : Around) (outer : List Env) (s : Shared) (H : Hp) (vs : List V) (Q : VK) (E : XK), Room k (A.deeper (envOfC qual scope s.heap.objs.size f cdv)) → sp vs H Q E →
      ∃ t, PSw (cxOf CX P w K mg base N qual scope f cdv A outer s H E) x0 body t ∧ t { nx := fun _ H' => Q .non H', rt := Q } (start N vs) H) :
    FnW P w K mg base CX (k + 1) f (PySem.W.fnOf name qual params body scope dV kV doc pm an cdv ct) ps sp := by
  refine ⟨len, fun A outer s H args us vs Q E c tk hu0 ht0 htk hr e0 hb r hsp => ?_⟩
  have hl := len _ _ _ _ hsp
  have KX : K.In s.heap := e0.mod.kin.keeps fun b o e => (e0.bs b o e).1
  have lim : s.heap.NoLimit := e0.mod.nolimit.keeps fun b o e => (e0.bs b o e).1
  have hkind : ∀ y ∈ ps.zip us, scope.names.lookup y.1 = some .local ∨ (scope.names.lookup y.1 = some .cell ∧ ((cellsFrom (s.heap.objs.size + 1) scope.names []).lookup y.1).isSome = true) := fun ⟨n, v⟩ hy => by
    rcases S.par n (List.of_mem_zip hy).1 with q | q
    · exact .inl q
    · exact .inr ⟨q, PySem.W.cellsFrom_some _ _ _ (.inl q)⟩
  refine codeAny_call_function hr.depth (KX _ _ lk) rfl S.co S.gen rfl (PySem.W.codeRec_of KX hcd) (hb _ _ _ _ ?_)
  refine PySem.wpAny_with_toks (n := s.toks) (Nat.le_refl _) (wpAny_newFunctionEnv_cells S.kind hkind fun env he s1 x hle => ?_)
  subst he
  refine ⟨lim.keeps x.toInCall.keep, codeAny_func ?_⟩
  obtain ⟨t, ht, hq⟩ := hbody A outer s H vs Q E (hr.deeper _) hsp
  have I : Inv (cxOf CX P w K mg base N qual scope f cdv A outer s H E) [] (start N vs) H s1 := inv_start S hr.hd e0 hl r x
  have ndP : ps.Nodup := by rw [← S.pre]; exact S.nd.sublist (List.take_sublist _ _)
  have hh : Held (cxOf CX P w K mg base N qual scope f cdv A outer s H E) x0 s1 := ⟨c, tk, ht0, Nat.lt_of_lt_of_le htk hle, _, x.toInCall.ns, bindL_get ndP h0 hu0 hk0⟩
  refine wpAny_mono (ht.run [] s1 (start N vs) H _ hh I hq) (fun fl s' hs => ?_) fun e s' hs => hs
  have fin : ∀ {σ' : L2.St} {H' : Hp} {v : V} {u : Value}, Inv (cxOf CX P w K mg base N qual scope f cdv A outer s H E) [] σ' H' s' → RelV v u → Q v H' → CE outer P w H s Q u s' :=
    fun {σ' H' v u} J rv q => ⟨v, H', J.os, J.bare, J.base, J.hok, rv, q⟩
  cases fl with
  | ret u =>
    obtain ⟨v, σ', H', J, rv, q⟩ := hs
    exact fin J rv q
  | next =>
    obtain ⟨σ', H', J, q⟩ := hs
    exact fin (v := V.non) (u := Value.none) J rfl q
  | brk =>
    obtain ⟨_, _, _, q⟩ := hs
    exact False.elim q
  | cont =>
    obtain ⟨_, _, _, q⟩ := hs
    exact False.elim q
theorem Fz.okDNW {P : Program} {w : World} {K : PySem.W.Frag} {mg : Str → Option Value} {base : Heap} {x x0 : Str} {st : Stmt} {ps N : List Str} {k : Nat} {Fs : FSpecN} (F : Fz K mg x st ps) (S : FnScope N ps (defScope st)) (h0 : ps[0]? = some x0) (hk0 : (defScope st).names.lookup x0 = some .local) (hl : ∀ ds W Q E, Fs ds W Q E → ds.length = ps.length)
    (hbody : ∀ (f : Addr) (cdv : Value) (A : Around) (outer : List Env) (s : Shared) (H : Hp) (E : XK) (e : Ent) (ds : List D) (Qd : List D → Wd → Prop) (Ed : Exn → Wd → Prop), Room k (A.deeper (PyProof.Rows.envOfC x (defScope st) s.heap.objs.size f cdv)) → WLk K e (fun c d _ H => E c d H) (fun x S => Ed x S.W) → Fs ds e.W Qd Ed →
      ∃ t td, PSw (cxOf (L2.CX P w) P w K mg base N x (defScope st) f cdv A outer s H E) x0 (defBody st) t ∧ SimZ K e t td ∧ td ⟨fun _ => False, fun _ _ => False, fun _ => False, fun _ => False, Qd⟩ (S0 N ds e.W)) : FxW P w K mg base (L2.CX P w) x (k + 1) ps (liftN K Fs) := by
  obtain ⟨f, fd, F1, m, b⟩ := F.ex
  refine ⟨f, fd, ?_, m, F1.kp, b⟩
  obtain ⟨oc, od, kV, doc, pm, an, cdv, ct, osl, rfl, lk, hcd⟩ := F1.ex
  refine fnw_of lk hcd S h0 hk0 (fun vs H Q E h => ?_) fun A outer s H vs Q E hr h => ?_
  · obtain ⟨U, W, ds, Qd, Ed, r, dv, hF, _⟩ := h
    rw [dv.len]; exact hl _ _ _ _ hF
  · obtain ⟨U, W, ds, Qd, Ed, r, dv, hF, kq, ke⟩ := h
    obtain ⟨t, td, hp, hs, ht⟩ := hbody f cdv A outer s H E ⟨U, W, H⟩ ds Qd Ed hr ⟨fun x S σ H' U' c d hw ru ex => ke x S.W c d H' U' hw ru.wo ru.fr ex⟩ hF
    refine ⟨t, hp, hs.run (start N vs) H (S0 N ds W) _ _ ⟨U, RU.start r dv⟩ ht ⟨fun S' σ' H' q _ => q.elim, fun d S' σ' v H' q _ => q.elim, fun _ _ _ q => q.elim, fun _ _ _ q => q.elim, fun es S' σ' l H' q x' => ?_⟩⟩
    obtain ⟨U', xs, x', ow, ns, nt, hl', dv'⟩ := x'.ex
    exact kq _ _ l xs _ U' q x'.wo x'.fr ow.u ow.e0 ow.tp ow.w hl' dv'
section
variable {X : Cx} {k i : Nat} {ps : List Str} {sp : Sp} {f x : Str} {p px pos : Pos} {es : List Expr} {t : TA}
theorem w_call {W : WX} (tk : Takes X W) (F : FxW X.prog X.w X.K X.mg X.base (L2.CX X.prog X.w) f k ps sp) (hr : Room k X.A) (hg : Gl X f) (hN : X.N[i]? = some x) (hl : X.env.scope.names.lookup x = some .local) (ha : PA X es t)
    (hdb : (f == ("__debug__" : Str)) = false := by decide) (hdx : (x == ("__debug__" : Str)) = false := by decide)
    (he : starEach (.Name x px :: es) X.env = (false, eval (.Name x px) X.env) :: starEach es X.env := by rfl) (hpl : (backTo pos (starEach es X.env)).any (·.1) = false := by rfl) :
    PEw X x (.Call (.Name f p) (.Name x px :: es) [] pos) (tCallS sp (WE W) (tCons (tVar i) t)) := by
  obtain ⟨a, fd, F1, m, kp, b⟩ := F.ex
  refine ⟨fun pins s σ H Q hh I h => wpAny_Call_Name_kw (ld_glob I hg m ?_ hdb)⟩
  obtain ⟨v, hσ, h⟩ := h
  obtain ⟨c, t0, ht0, ht, mm, hn, hm⟩ := hh
  have rv : RelV v (.str c t0) := by
    obtain ⟨m', hn', hl'⟩ := I.loc
    cases ns_uniq hn hn'
    obtain ⟨u, r, q⟩ := hl' i x _ hN hσ (.inl hl)
    rcases q with ⟨_, q⟩ | ⟨q, _⟩
    · rw [hm] at q
      cases q
      exact r
    · unfold Env.kindOf at q
      rw [hl] at q
      rcases q with q | q <;> cases q
  refine PySem.W.callWith_K (h₀ := X.base) I.ok.mod.kin kp ?_ he hpl
  rw [he]
  show wpAny _ _ (spliced ((false, eval (.Name x px) X.env) :: backTo pos (starEach es X.env))) _ _ s
  refine Calls.spliced_cons (wpAny_Name (wpAny_loadName_local I.ok.kind hl hn hm ?_) hdx)
  refine wpAny_mono (PySem.wpAny_toks (ha.run pos pins s σ H _ I h)) (fun us s1 ⟨hle, vs, H1, I1, r, q⟩ => ⟨I1.kIn, ?_⟩) fun _ _ z => z.2
  have rr : Vals (v :: vs) (.str c t0 :: us) := .cons rv r
  have hlen : (Value.str c t0 :: us).length = ps.length := by rw [← rr.length]; exact F1.len _ _ _ _ q
  have hb : BindsTo s1 fd ⟨.str c t0 :: us, []⟩ (ps.zip (.str c t0 :: us)) := by
    have := b s1 (.str c t0 :: us) I1.kIn (by rw [List.append_nil]; exact hlen)
    rwa [List.append_nil] at this
  refine wpAny_call (codeAny_mono (F1.run X.A X.stack s1 H1 ⟨.str c t0 :: us, []⟩ (.str c t0 :: us) (v :: vs) Q _ c t0 rfl ht0 (Nat.lt_of_lt_of_le ht hle) hr I1.env0 hb rr q) fun r s' hq => ?_)
  cases r with
  | error e => exact passAt tk σ pins H1 s1 e s' I1 hq
  | ok fl =>
    cases fl with
    | ret u => exact I1.after hq
    | next => exact False.elim hq
    | brk => exact False.elim hq
    | cont => exact False.elim hq
end
end Kn
set_option Elab.async false
set_option maxRecDepth 100000
set_option maxHeartbeats 1000000
set_option linter.all false
set_option autoImplicit false
namespace Kn
open PySem L2 PySem.Spec PyProof.Rows
theorem opn_tup {X : Cx} (K : PySem.W.Frag) (hK : X.K = K := by rfl) : OpN X (binaryOp .Add) (rCatA K) := by
  subst hK
  intro pins s σ H x y v u Q I rx ry h
  obtain ⟨a, b, xs, ys, rfl, rfl, ha, hb, hz, q0, q1, q2⟩ := h
  cases rx
  cases ry
  obtain ⟨its, r1, p1, _⟩ := I.tuple ha
  obtain ⟨its2, r2, p2, _⟩ := I.tuple hb
  cases r1 with
  | nil => exact L2.cat_tup0 p1 p2 ⟨NsK.refl, .ref b, H, I, rfl, q0 rfl⟩
  | cons ra rr =>
    have l1 := rr.length
    have l2 := r2.length
    refine HT.cat_tup p1 p2 (by simp) (fun e => ?_) (fun e => ?_) (by simp at hz ⊢; omega)
    · subst e
      cases r2
      exact ⟨NsK.refl, .ref a, H, I, rfl, q1 (by simp) rfl⟩
    · have ne : ys ≠ [] := fun z => e (by subst z; cases r2; rfl)
      have hf : H s.heap.objs.size = none := I.hok.fresh (Nat.le_refl _)
      refine ⟨NsK.keep fun _ _ e => Heap.get?_push_of_some _ e, .ref s.heap.objs.size, _, I.laid (t' := s.toks) (fun b u e => Heap.get?_push_of_some _ e) (Nat.le_refl _) ?_, rfl, q2 (by simp) ne _ hf⟩
      have rr2 := Vals.append (.cons ra rr) r2
      exact ⟨by rw [List.length_append]; exact hz, _, rr2, ⟨_, Heap.get?_push_size _ rfl, rfl, _, rfl⟩⟩
theorem opn_addU {X : Cx} (K : PySem.W.Frag) (hK : X.K = K := by rfl) : OpN X (binaryOp .Add) (rAddU K) := OpN.or opn_int (OpN.or opn_str (OpN.or opn_lst (opn_tup K hK)))
section
variable {X : Cx} {tg l : Expr} {tl : TE}
theorem n_any (K : PySem.W.Frag) (hl : PEn X l tl) (hK : X.K = K := by rfl) : PIn X tg l (iAny K tl) := by
  subst hK
  refine ⟨fun pins s σ H R h1 I hw => ?_⟩
  refine thn (hl.run pins s σ H _ h1 I hw) fun v s1 ⟨k1, x, H1, J, r1, q1⟩ => ?_
  have kk : ∀ {o : Obj} {tk : Nat}, NsK X s { s1 with heap := s1.heap.push o, toks := tk } := k1.trans (NsK.keep fun _ _ e => Heap.get?_push_of_some _ e)
  rcases q1 with ⟨a, rfl, ⟨⟨xs, hx⟩, q⟩ | ⟨⟨xs, hx⟩, q⟩⟩ | ⟨z, rfl, q⟩ | ⟨d, kvs, rfl, ⟨o, hd, q⟩ | ⟨hd, q⟩⟩
  · cases r1
    have fp : ∀ b ∈ [s1.heap.objs.size], FpOk X pins H1 b := fun b hb => by
      rw [List.mem_singleton.mp hb]
      exact J.fpOk (Nat.le_refl _) (J.hok.fresh (Nat.le_refl _))
    obtain ⟨its, _, p, _⟩ := J.list hx
    exact wpAny_pyIter_list p.isList ⟨kk (tk := s1.toks), _, _, _, _, H1, rfl, J.kept (t' := s1.toks) fun _ _ e => Heap.get?_push_of_some _ e, turn_list a _, ⟨_, Heap.get?_push_size _ rfl, rfl, rfl⟩, fp, q⟩
  · cases r1
    have fp : ∀ b ∈ [s1.heap.objs.size], FpOk X pins H1 b := fun b hb => by
      rw [List.mem_singleton.mp hb]
      exact J.fpOk (Nat.le_refl _) (J.hok.fresh (Nat.le_refl _))
    obtain ⟨its, _, p, _⟩ := J.tuple hx
    exact wpAny_pyIter_tuple (show s1.heap.IsTuple a its.toArray from p) ⟨kk (tk := s1.toks), _, _, _, _, H1, rfl, J.kept (t' := s1.toks) fun _ _ e => Heap.get?_push_of_some _ e, turn_tuple a _, ⟨_, Heap.get?_push_size _ rfl, rfl, rfl⟩, fp, q⟩
  · obtain ⟨t, rfl⟩ := r1
    cases ha : z.cps.all (· < 128)
    · exact PySem.wpAny_pyIter_wide ha ⟨kk (tk := s1.toks), pi_one (tk := s1.toks) J _ (turn_str _ z t "str_iterator" (.inr rfl)) ⟨_, Heap.get?_push_size _ rfl, rfl, rfl⟩ q⟩
    · exact PySem.wpAny_pyIter_ascii ha ⟨kk (tk := s1.toks), pi_one (tk := s1.toks) J _ (turn_str _ z t "str_ascii_iterator" (.inl rfl)) ⟨_, Heap.get?_push_size _ rfl, rfl, rfl⟩ q⟩
  · obtain rfl : v = Value.ref d := r1
    obtain ⟨hs, hgd, hx, es, ep, vs, hdt, hsz, kv, hm⟩ := J.frzK hd
    refine iter_keys hs hgd hx hdt ⟨kk (tk := s1.toks), pi_one (tk := s1.toks) J _ (turn_keys _ hdt) ⟨_, Heap.get?_push_size _ rfl, rfl, ?_⟩ q⟩
    rw [hsz] <;> rfl
  · obtain rfl : v = Value.ref d := r1
    obtain ⟨od, J⟩ := J.lock hd trivial
    have q := q od
    obtain ⟨hs, hgd, hx, es, ep, vs, hdt, hsz, kv, hm⟩ := J.frzK (upd_same (H := H1))
    refine iter_keys hs hgd hx hdt ⟨kk (tk := s1.toks), pi_one (tk := s1.toks) J _ (turn_keys _ hdt) ⟨_, Heap.get?_push_size _ rfl, rfl, ?_⟩ q⟩
    rw [hsz] <;> rfl
theorem n_rng1 {a : Expr} {ta : TA} {p pos : Pos} (hg : Gl X "range") (hm : X.mg "range" = none) (ha : PAn X [a] ta) (hs : starEach [a] X.env = [(false, eval a X.env)] := by rfl) : PIn X tg (.Call (.Name "range" p) [a] [] pos) (iRng1 ta) := by
  refine ⟨fun pins s σ H R h1 I h => ?_⟩
  refine Call_ (ld_blt I hg hm boot_range (PyProof.Rows.callWith_type1 (thn (ha.run pos pins s σ H _ h1 I h) fun us s1 ⟨k1, vs, H1, I1, r1, q1⟩ => ?_) hs rfl))
  obtain ⟨j, e, q1, q2, q⟩ := q1
  subst e
  cases r1 with
  | cons r rr =>
    cases rr
    obtain ⟨t, rfl⟩ := r
    refine call_range_1 ?_
    refine wpAny_pyIter_range (IsRange.new ..) (small_one (by omega) (by omega) q1 q2) ?_
    refine ⟨k1.trans (NsK.keep fun b o e => Heap.get?_push_of_some _ (Heap.get?_push_of_some _ e)), ?_⟩
    refine pi_one (tk := s1.toks + 1 + 1) (I1.kept (t' := s1.toks + 1 + 1) fun b o e => Heap.get?_push_of_some _ e) _ (turn_range _ 0 j.toNat) ?_ q
    have e1 : (0 : Int) + ((0 : Nat) : Int) * 1 = 0 := by simp
    have e2 : ((j.toNat : Nat) : Int) - ((0 : Nat) : Int) = Builtin.Range.rangeSize 0 j 1 := by rw [rangeSize_one]; split <;> omega
    show IsRangeIter _ _ ((0 : Int) + ((0 : Nat) : Int) * 1) (((j.toNat : Nat) : Int) - ((0 : Nat) : Int)) 1
    rw [e1, e2]
    exact Heap.get?_push_size _ rfl
end
structure PAk (X : Cx) (es : List Expr) (t : TA) : Prop where
  run : ∀ (pos : Pos) (pins : List (Addr × Obj)) (s : Shared) (σ : L2.St) (H : Hp) (Q : List V → Hp → Prop), Inv X pins σ H s → t σ H Q → wpAny (model X.prog X.w) X.A (spliced (backTo pos (starEach es X.env))) (fun us s' => 1 ≤ s'.toks ∧ AP X pins σ Q us s') X.xe s
section
variable {X : Cx} {x y f : Str} {rest : List Stmt} {t u : TS} {a b : Str} {e c : Expr} {es : List Expr} {te tc : TE} {tr : TA} {p pos pos' : Pos} {i k : Nat} {ps : List Str} {sp : Sp}
theorem k_int {z : Int} {j : Nat} (hr : PA X es tr) (hs : starEach (.Constant (.int z) j p :: es) X.env = (false, eval (.Constant (.int z) j p) X.env) :: starEach es X.env := by rfl) : PAk X (.Constant (.int z) j p :: es) (tCons (tC (.int z)) tr) := by
  refine ⟨fun pos pins s σ H Q I h => ?_⟩
  rw [hs]
  show wpAny _ _ (spliced ((false, eval (.Constant (.int z) j p) X.env) :: backTo pos (starEach es X.env))) _ _ s
  refine Calls.spliced_cons (wpAny_Constant_int ?_)
  refine wpAny_mono (PySem.wpAny_toks (hr.run pos pins { s with toks := s.toks + 1 } σ H _ (I.tok _) h)) (fun us s2 ⟨ht, xs, H2, I2, r2, q2⟩ => ?_) fun _ _ z => z.2
  have ht : s.toks + 1 ≤ s2.toks := ht
  exact ⟨by omega, .int z :: xs, H2, I2, .cons ⟨_, rfl⟩ r2, q2⟩
theorem k_cons (ha : PE X e te) (hr : PAk X es tr) (hs : starEach (e :: es) X.env = (false, eval e X.env) :: starEach es X.env := by rfl) : PAk X (e :: es) (tCons te tr) := by
  refine ⟨fun pos pins s σ H Q I h => ?_⟩
  rw [hs]
  show wpAny _ _ (spliced ((false, eval e X.env) :: backTo pos (starEach es X.env))) _ _ s
  refine Calls.spliced_cons (thn (ha.run pins s σ H _ I h) fun u s1 ⟨z, H1, I1, r1, q1⟩ => ?_)
  exact thn (hr.run pos pins s1 σ H1 _ I1 q1) fun us s2 ⟨ht, xs, H2, I2, r2, q2⟩ => ⟨ht, z :: xs, H2, I2, .cons r1 r2, q2⟩
theorem k_first {W : WX} (tk : Takes X W) (F : Fx X.prog X.w X.K X.mg X.base (L2.CX X.prog X.w) f k ps sp) (hr : Room k X.A) (hg : Gl X f) (ha : PAk X (e :: es) tr) (hN : X.N.Nodup) (hi : X.N[i]? = some y) (hx : Loc X.env.scope y) (h2 : PSsT X rest u)
    (hdb : (f == ("__debug__" : Str)) = false := by decide) (he : starEach (e :: es) X.env = (false, eval e X.env) :: starEach es X.env := by rfl) (hpl : (backTo pos (starEach es X.env)).any (·.1) = false := by rfl)
    {spos : Pos} (hs : swapsWith (.Call (.Name f p) (e :: es) [] pos) (some (.Name y pos')) spos.line X.env = pure false := by rfl) (hf : X.fn y = true ∨ X.env.scope.names.lookup y = some .local := by first | exact .inl rfl | exact .inr rfl | assumption) :
    PSs X (.Assign [.Name y pos'] (.Call (.Name f p) (e :: es) [] pos) spos :: rest) (tSeq (tAsg (tCallS sp (WE W) tr) (gName i)) u) := by
  obtain ⟨a, fd, F1, m, kp, b⟩ := F.ex
  refine ⟨fun pins s σ H D I h => wpAny_execs_cons (wpAny_Assign_Name (wpAny_Call_Name_kw (ld_glob I hg m ?_ hdb)) hs)⟩
  refine PySem.W.callWith_K (h₀ := X.base) I.ok.mod.kin kp (thn (ha.run pos pins s σ H _ I h) fun us s1 ⟨ht, vs, H1, I1, r, q⟩ => ⟨I1.kIn, ?_⟩) he hpl
  have hl : us.length = ps.length := by rw [← r.length]; exact F1.len _ _ _ _ q
  have hb : BindsTo s1 fd ⟨us, []⟩ (ps.zip us) := by
    have := b s1 us I1.kIn (by rw [List.append_nil]; exact hl)
    rwa [List.append_nil] at this
  refine wpAny_call (codeAny_mono (codeAny_toks_of (n := s1.toks) (Nat.le_refl _) (F1.run X.A X.stack s1 H1 ⟨us, []⟩ us vs _ _ hr I1.env0 hb r q)) fun r s' ⟨hle, hq⟩ => ?_)
  cases r with
  | error e => exact passAt tk σ pins H1 s1 e s' I1 hq
  | ok fl =>
    cases fl with
    | ret u =>
      obtain ⟨v, H2, I2, r2, q2⟩ := I1.after hq
      exact n_store I2 hN hi hx r2 (fun s3 _ h3 I3 => h2 pins s3 _ H2 D (Nat.le_trans ht (Nat.le_trans hle h3)) I3 q2) hf
    | next => exact False.elim hq
    | brk => exact False.elim hq
    | cont => exact False.elim hq
def tPick (i : Nat) (a b : Str) (tc : TE) : TS := fun D σ H => tc σ H fun v H1 => ∃ r : Int, v = .int r ∧ ((r = 0 ∧ D.nx (σ.set i (some (.str a))) H1) ∨ (r = 1 ∧ D.nx (σ.set i (some (.str b))) H1))
theorem w_pick {j0 j1 : Nat} {c0 c1 lp sp' spos : Pos} (hN : X.N.Nodup) (hi : X.N[i]? = some x) (hk : X.env.scope.names.lookup x = some .local) (hc : PE X c tc) (hp : PlainIx c) (h2 : PSw X x rest u)
    (hst : starEach [.Constant (.str a) j0 c0, .Constant (.str b) j1 c1] X.env = [(false, eval (.Constant (.str a) j0 c0) X.env), (false, eval (.Constant (.str b) j1 c1) X.env)] := by rfl)
    (hs : swapsWith (.Subscript (.List [.Constant (.str a) j0 c0, .Constant (.str b) j1 c1] lp) c sp') (some (.Name x pos')) spos.line X.env = pure false := by rfl) :
    PSsT X (.Assign [.Name x pos'] (.Subscript (.List [.Constant (.str a) j0 c0, .Constant (.str b) j1 c1] lp) c sp') spos :: rest) (tSeq (tPick i a b tc) u) := by
  intro pins s σ H D h1 I h
  refine wpAny_execs_cons (wpAny_Assign_Name (Subscript_ (wpAny_List_spliced ?_)) hs)
  rw [hst]
  show wpAny _ _ (spliced [(false, eval (.Constant (.str a) j0 c0) X.env), (false, eval (.Constant (.str b) j1 c1) X.env)]) _ _ s
  refine Calls.spliced_cons (Calls.Constant_str (Calls.spliced_cons (Calls.Constant_str (Calls.spliced_nil ?_))))
  refine ⟨by show 2 ≤ sizeLine; decide, ?_⟩
  generalize ho : ({ cls := .type "list", data := .seq [Value.str a s.toks, Value.str b (s.toks + 1)].toArray } : Obj) = o
  have hfree : H s.heap.objs.size = none := I.hok.fresh (Nat.le_refl _)
  have I1 : Inv X pins σ H { s with heap := s.heap.push o, toks := s.toks + 1 + 1 } := I.kept (t' := s.toks + 1 + 1) fun b o e => Heap.get?_push_of_some _ e
  have hg : (s.heap.push o).get? s.heap.objs.size = some o := Heap.get?_push_size _ (by subst ho; rfl)
  have I2 : Inv X ((s.heap.objs.size, o) :: pins) σ H { s with heap := s.heap.push o, toks := s.toks + 1 + 1 } := I1.pins_of fun q hq => by
    rcases List.mem_cons.mp hq with rfl | hq
    · refine ⟨hg, hfree, Nat.ne_of_gt I.lt, I.nofs (Nat.le_refl _), fun v z => ?_⟩
      subst ho
      cases z
    · exact I1.pin q (List.mem_append_right _ hq)
  refine wpAny_mono (PySem.wpAny_toks (hc.run _ _ σ H _ I2 h)) (fun v s2 ⟨hle, z, H2, I3, r, n, ez, q⟩ => ?_) fun _ _ z => z.2
  have hle : s.toks + 1 + 1 ≤ s2.toks := hle
  subst ez
  obtain ⟨t, rfl⟩ := r
  have hl : s2.heap.IsList s.heap.objs.size [Value.str a s.toks, Value.str b (s.toks + 1)].toArray := ⟨o, (I3.pin (s.heap.objs.size, o) (List.mem_append_right _ List.mem_cons_self)).1, by subst ho; rfl, 0, by subst ho; rfl⟩
  have I4 : Inv X pins σ H2 s2 := I3.pins_of fun q hq => I3.pin q (List.mem_append_right _ (List.mem_cons_of_mem _ hq))
  have hcls : (X.env.scope.kind == .class || (X.env.scope.kind == .module && X.env.locals != X.env.globals)) = false := by rw [I.ok.kind]; rfl
  have fin : ∀ (d : Str) (k : Tok), k ≠ 0 → k < s2.toks → u D (σ.set i (some (.str d))) H2 → wpAny (model X.prog X.w) X.A (storeName X.env x (.str d k)) (fun _ s' => wpAny (model X.prog X.w) X.A (execs rest X.env) (SP X pins D) X.xe s') X.xe s2 := fun d k hk0 hk1 q => by
    obtain ⟨m, hn, _⟩ := id I4.loc
    refine wpAny_storeName_local hk hn (fun h' hn' hs => ?_) hcls
    have I5 := inv_store (v := V.str d) (tk := s2.toks + 1) I4 hN hi hk ⟨k, rfl⟩ hn hn' hs
    exact h2.run pins _ _ H2 D ⟨d, k, hk0, Nat.lt_succ_of_lt hk1, _, hn', by simp⟩ I5 q
  rcases q with ⟨rfl, q⟩ | ⟨rfl, q⟩
  · exact item_listR hl (by decide) (by decide) rfl (fin a _ (fun z => by have z' : s.toks = 0 := z; omega) (by show s.toks < s2.toks; omega) q) (hp _ _)
  · exact item_listR hl (by decide) (by decide) rfl (fin b _ (fun z => by have z' : s.toks + 1 = 0 := z; omega) (by show s.toks + 1 < s2.toks; omega) q) (hp _ _)
structure PIw (X : Cx) (x : Str) (tg iter : Expr) (wi : TI) : Prop where
  run : ∀ (pins : List (Addr × Obj)) (s : Shared) (σ : L2.St) (H : Hp) (R : It → Hp → Prop), Held X x s → Inv X pins σ H s → wi σ H R →
    wpAny (model X.prog X.w) X.A (eval iter X.env) (fun v s1 => wpAny (model X.prog X.w) X.A (pyIter v) (PIE X pins σ tg R) X.xe s1) X.xe s
theorem w_seq (K : PySem.W.Frag) {tg : Expr} (hl : PEw X x e te) (hK : X.K = K := by rfl) : PIw X x tg e (iSeq K te) := by
  subst hK
  refine ⟨fun pins s σ H R hh I hw => ?_⟩
  refine thn (hl.run pins s σ H _ hh I hw) fun v s1 ⟨z, H1, J, r1, a, ex, q1⟩ => ?_
  subst ex
  cases r1
  have fp : ∀ b ∈ [s1.heap.objs.size], FpOk X pins H1 b := fun b hb => by
    rw [List.mem_singleton.mp hb]
    exact J.fpOk (Nat.le_refl _) (J.hok.fresh (Nat.le_refl _))
  rcases q1 with ⟨⟨xs, hx⟩, q⟩ | ⟨⟨xs, hx⟩, q⟩
  · obtain ⟨its, _, p, _⟩ := J.list hx
    exact wpAny_pyIter_list p.isList ⟨_, _, _, _, H1, rfl, J.kept (t' := s1.toks) fun _ _ e => Heap.get?_push_of_some _ e, turn_list a _, ⟨_, Heap.get?_push_size _ rfl, rfl, rfl⟩, fp, q⟩
  · obtain ⟨its, _, p, _⟩ := J.tuple hx
    exact wpAny_pyIter_tuple (show s1.heap.IsTuple a its.toArray from p) ⟨_, _, _, _, H1, rfl, J.kept (t' := s1.toks) fun _ _ e => Heap.get?_push_of_some _ e, turn_tuple a _, ⟨_, Heap.get?_push_size _ rfl, rfl, rfl⟩, fp, q⟩
theorem w_for {tg iter : Expr} {body : List Stmt} {wi : TI} {g : TG} {tb : TS} (hp : PassesOwn (model X.prog X.w) X.A X.env X.xe) (hc : X.calm = true) (hi : PIw X x tg iter wi) (hg : PG X tg g) (hb : PSs X body tb) (h2 : PSs X rest u)
    (hs : ∀ z, foldedSetIterable iter X.env z = pure z := by intro _; rfl) : PSw X x (.For tg iter body [] pos :: rest) (tSeq (tFor wi g tb) u) := by
  refine ⟨fun pins s σ H D hh I h => wpAny_execs_cons (wpAny_For (thn (hi.run pins s σ H _ hh I h) fun v s1 h1 => thn h1 fun itv s2 hy => ?_) hs)⟩
  obtain ⟨it, fp, tn, J, H2, e, I2, T, st2, f2, W, ⟨m0, w0⟩, turn⟩ := hy
  subst e
  have stat : ∀ {H' : Hp}, (∀ b ∈ fp, H' b = none) → ∀ b ∈ fp, FpOk X pins H' b := fun hn b hb => ⟨hn b hb, (f2 b hb).2⟩
  refine codeAny_forLoop_any (fun n s' => ∃ i σ' H', Inv X pins σ' H' s' ∧ tn i s'.heap ∧ (∀ b ∈ fp, H' b = none) ∧ W i n σ' H') ?_ m0 ⟨0, σ, H2, I2, st2, fun b hb => (f2 b hb).1, w0⟩
  rintro n s3 ⟨i, σ3, H3, I3, st3, fr3, w3⟩
  rcases turn i n σ3 H3 w3 with ⟨stop, qn⟩ | ⟨go, N, hN, step⟩
  · refine wpAny_passesOwn hp (thn (T.done X rfl rfl rfl hc i pins s3 σ3 H3 X.xe I3 (stat fr3) st3 stop) fun r s4 ⟨hr, I4⟩ => ?_)
    subst hr
    exact wpAny_execs_nil (h2.run pins s4 σ3 H3 D I4 qn)
  · refine wpAny_passesOwn hp (thn (T.item X rfl rfl rfl hc i pins s3 σ3 H3 X.xe I3 (stat fr3) st3 go) fun r s4 ⟨v, hr, h4⟩ => ?_)
    subst hr
    refine wpAny_passesOwn hp (thn h4 fun _ s5 ⟨z, H5, I5, r5, y5, st5, fr5⟩ => ?_)
    refine wpAny_passesOwn hp (thn (hg.run _ s5 σ3 H5 z v _ (I5.pinned (stat fr5) (T.obj _ _ st5)) r5 (step z H5 y5)) fun _ s6 ⟨σ6, H6, I6, q6⟩ => ?_)
    refine wpAny_passesOwn hp (thn (hb.run _ s6 σ6 H6 _ I6 q6) fun f s7 q7 => ?_)
    have again : ∀ {σ7 : L2.St} {H7 : Hp}, Inv X (pins ++ pinsAt fp s5.heap) σ7 H7 s7 → N σ7 H7 → ∃ m, m < n ∧ ∃ i σ' H', Inv X pins σ' H' s7 ∧ tn i s7.heap ∧ (∀ b ∈ fp, H' b = none) ∧ W i m σ' H' := fun {σ7 H7} I7 n7 => by
      obtain ⟨m', hm, w7⟩ := hN σ7 H7 n7
      have pn : ∀ b ∈ fp, ∀ o, s5.heap.get? b = some o → s7.heap.get? b = some o ∧ H7 b = none := fun b hb o e => (I7.pin (b, o) (List.mem_append_right _ (List.mem_append_right _ (mem_pinsAt hb e)))).imp id And.left
      refine ⟨m', hm, i + 1, σ7, H7, I7.unpinned, T.keep _ _ _ st5 fun b hb o e => (pn b hb o e).1, fun b hb => ?_, w7⟩
      obtain ⟨o, e, _⟩ := T.obj _ _ st5 b hb
      exact (pn b hb o e).2
    cases f with
    | next => obtain ⟨σ7, H7, I7, n7⟩ := q7; exact again I7 n7
    | cont => obtain ⟨σ7, H7, I7, n7⟩ := q7; exact again I7 n7
    | brk => obtain ⟨σ7, H7, I7, q7⟩ := q7; exact h2.run pins s7 σ7 H7 D I7.unpinned q7
    | ret v => obtain ⟨x7, σ7, H7, I7, r7, q7⟩ := q7; exact ⟨x7, σ7, H7, I7.unpinned, r7, q7⟩
end
end Kn
set_option Elab.async false
set_option maxRecDepth 100000
set_option linter.all false
set_option autoImplicit false
namespace Kn
open PySem L2
section
variable {X : Cx} {x y : Str} {st : Stmt} {rest : List Stmt} {i : Nat} {te : TE} {u : TS} {c : Str} {j : Nat} {cp pos : Pos} {es : List Expr} {t : TA}
theorem n_pv (i : Nat) {x : Str} {pos : Pos} (hN : X.N[i]? = some x := by rfl) (hv : Vis X.env.scope x := by first | exact Or.inl rfl | exact Or.inr (Or.inl rfl) | exact Or.inr (Or.inr rfl)) (hd : (x == ("__debug__" : Str)) = false := by decide) (hcd : (x == ("__classdict__" : Str)) = false := by decide) : PEn X (.Name x pos) (tVar i) := n_var hN hv hd hcd
theorem nO_of (h : PSn X y st (tAsg te (gName i))) : PSn X y st (tAsg te (gOwn i)) := h
theorem wO_of (h : PSw X x (st :: rest) (tSeq (tAsg te (gName i)) u)) : PSw X x (st :: rest) (tSeq (tAsg te (gOwn i)) u) := h
theorem w_setT {e : Expr} {pos' : Pos} (hN : X.N.Nodup) (hi : X.N[i]? = some y) (hx : Loc X.env.scope y) (he : PEw X x e te) (h2 : PSsT X rest u) (hs : swapsWith e (some (.Name y pos')) pos.line X.env = pure false := by rfl) (hf : X.fn y = true ∨ X.env.scope.names.lookup y = some .local := by first | exact .inl rfl | exact .inr rfl | assumption) :
    PSw X x (.Assign [.Name y pos'] e pos :: rest) (tSeq (tAsg te (gName i)) u) := by
  refine ⟨fun pins s σ H D hh I h => ?_⟩
  refine wpAny_execs_cons (wpAny_Assign_Name (wpAny_mono (PySem.wpAny_toks (he.run pins s σ H _ hh I h)) (fun v s1 ⟨ht, z, H1, I1, r1, q1⟩ => ?_) fun _ _ z => z.2) hs)
  exact n_store I1 hN hi hx r1 (fun s2 _ h3 I2 => h2 pins s2 _ H1 D (Nat.le_trans hh.one (Nat.le_trans ht h3)) I2 q1) hf
theorem pst_expr {e : Expr} (he : PET X e te) (hs : swapsWith e none pos.line X.env = pure false := by rfl) : PST X (.Expr e pos) (tDrop te) := by
  intro pins s σ H D h1 I h
  exact wpAny_Expr_any (thn (he pins s σ H _ h1 I h) fun v s1 ⟨x, H1, I1, r1, q1⟩ => ⟨σ, H1, I1, q1⟩) I.quiet hs
theorem pet_bm {T : String} {name : Str} {id : String} {r : V → List V → Hp → VK → Prop} {o e : Expr} {to : TE} {apos cpos : Pos} (K : PySem.W.Frag) (pa : PlainAttrs T) (slot : Slot T name id) (hty : typeOf (.builtin id) = pure (.type "method_descriptor")) (hm : MtR X id r) (ho : PE X o to) (ha : PAT X (e :: es) t) (hK : X.K = K := by rfl)
    (hbase : attributeBase o name X.env (eval o X.env) = eval o X.env := by rfl)
    (hfew : ((backTo cpos (starEach (e :: es) X.env)).all (fun x => !x.1) && (backToKw cpos (keywordEach [] X.env)).all (fun x => x.1.isSome)
      && decide ((e :: es).length + ([] : List Keyword).length + (if ([] : List Keyword).isEmpty then 0 else 1) < 30)) = true := by rfl)
    (hline : (apos.endLine == cpos.line) = true := by rfl) (hs : starEach (e :: es) X.env = (false, eval e X.env) :: starEach es X.env := by rfl) (hplain : (backTo cpos (starEach es X.env)).any (·.1) = false := by rfl) :
    PET X (.Call (.Attribute o name apos) (e :: es) [] cpos) (tBM K T r to t) := by
  subst hK
  intro pins s σ H Q h0 I h
  refine wpAny_Call_method_late hbase hfew hline rfl (wpAny_mono (PySem.wpAny_toks (ho.run pins s σ H _ I h)) (fun v s1 ⟨hk, x, H1, I1, r1, ty, q1⟩ => ?_) fun _ _ z => z.2)
  obtain ⟨h1, h2⟩ := tyV_is I1 r1 ty
  refine ⟨T, id, pa, slot, hty, h1, h2, ?_⟩
  have hA := ha cpos pins s1 σ H1 _ (Nat.le_trans h0 hk) I1 q1
  rw [hs] at hA ⊢
  refine PySem.Calls.callWith_builtin (by show (false || (backTo cpos (starEach es X.env)).any (·.1)) = false; rw [hplain] <;> rfl) (PySem.Calls.evalArgs_plain ?_)
  exact thn hA fun us s2 ⟨vs, H2, I2, r2, q2⟩ => hm pins s2 σ H2 x vs v us Q I2 r1 r2 q2
theorem pe_lstS (h : PAT X es t) (hs : starEach (.Constant (.str c) j cp :: es) X.env = (false, eval (.Constant (.str c) j cp) X.env) :: starEach es X.env := by rfl) : PE X (.List (.Constant (.str c) j cp :: es) pos) (tLst (tCons (tC (.str c)) t)) := by
  refine ⟨fun pins s σ H Q I hq => wpAny_List_spliced ?_⟩
  rw [hs]
  show wpAny _ _ (spliced ((false, eval (.Constant (.str c) j cp) X.env) :: backTo pos (starEach es X.env))) _ _ s
  refine PySem.Calls.spliced_cons (PySem.Calls.Constant_str ?_)
  refine thn (h pos pins { s with toks := s.toks + 1 } σ H _ (by show 1 ≤ s.toks + 1; omega) (I.tok _) hq) fun us s2 ⟨xs, H2, I2, r2, hz, q⟩ => ?_
  have rr : Vals (.str c :: xs) (.str c s.toks :: us) := .cons ⟨_, rfl⟩ r2
  refine ⟨by rw [← rr.length]; exact hz, ?_⟩
  have hf : H2 s2.heap.objs.size = none := I2.hok.fresh (Nat.le_refl _)
  refine ⟨.ref s2.heap.objs.size, upd H2 s2.heap.objs.size (.lst (.str c :: xs)), I2.laid (t' := s2.toks) (fun b u e => Heap.get?_push_of_some _ e) (Nat.le_refl _) ?_, rfl, q _ hf⟩
  exact ⟨hz, .str c s.toks :: us, 0, rr, Heap.get?_push_size _ rfl⟩
end
section
variable {K : PySem.W.Frag} {e : Ent}
def tdRepl (to : TDE) (y z : Str) : TDE := fun S Q => to S fun r S1 => asS r fun x => x.length + (x.length + 1) * z.length ≤ 16777216 ∧ Q (.d (.str (Txt.replace x y z))) S1
instance simRepl {to : TE} {to' : TDE} {y z : Str} [h1 : SimE K e to to'] : SimE K e (CwR.tReplC to y z) (tdRepl to' y z) := ⟨fun σ H S T Qd Q x h k => by
  refine h1.run σ H S T _ _ x h fun r S1 v H1 hr x1 => ?_
  obtain ⟨a, rfl, hl, hr⟩ := asS_inv hr
  obtain rfl := x1.strV
  obtain ⟨U, x2⟩ := x1.pop
  exact ⟨a, rfl, hl, k _ _ _ _ hr ⟨U, x2.push (.str _)⟩⟩⟩
def tdReplH (ik ih : Nat) (c : Str) : TDE := fun S Q => tdVar ik S fun ra S1 => asS ra fun a => tdVar ih S1 fun rh S2 => asS rh fun h => h.length ≠ 0 ∧ c.length ≠ 0 ∧ h.length + c.length ≤ 1000000 ∧ a.length + (a.length + 1) * h.length ≤ 16777216 ∧ Q (.d (.str (Txt.replace a (h ++ c) h))) S2
instance simReplH {ik ih : Nat} {c : Str} : SimE K e (tReplH ik ih c) (tdReplH ik ih c) := ⟨fun σ H S T Qd Q x h k => by
  have h1 : tVar ik σ H (fun v H1 => ∃ a, v = .str a ∧ tVar ih σ H1 fun v2 H2 => H2 = H2 ∧ ∃ d, v2 = .str d ∧ d.length ≠ 0 ∧ c.length ≠ 0 ∧ d.length + c.length ≤ sizeLine ∧ a.length + (a.length + 1) * d.length ≤ 16777216 ∧ Q (.str (Txt.replace a (d ++ c) d)) H2) := by
    refine simVar.run σ H S T _ _ x h fun r S1 v H1 hr x1 => ?_
    obtain ⟨a, rfl, hr2⟩ := asS_inv hr
    obtain rfl := x1.strV
    refine ⟨a, rfl, simVar.run σ H1 S1 T _ _ x1.pop hr2 fun r S2 v H2 hr x2 => ?_⟩
    obtain ⟨d, rfl, n1, n2, n3, n4, hr⟩ := asS_inv hr
    obtain rfl := x2.strV
    obtain ⟨U, x3⟩ := x2.pop
    exact ⟨rfl, d, rfl, n1, n2, big_of n3, n4, k _ _ _ _ hr ⟨U, x3.push (.str _)⟩⟩
  obtain ⟨v, e1, a, rfl, v2, e2, _, d, rfl, n1, n2, n3, n4, q⟩ := h1
  exact ⟨a, d, e1, e2, n1, n2, n3, n4, q⟩⟩
def pkS (a b : Str) (z : Int) : Str := if z = 0 then a else b
def tdPick (i : Nat) (a b : Str) (tc : TDE) : TDS := fun E S => tc S fun r S1 => asI r fun z => (z = 0 ∨ z = 1) ∧ E.nx (S1.set i (.val (.str (pkS a b z))))
instance simPick {i : Nat} {a b : Str} {tc : TE} {tc' : TDE} [h1 : SimE K e tc tc'] : SimS K e (tPick i a b tc) (tdPick i a b tc') := ⟨fun σ H S T Ed E hT x h k => by
  refine h1.run σ H S T _ _ x h fun r S1 v H1 hr x1 => ?_
  obtain ⟨z, rfl, hr⟩ := asI_inv hr
  obtain ⟨U, x2, dv, _⟩ := R.frz x1
  cases dv
  have go : ∀ c : Str, Ed.nx (S1.set i (.val (.str c))) → E.nx (σ.set i (some (.str c))) H1 := fun c q =>
    simName.run (.str c) (.str c) σ H1 S1 T Ed.nx E.nx hT ⟨U, x2.push (.str c)⟩ q k.nx
  obtain ⟨hz, hr⟩ := hr
  refine ⟨z, rfl, hz.imp (fun e => ⟨e, go a ?_⟩) fun e => ⟨e, go b ?_⟩⟩
  · subst e; exact hr
  · subst e; exact hr⟩
def seqF (Q : List D → Prop) : D → Prop
  | .lst ds => Q ds
  | .tup ds => Q ds
  | _ => False
def tiSeq (td : TDE) : TDI := fun S Q => td S fun r S1 => frc r S1 fun d S2 => seqF (fun ds => Q ds S2) d
instance simISeq {td : TE} {td' : TDE} [h1 : SimE K e td td'] : SimI K e (iSeq K td) (tiSeq td') := ⟨fun σ H S T Qd Rr x h k => by
  refine h1.run σ H S T _ _ x h fun r S1 v H1 hr x1 => x1.frc hr fun d S2 h3 x2 => ?_
  obtain ⟨U, x3, dv, x4⟩ := x2.frz
  match d, h3, dv, x4 with
  | .lst ds, h3, dv, x4 =>
    obtain ⟨a, xs, rfl, g1, g2⟩ : Vw K S2.W.Tp U H1 v (.lst ds) := Dv.vw dv
    exact ⟨a, rfl, .inl ⟨⟨xs, SqL.of g1⟩, k _ _ _ _ [.v (.ref a) (.d (.lst ds))] h3 plain1 itOk_list ⟨U, x4⟩⟩⟩
  | .tup ds, h3, dv, x4 =>
    obtain ⟨a, xs, rfl, g1, g2⟩ : Vw K S2.W.Tp U H1 v (.tup ds) := Dv.vw dv
    exact ⟨a, rfl, .inr ⟨⟨xs, SqT.same Hd.sub g1⟩, k _ _ _ _ [.v (.ref a) (.d (.tup ds))] h3 plain1 itOk_tup ⟨U, x4⟩⟩⟩⟩
def tdCallNS (m : Nat) (F : FSpec) (w : Exn → PSt → Prop) (tk : TDA) : TDE := fun S Q => tk S fun rs S1 => frcL rs S1 fun ds S2 => ds.length = m ∧ CallF F ds S2 Q w
instance simCallNS {m : Nat} {F : FSpec} {Wx : WX} {w : Exn → PSt → Prop} {t : TA} {t' : TDA} [h1 : SimA K e t t'] [h2 : WLk K e Wx w] : SimE K e (tCallNS m (lift K F) (fun _ zs => zs) (WE Wx) t) (tdCallNS m F w t') := ⟨fun σ H S T Qd Q x h k => by
  refine h1.run σ H S T _ _ x h fun rs S1 vs H1 hc hl x1 => ?_
  refine R.frcL hl x1 hc fun ds S2 h3 hl2 x2 => ?_
  obtain ⟨n1, h3⟩ := h3
  obtain ⟨U, x2⟩ := x2
  have xT := x2.less (T' := T) fun p hp => List.mem_append_right _ hp
  refine ⟨by rw [hl2]; exact n1, U, S2.W, ds, _, _, x2.wo, RU.tms hl2 x2, h3, fun d W' v H' U' q r f dv => k _ _ _ _ q (xT.callBack r f dv), fun x W' c dd H' U' q r f ex => ?_⟩
  exact h2.run x ⟨S2.ρ, W'⟩ σ H' U' c dd q ((xT.to r f).less fun p hp => by cases hp) ex⟩
theorem u_tdCallNS {m : Nat} {F : FSpec} {w : Exn → PSt → Prop} {tk : TDA} {S Q} : tdCallNS m F w tk S Q = (tk S fun rs S1 => frcL rs S1 fun ds S2 => ds.length = m ∧ CallF F ds S2 Q w) := rfl
theorem FzB.okD {P : Program} {w : World} {mg : Str → Option Value} {base : Heap} {x : Str} {st : Stmt} {ps N : List Str} {k : Nat} {Fs : FSpec} {B : FuncData → Prop} (F : FzB K mg x st B) (S : FnScope N ps (defScope st)) (hl : ∀ ds W Q E, Fs ds W Q E → ds.length = ps.length)
    (hbody : ∀ (f : Addr) (cdv : Value) (A : Around) (outer : List Env) (s : Shared) (H : Hp) (E : XK) (e : Ent) (ds : List D) (Qd : D → Wd → Prop) (Ed : Exn → Wd → Prop), Room k (A.deeper (PyProof.Rows.envOfC x (defScope st) s.heap.objs.size f cdv)) → WLk K e (fun c d _ H => E c d H) (fun x S => Ed x S.W) → Fs ds e.W Qd Ed →
      ∃ t td, PSs (cxOf (L2.CX P w) P w K mg base N x (defScope st) f cdv A outer s H E) (defBody st) t ∧ SimZ K e t td ∧ td ⟨fun S => Qd .non S.W, Qd, fun _ => False, fun _ => False, fun _ _ => False⟩ (S0 N ds e.W)) : FxB P w K mg base (L2.CX P w) x (k + 1) ps (lift K Fs) B := by
  refine F.okX S (fun vs H Q E h => ?_) (fun f cdv A outer s H vs Q E hr h => ?_)
  · obtain ⟨U, W, ds, Qd, Ed, r, dv, hF, _⟩ := h
    rw [dv.len]; exact hl _ _ _ _ hF
  · obtain ⟨U, W, ds, Qd, Ed, r, dv, hF, kq, ke⟩ := h
    obtain ⟨t, td, hp, hs, ht⟩ := hbody f cdv A outer s H E ⟨U, W, H⟩ ds Qd Ed hr ⟨fun x S σ H' U' c d hw ru ex => ke x S.W c d H' U' hw ru.wo ru.fr ex⟩ hF
    refine ⟨t, hp, hs.run (start N vs) H (S0 N ds W) _ _ ⟨U, RU.start r dv⟩ ht ⟨fun S' σ' H' q ⟨U', x'⟩ => ?_, fun d S' σ' v H' q ⟨U', x'⟩ => ?_, fun _ _ _ q => q.elim, fun _ _ _ q => q.elim, fun _ _ _ _ _ q => q.elim⟩⟩
    · exact kq _ _ _ _ U' q x'.wo x'.fr .non
    · exact kq _ _ _ _ U' q x'.wo x'.fr (x'.tmp (.v v (.d d)) (by simp))
theorem u_tdRepl {to : TDE} {y z : Str} {S Q} : tdRepl to y z S Q = (to S fun r S1 => asS r fun x => x.length + (x.length + 1) * z.length ≤ 16777216 ∧ Q (.d (.str (Txt.replace x y z))) S1) := rfl
theorem u_tdReplH {ik ih : Nat} {c : Str} {S Q} : tdReplH ik ih c S Q = (tdVar ik S fun ra S1 => asS ra fun a => tdVar ih S1 fun rh S2 => asS rh fun h => h.length ≠ 0 ∧ c.length ≠ 0 ∧ h.length + c.length ≤ 1000000 ∧ a.length + (a.length + 1) * h.length ≤ 16777216 ∧ Q (.d (.str (Txt.replace a (h ++ c) h))) S2) := rfl
theorem u_tdPick {i : Nat} {a b : Str} {tc : TDE} {E S} : tdPick i a b tc E S = (tc S fun r S1 => asI r fun z => (z = 0 ∨ z = 1) ∧ E.nx (S1.set i (.val (.str (pkS a b z))))) := rfl
theorem u_tiSeq {td : TDE} {S Q} : tiSeq td S Q = (td S fun r S1 => frc r S1 fun d S2 => seqF (fun ds => Q ds S2) d) := rfl
theorem u_seqF_l {Q : List D → Prop} {ds : List D} : seqF Q (.lst ds) = Q ds := rfl
theorem u_seqF_t {Q : List D → Prop} {ds : List D} : seqF Q (.tup ds) = Q ds := rfl
end
end Kn
set_option synthInstance.maxHeartbeats 0
set_option synthInstance.maxSize 100000
set_option Elab.async false
set_option maxRecDepth 100000
set_option linter.all false
namespace Kn
open PySem L2
def top (i : Nat) : Stmt := PySem.Challenge.pw_kindnotes_k11_only_texts_of_ways.main.body.getD i (.Pass ⟨0, 0, 0, 0⟩)
structure Txt (K : PySem.W.Frag) (mg : Str → Option Value) : Prop where
  b_all : mg "all" = none
  b_bool : mg "bool" = none
  b_int : mg "int" = none
  b_isinstance : mg "isinstance" = none
  b_len : mg "len" = none
  b_list : mg "list" = none
  b_range : mg "range" = none
  b_sorted : mg "sorted" = none
  b_str : mg "str" = none
  b_tuple : mg "tuple" = none
  c_FOUND : ∃ u, mg "FOUND" = some u ∧ RelV (.str "found") u
  c_MOST_PLACES : ∃ u, mg "MOST_PLACES" = some u ∧ RelV (.int 3) u
  c_TOLD : ∃ u, mg "TOLD" = some u ∧ RelV (.str "told") u
  e_BadWay : ExcF K mg "BadWay"
  g_BadWay : mg "BadWay" = some (.ref (clsA mg "BadWay"))
  g_NotesError : mg "NotesError" = some (.ref (clsA mg "NotesError"))
  g_BadKind : mg "BadKind" = some (.ref (clsA mg "BadKind"))
  exm_BadWay_NotesError : PySem.W.exmOne K (.ref (clsA mg "BadWay")) (.ref (clsA mg "NotesError")) = some true
  kit_BadWay_BadWay : PySem.W.kitOne K (.ref (clsA mg "BadWay")) (.ref (clsA mg "BadWay")) = some true
  kit_BadWay_BadKind : PySem.W.kitOne K (.ref (clsA mg "BadWay")) (.ref (clsA mg "BadKind")) = some false
  q_BadWay : ExcC K (clsA mg "BadWay")
end Kn
set_option synthInstance.maxHeartbeats 0
set_option synthInstance.maxSize 100000
set_option Elab.async false
set_option maxRecDepth 100000
set_option linter.all false
namespace Kn
open PySem L2
local macro_rules | `(tactic| walk_at "wk") => `(tactic| repeat (first
  | refine ⟨_, rfl, ?_⟩
  | refine ⟨_, _, rfl, rfl, ?_⟩
  | refine ⟨⟨by decide, by decide⟩, ?_⟩
  | refine ⟨(by show (0 : Int) < _; decide), ?_⟩
  | refine ⟨Or.inl ⟨by omega, by omega⟩, ?_⟩
  | refine Or.inl ⟨_, rfl, ?_⟩
  | fail))
local macro_rules | `(tactic| walk_at "lits") => `(tactic| repeat (first
  | exact lit_nil
  | exact lit_str
  | exact lit_int
  | exact lit_non
  | refine lit_cons ?_ ?_
  | refine lit_tup ?_
  | fail))
local macro_rules | `(tactic| walk_at "d") => `(tactic| simp only [↓u_tdCallNS, ↓u_tdRepl, ↓u_tdReplH, ↓u_tdPick, ↓u_tiSeq, ↓u_seqF_l, ↓u_seqF_t, ↓u_tdC, ↓u_tdOp, ↓u_tdNil, ↓u_tdCons, ↓u_tdTup, ↓u_tnLst, ↓u_tdFrz, ↓u_tdTest, ↓u_tdOr, ↓u_tdNot, ↓u_tdYes, ↓u_tdAndV, ↓u_tdNotV, ↓u_tdCB, ↓u_tnCB, ↓u_tnAdd, ↓u_tdNoPart, ↓u_tdPart, ↓u_tdSl, ↓u_tnSl, ↓u_tdRevT, ↓u_tnRevL, ↓u_tdIsiT, ↓u_tdNext, ↓u_tdSeq, ↓u_tdDrop, ↓u_tdRet, ↓u_tdIfS, ↓u_gdName, ↓u_gdNil, ↓u_gdCons, ↓u_gdTup, ↓u_tdAsg, ↓u_tdAsgN, ↓u_tiAny, ↓u_tiRng1, ↓u_tdFor, ↓u_tnLc, ↓u_tdCall, ↓u_tnCall, ↓u_tdRaise, ↓u_tdApp, ↓u_tdTryAs, ↓u_tdTryN, ↓u_tdJoin, ↓u_tnSplit, ↓u_tdPartn, ↓u_tdFmt, ↓u_tdJoined, ↓u_tdNeg, ↓u_tdPopAt, ↓u_tdRg1, ↓u_tdTupRg, ↓u_tdIndex, ↓u_addF_i, ↓u_addF_s, ↓u_addF_t, ↓u_addF_l, ↓u_iiF, ↓u_inF_l, ↓u_inF_t, ↓u_inF_s, ↓u_inF_ds, ↓u_inF_di, ↓u_ixF_l, ↓u_ixF_t, ↓u_ixF_s, ↓u_ixF_di, ↓u_ixF_ds, ↓u_slF_l, ↓u_slF_t, ↓u_slF_s, ↓u_lenF_l, ↓u_lenF_t, ↓u_lenF_s, ↓u_lenF_d, ↓u_isiF, ↓u_isiD, ↓u_tupF_l, ↓u_tupF_t, ↓u_allF, ↓u_sortF, ↓u_intF_i, ↓u_intF_b, ↓u_strF, ↓u_walkF_l, ↓u_walkF_t, ↓u_walkF_s, ↓u_walkF_d, ↓u_arg1, ↓u_arg2, ↓u_frcL_n, ↓u_frcL_c, ↓u_addD, ↓u_iiD, ↓u_eqD_f, ↓u_eqD_t, ↓u_inD_f, ↓u_inD_t, ↓u_ixD, ↓u_dd2, ↓u_turnD, ↓u_lstK_l, ↓u_lstK_t, ↓u_lstK_d, ↓u_idxF, ↓u_popF, ↓u_asS, ↓u_joinF_l, ↓u_joinF_t, ↓u_fmtF_s, ↓u_fmtF_i, ↓u_excF, ↓u_clsV_r, ↓u_clsV_t, ↓u_isYD, ↓b_Call, ↓b_CallN, ↓b_opt, ↓b_dd1, ↓b_asB, ↓b_asI, ↓b_frc, ↓b_for, ↓b_comp, ↓b_ite, ↓b_while, ↓b_var, ↓b_aug, ↓b_mutL, ↓b_mutD, ↓b_retV, ↓b_deref, ↓b_dd1own, ↓b_mutO, ↓b_mutDO, ↓b_frcO, ↓b_dctC, ↓b_ref, ↓b_insF, ↓b_insC, ↓b_exB, ↓o_opt, ↓o_asB, ↓o_asI, ↓o_non, ↓o_bl, ↓o_int, ↓o_str, ↓o_ty, ↓o_tup, ↓o_lst, ↓o_dct, ↓o_obj, ↓o_varV, ↓o_varL, ↓o_varD, ↓o_frc, ↓o_augI, ↓o_augS, ↓o_augL, ↓o_retV, ↓o_iteT, ↓o_iteF, ↓o_derefL, ↓o_derefD, ↓o_mutO, ↓o_mutDO, ↓o_frcL, ↓o_frcD, ↓o_frcV, ↓o_dctC, ↓o_ref, ↓o_derefR, ↓o_dd1R, ↓o_mutR, ↓o_derefK, ↓o_dd1K, ↓o_mutK, ↓o_putT, ↓o_insF, ↓o_insC, ↓o_derefI, ↓o_dd1I, ↓o_putS, ↓o_putP, look_c, look_n, putFd_c, putFd_n, ofS_eq, ↓reduceIte, eq_self, List.foldr_cons, List.foldr_nil, DEnds.un, PSt.unset, List.zip_cons_cons, List.zip_nil_left, List.zip_nil_right, List.reverse_cons, List.reverse_nil, exL, exK, exC, tysOf, tyN, isB, tyOk, isNn, PSt.set, S0, PSt.wipe, wipeR,
  List.map_cons, List.map_nil, List.length_cons, List.length_nil, List.replicate_succ, List.replicate_zero, List.cons_append, List.nil_append, List.set_cons_zero, List.set_cons_succ, List.getElem?_cons_zero, List.getElem?_cons_succ, List.getElem?_nil,
  Bool.not_true, Bool.not_false, bq_t, bq_f, Bool.not_not, Bool.false_eq_true, true_and, and_true, Nat.reduceAdd, Nat.reduceSub, Nat.reduceLeDiff, String.reduceEq, decide_true, decide_false, Bool.true_or, Bool.false_or, Bool.true_and, Bool.false_and, Bool.or_true, Bool.or_false, Bool.and_true, Bool.and_false, decide_eq_true_eq, List.mem_cons, List.not_mem_nil, or_true, true_or, or_false, false_or, List.any_cons, List.any_nil, List.all_cons, List.all_nil, Option.map_some, Option.map_none, Option.isSome_some, Option.isSome_none, eqOk_ii, eqOk_ss, eqOk_bb, eqOk_nn, eqOk_ns, eqOk_sn, eqOk_ni, eqOk_in, eqOk_si, eqOk_is, D.int.injEq, D.str.injEq, D.bl.injEq, reduceCtorEq, keyD, atI_0, atI_1, atI_2, atI_3, atI_4, cut1, ne_eq, not_true_eq_false, not_false_eq_true, Bool.not_eq_true', Bool.not_eq_false', decide_eq_false_iff_not])
local macro_rules | `(tactic| walk_at "z") => `(tactic| first
  | (apply z_seq; (focus walk_at "z"); (focus walk_at "z"))
  | (apply z_try; (focus (intro _ _ _; walk_at "z")); (focus (intro _ _ _; walk_at "z")); (focus walk_at "z"))
  | (apply z_tryN; (focus (intro _ _ _; walk_at "z")); (focus walk_at "z"); (focus walk_at "z"))
  | (apply z_cl; (focus (intro _ _ _; walk_at "z")); (focus walk_at "z"))
  | exact inferInstance
  | (apply z_if; (focus walk_at "z"); (focus walk_at "z"); (focus walk_at "z"))
  | (apply z_while; (focus walk_at "z"); (focus walk_at "z"))
  | (apply z_for; (focus walk_at "z"); (focus walk_at "z"); (focus walk_at "z")))
variable {P : Program} {w : World} {K : PySem.W.Frag} {mg : Str → Option Value} {base : Heap}
abbrev s__law_take : Stmt := top 20
abbrev N__law_take : List Str := ["_law_tape_here", "_law_many"]
abbrev P__law_take : List Str := ["_law_tape_here", "_law_many"]
theorem sc__law_take : FnScope N__law_take P__law_take (defScope s__law_take) := ⟨rfl, rfl, rfl, by decide +kernel, rfl, by decide +kernel, by decide +kernel⟩
theorem ok__law_take (F : Fz K mg "_law_take" s__law_take P__law_take) (T : Txt K mg) : Fx P w K mg base CX0 "_law_take" 1 P__law_take spTake := by
  refine F.ok sc__law_take (fun vs H Q E h => ?_) (fun f cdv A outer s H vs Q E hr h => ?_)
  · obtain ⟨t, m, rfl, _⟩ := h
    rfl
  · obtain ⟨t, m, rfl, ⟨ns, ht⟩, hm, k⟩ := h
    refine ⟨_, (pss_cons (ps_if (pt_cmpR op_eq (pe_callB (call_len_seqK K) (by rfl) T.b_len PySem.boot_len (pa_cons (pv 0) pa_nil)) pe_int (nomark _)) (pss_one (ps_ret pe_int)) pss_nil)
      (pss_one (ps_ret (pe_op op_mod (pe_callTy call_int1 (by rfl) T.b_int (by decide +kernel) (pa_cons (pe_bmK K PySem.F.plainAttrs_list PySem.F.slot_list_pop PySem.F.type_list_pop mt_popAt (pv 0) (pa_cons pe_int pa_nil)) pa_nil)) (pv 1))))), ?_⟩
    refine ⟨_, rfl, t, _, rfl, .inl (SqL.of ht), rfl, _, rfl, ?_⟩
    refine ite2 (fun c => ?_) (fun c => ?_)
    · exact k 0 H (Int.le_refl _) hm (Dr.refl ⟨ns, ht⟩)
    · cases ns with
      | nil => exact (c rfl).elim
      | cons n ns =>
        refine ⟨_, rfl, .inl ⟨rfl, _, SqL.of ht⟩, t, _, 0, 0, _, rfl, rfl, ht, by decide, by decide, by simp [seqIndex?], rfl, .inl ⟨n, rfl, ?_⟩⟩
        refine ⟨_, rfl, n, m, rfl, rfl, hm, ?_⟩
        exact k (n % m) _ (Int.emod_nonneg _ (by omega)) (Int.emod_lt_of_pos _ hm) (Dr.put ns)
abbrev s__law_cell : Stmt := top 18
abbrev N__law_cell : List Str := ["_law_script", "_law_k"]
abbrev P__law_cell : List Str := ["_law_script", "_law_k"]
theorem sc__law_cell : FnScope N__law_cell P__law_cell (defScope s__law_cell) := ⟨rfl, rfl, rfl, by decide +kernel, rfl, by decide +kernel, by decide +kernel⟩
def spCell (K : PySem.W.Frag) : Sp := fun vs H Q _ => ∃ (a : Addr) (k : Int) (ns : List Int), vs = [.ref a, .int k] ∧ SqL K H a (ns.map V.int) ∧ 0 ≤ k ∧ ∀ z, Q (.int z) H
theorem ok__law_cell (F : Fz K mg "_law_cell" s__law_cell P__law_cell) (T : Txt K mg) : Fx P w K mg base CX0 "_law_cell" 1 P__law_cell (spCell K) := by
  refine F.ok sc__law_cell (fun vs H Q E h => ?_) (fun f cdv A outer s H vs Q E hr h => ?_)
  · obtain ⟨a, i, ns, rfl, _⟩ := h
    rfl
  · obtain ⟨a, i, ns, rfl, hs, hi, k⟩ := h
    refine ⟨_, (pss_cons (ps_if (pt_cmpR op_lt (pv 1) (pe_callB (call_len_seqK K) (by rfl) T.b_len PySem.boot_len (pa_cons (pv 0) pa_nil)) (nomark _)) (pss_one (ps_ret (pe_ix (ix_listK K) (pv 0) (pv 1) (fun _ _ => rfl)))) pss_nil)
      (pss_one (ps_ret pe_int))), ?_⟩
    refine ⟨_, rfl, _, rfl, a, _, rfl, .inl hs, _, _, rfl, rfl, _, rfl, ?_⟩
    refine ite2 (fun c => ?_) (fun c => ?_)
    · have c := of_decide_eq_true c
      rw [List.length_map] at c
      have hj : i.toNat < ns.length := by omega
      refine ⟨_, rfl, _, rfl, a, _, i, V.int ns[i.toNat], rfl, rfl, hs, at_of (j := i.toNat) (by omega) (by simp [hj]), k _⟩
    · exact k _
abbrev s__law_tape : Stmt := top 19
abbrev N__law_tape : List Str := ["_law_script", "_law_k", "_law_size", "_law_cell_here", "_law_left", "_law_tape_here", "_law_j", "_law_mixed"]
abbrev P__law_tape : List Str := ["_law_script", "_law_k", "_law_size"]
theorem sc__law_tape : FnScope N__law_tape P__law_tape (defScope s__law_tape) := ⟨rfl, rfl, rfl, by decide +kernel, rfl, by decide +kernel, by decide +kernel⟩
def spTape (K : PySem.W.Frag) : Sp := fun vs H Q _ => ∃ (a : Addr) (k n : Int) (ns : List Int), vs = [.ref a, .int k, .int n] ∧ SqL K H a (ns.map V.int) ∧ 0 ≤ k ∧ 0 ≤ n ∧ n ≤ 1000 ∧
  ∀ (t : Addr) (H' : Hp), H t = none → Same H H' → Tape H' t → Q (.ref t) H'
theorem ok__law_tape (F : Fz K mg "_law_tape" s__law_tape P__law_tape) (T : Txt K mg) (G__law_cell : Fx P w K mg base CX0 "_law_cell" 1 P__law_cell (spCell K)) : Fx P w K mg base CX0 "_law_tape" 2 P__law_tape (spTape K) := by
  refine F.ok sc__law_tape (fun vs H Q E h => ?_) (fun f cdv A outer s H vs Q E hr h => ?_)
  · obtain ⟨a, i, n, ns, rfl, _⟩ := h
    rfl
  · obtain ⟨a, i, n, ns, rfl, hs, hi, hn0, hn, k⟩ := h
    refine ⟨_, (pss_cons (ps_set (i := 3) sc__law_tape.nd rfl (Or.inl rfl) (fcall G__law_cell (hr.mono (by first | decide | omega)) (by rfl) (pa_cons (pv 0) (pa_cons (pv 1) pa_nil))))
      (pss_cons (ps_set (i := 4) sc__law_tape.nd rfl (Or.inl rfl) (pv 3))
      (pss_cons (ps_set (i := 5) sc__law_tape.nd rfl (Or.inl rfl) (pe_lst pa_nil))
      (pss_cons (ps_for PassesOwn.never rfl (pi_range1 (by rfl) T.b_range (pa_cons (pv 2) pa_nil)) (pg_name (i := 6) sc__law_tape.nd rfl (Or.inl rfl)) (pss_one (ps_if (PW.pt (pw_and (pt_cmpR op_ge (pv 3) (pe_op op_pow pe_int pe_int) (nomark _)) (pw_and1 (pt_cmpR op_gt (pv 4) pe_int (nomark _))))) (pss_cons (ps_expr (pe_bmK K PySem.F.plainAttrs_list PySem.F.slot_list_append PySem.F.type_list_append mt_append (pv 5) (pa_cons (pe_op op_mod (pe_callTy call_int1 (by rfl) T.b_int (by decide +kernel) (pa_cons (pv 4) pa_nil)) pe_int) pa_nil)))
      (pss_one (ps_set (i := 4) sc__law_tape.nd rfl (Or.inl rfl) (pe_op op_fdiv (pv 4) pe_int)))) (pss_cons (ps_set (i := 7) sc__law_tape.nd rfl (Or.inl rfl) (pe_op op_mod (pe_callTy call_int1 (by rfl) T.b_int (by decide +kernel) (pa_cons (pe_op op_add (pe_op op_mul (pe_op op_mod (pe_callTy call_int1 (by rfl) T.b_int (by decide +kernel) (pa_cons (pv 3) pa_nil)) pe_int) (pe_op op_add pe_int (pe_op op_mul pe_int (pv 6)))) (pe_op op_mul pe_int (pv 6))) pa_nil)) pe_int))
      (pss_one (ps_expr (pe_bmK K PySem.F.plainAttrs_list PySem.F.slot_list_append PySem.F.type_list_append mt_append (pv 5) (pa_cons (pe_op op_add (pv 7) (pe_op op_fdiv (pv 7) pe_int)) pa_nil))))))))
      (pss_one (ps_ret (pv 5))))))), ?_⟩
    refine ⟨_, rfl, _, rfl, a, i, ns, rfl, hs, hi, fun z => ?_⟩
    refine ⟨_, rfl, (by show 0 ≤ sizeLine; decide), fun t ht => ?_⟩
    refine ⟨_, rfl, n, rfl, by omega, by omega, ?_⟩
    refine for_range (n := n.toNat) (fun j σ H2 => ∃ (l : Int) (v6 v7 : Option V) (ms : List Int), σ = [some (.ref a), some (.int i), some (.int n), some (.int z), some (.int l), some (.ref t), v6, v7] ∧ H2 t = some (.lst (ms.map V.int)) ∧ ms.length = j ∧ ∀ b o, H b = some o → H2 b = some o) ?_ ?_ ?_
    · exact ⟨z, _, _, [], rfl, upd_same, rfl, fun b o e => by rw [upd_ne (ne_of_none e ht)]; exact e⟩
    · rintro j σ H2 hj ⟨l, v6, v7, ms, rfl, h2, hl, kp⟩
      have step : ∀ (x : Int) (l' : Int) (v6' v7' : Option V), ∃ (l : Int) (v6 v7 : Option V) (ms' : List Int), [some (V.ref a), some (V.int i), some (V.int n), some (V.int z), some (V.int l'), some (V.ref t), v6', v7'] = [some (V.ref a), some (.int i), some (.int n), some (.int z), some (.int l), some (.ref t), v6, v7] ∧ (upd H2 t (.lst (ms.map V.int ++ [V.int x]))) t = some (.lst (ms'.map V.int)) ∧ ms'.length = j + 1 ∧ ∀ b o, H b = some o → (upd H2 t (.lst (ms.map V.int ++ [V.int x]))) b = some o := fun x l' v6' v7' =>
        ⟨l', v6', v7', ms ++ [x], rfl, by rw [upd_same]; simp, by simp [hl], fun b o e => by rw [upd_ne (ne_of_none e ht)]; exact kp b o e⟩
      have hp : (10 : Int) ^ (18 : Int).toNat = 1000000000000000000 := by decide
      have app : ∀ (x : Int) (l' : Int) (v6' v7' : Option V), (ms.map V.int).length < sizeLine := fun _ _ _ _ => small1000 (by rw [List.length_map]; omega)
      have hm : 0 ≤ z % 9973 ∧ z % 9973 < 9973 := ⟨Int.emod_nonneg _ (by decide), Int.emod_lt_of_pos _ (by decide)⟩
      refine ⟨_, rfl, _, _, rfl, rfl, ⟨by decide, by decide, by decide⟩, _, _, rfl, rfl, _, rfl, ?_⟩
      refine ite2 (fun c => ?_) (fun c => ?_)
      · refine ⟨_, rfl, _, _, rfl, rfl, _, rfl, ?_⟩
        refine ite2 (fun c2 => ?_) (fun c2 => ?_)
        · refine ⟨_, rfl, .inl ⟨rfl, _, SqL.of h2⟩, _, rfl, .inl ⟨l, rfl, ?_⟩⟩
          refine ⟨_, _, rfl, rfl, (by show (0 : Int) < 5040; decide), t, _, _, rfl, rfl, h2, app 0 0 none none, ?_⟩
          refine ⟨_, rfl, _, _, rfl, rfl, ⟨by decide, by decide⟩, ?_⟩
          exact step _ _ _ _
        · walk_at "wk"
          refine ⟨.inl ⟨rfl, _, SqL.of h2⟩, ?_⟩
          walk_at "wk"
          exact ⟨t, _, _, rfl, rfl, h2, app 0 0 none none, step _ _ _ _⟩
      · walk_at "wk"
        refine ⟨.inl ⟨rfl, _, SqL.of h2⟩, ?_⟩
        walk_at "wk"
        exact ⟨t, _, _, rfl, rfl, h2, app 0 0 none none, step _ _ _ _⟩
    · rintro σ H2 ⟨l, v6, v7, ms, rfl, h2, hl, kp⟩
      exact ⟨_, rfl, k t H2 ht kp ⟨ms, h2⟩⟩
theorem okD__law_take (F : Fz K mg "_law_take" s__law_take P__law_take) (T : Txt K mg) : Fx P w K mg base (L2.CX P w) "_law_take" 1 P__law_take (lift K F_take) := (ok__law_take (P := P) (w := w) (base := base) F T).toX.imp fun _ _ _ _ h => take_lift h
theorem okD__law_tape (F : Fz K mg "_law_tape" s__law_tape P__law_tape) (T : Txt K mg) (G : Fx P w K mg base CX0 "_law_cell" 1 P__law_cell (spCell K)) : Fx P w K mg base (L2.CX P w) "_law_tape" 2 P__law_tape (lift K F_tape) := (ok__law_tape F T G).toX.imp fun _ _ _ _ h => tape_lift h
theorem toList_app (a b : Str) : (a ++ b).cps.toList = a.cps.toList ++ b.cps.toList := by
  show (a.cps ++ b.cps).toList = _
  simp
theorem len_app (a b : Str) : (a ++ b).length = a.length + b.length := by
  show (a.cps ++ b.cps).size = _
  simp; rfl
structure Wy where
  wh : Str
  st : List (Int × Str)
  nt : List Int
def stpD (p : Int × Str) : D := .tup [.int p.1, .str p.2]
def wayD (y : Wy) : D := .tup [.str y.wh, .tup (y.st.map stpD), .tup (y.nt.map D.int)]
theorem ints_ok : ∀ ns : List Int, okL false (ns.map D.int) = true
  | [] => by rw [List.map_nil, okL]
  | n :: ns => by rw [List.map_cons, okL, okD, ints_ok ns]; rfl
theorem ints_dp : ∀ ns : List Int, dpL (ns.map D.int) = 0
  | [] => by rw [List.map_nil, dpL]
  | n :: ns => by
    have h : dpD (D.int n) = 0 := by simp [dpD]
    rw [List.map_cons, dpL, h, ints_dp ns]; rfl
abbrev s_are_integers : Stmt := top 9
abbrev N_are_integers : List Str := ["numbers", "number"]
abbrev P_are_integers : List Str := ["numbers"]
theorem sc_are_integers : FnScope N_are_integers P_are_integers (defScope s_are_integers) := ⟨rfl, rfl, rfl, by decide +kernel, rfl, by decide +kernel, by decide +kernel⟩
def F_ints : FSpec := fun ds W Q _ => ∃ ns : List Int, (ds = [.tup (ns.map D.int)] ∨ ds = [.lst (ns.map D.int)]) ∧ ns.length ≤ 1000 ∧ Q (.bl true) W
theorem ok_are_integers (F : Fz K mg "are_integers" s_are_integers P_are_integers) (T : Txt K mg) : Fx P w K mg base (L2.CX P w) "are_integers" 1 P_are_integers (lift K F_ints) := by
  refine F.okD sc_are_integers (fun ds W Q E h => ?_) (fun f cdv A outer s H E e ds Qd Ed hr lk h => ?_)
  · obtain ⟨ns, rfl | rfl, _⟩ := h <;> rfl
  · obtain ⟨ns, h, hl, k⟩ := h
    rcases h with rfl | rfl
    all_goals
      refine ⟨_, _, (pss_one (ps_ret (pe_callB (cr_allK K rfl) (by rfl) T.b_all (by decide +kernel) (pa_cons (pe_lc (own := [("number", 1)]) (g := (gName 1)) (tt := tYes) rfl sc_are_integers.nd (pi_any K (pv 0)) (blkOk_by (own := [("number", 1)]) (N := N_are_integers) (sc := defScope s_are_integers) (by decide +kernel)) (fun _ _ _ _ _ => (pg_name (i := 1) sc_are_integers.nd rfl (by first | exact Or.inl rfl | exact Or.inr rfl))) (fun _ _ _ _ _ => pts_nil) (fun _ _ _ _ _ => (pe_and (pe_callB (call_isi1K K) (by rfl) T.b_isinstance (by decide +kernel) (pa_cons (pv 1) (pa_cons (pe_bltn (v := .ty "int") (by rfl) T.b_int (by decide +kernel) rfl) pa_nil))) (pe_one (pe_not (pe_callB (call_isi1K K) (by rfl) T.b_isinstance (by decide +kernel) (pa_cons (pv 1) (pa_cons (pe_bltn (v := .ty "bool") (by rfl) T.b_bool (by decide +kernel) rfl) pa_nil)))))))) pa_nil)))), inferInstance, ?_⟩
      walk_at "d"
      refine comp_map D.int (fun _ => .bl true) ns (by simp; omega) (fun n hn N M h => ?_) ?_
      · walk_at "d"
        exact h
      · walk_at "d"
        rw [show bls (ns.map fun _ : Int => D.bl true) = some (ns.map fun _ => true) from bls_mapF _ ns]
        walk_at "d"
        rw [show ((ns.map fun _ : Int => true).all id) = true by simp]
        exact k
abbrev s_are_steps : Stmt := top 8
abbrev N_are_steps : List Str := ["steps", "step"]
abbrev P_are_steps : List Str := ["steps"]
theorem sc_are_steps : FnScope N_are_steps P_are_steps (defScope s_are_steps) := ⟨rfl, rfl, rfl, by decide +kernel, rfl, by decide +kernel, by decide +kernel⟩
def F_steps : FSpec := fun ds W Q _ => ∃ st : List (Int × Str), ds = [.lst (st.map stpD)] ∧ st.length ≤ 1000 ∧ Q (.bl true) W
theorem ok_are_steps (F : Fz K mg "are_steps" s_are_steps P_are_steps) (T : Txt K mg) (G_are_integers : Fx P w K mg base (L2.CX P w) "are_integers" 1 P_are_integers (lift K F_ints)) : Fx P w K mg base (L2.CX P w) "are_steps" 2 P_are_steps (lift K F_steps) := by
  refine F.okD sc_are_steps (fun ds W Q E h => ?_) (fun f cdv A outer s H E e ds Qd Ed hr lk h => ?_)
  · obtain ⟨st, rfl, _⟩ := h
    rfl
  · obtain ⟨st, rfl, hl, k⟩ := h
    refine ⟨_, _, (pss_cons (ps_for (passes_of rfl) rfl (pi_any K (pv 0)) (pg_name (i := 1) sc_are_steps.nd rfl (Or.inl rfl)) (pss_one (ps_if (PW.pt (pw_or (pt_not (pt_val (pe_callB (call_isiTK K) (by rfl) T.b_isinstance (by decide +kernel) (pa_cons (pv 1) (pa_cons (pe_tup (pa_cons (pe_bltn (v := .ty "tuple") (by rfl) T.b_tuple (by decide +kernel) rfl) (pa_cons (pe_bltn (v := .ty "list") (by rfl) T.b_list (by decide +kernel) rfl) pa_nil))) pa_nil))))) (pw_or (pt_cmpR (op_neU K hr.units) (pe_callB (call_lenU K) (by rfl) T.b_len PySem.boot_len (pa_cons (pv 1) pa_nil)) pe_int (nomark _)) (pw_or1 (pt_not (pt_val (fcallX (takes_of rfl rfl rfl rfl) G_are_integers (hr.mono (by first | decide | omega)) (by rfl) (pa_cons (pe_slice (sl_U K) (pv 1) po_none (po_some pe_int)) pa_nil)))))))) (pss_one (ps_ret pe_bl)) pss_nil)))
      (pss_one (ps_ret pe_bl))), inferInstance, ?_⟩
    walk_at "d"
    refine for_map stpD st (fun i S => ∃ v1, S = ⟨[some (.val (.lst (st.map stpD))), v1], e.W⟩) ⟨_, rfl⟩ ?_ ?_
    · rintro i p S hp ⟨v1, rfl⟩
      unfold stpD
      walk_at "d"
      refine iteB_F (by decide) ?_
      walk_at "d"
      rw [show cut [D.int p.1, D.str p.2] none (some 1) = [D.int p.1] from rfl]
      refine ⟨[p.1], .inl rfl, by simp, ?_⟩
      walk_at "d"
      exact ⟨_, rfl⟩
    · rintro S ⟨v1, rfl⟩
      walk_at "d"
      exact k
abbrev s_ascending : Stmt := top 10
abbrev N_ascending : List Str := ["numbers", "number"]
abbrev P_ascending : List Str := ["numbers"]
theorem sc_ascending : FnScope N_ascending P_ascending (defScope s_ascending) := ⟨rfl, rfl, rfl, by decide +kernel, rfl, by decide +kernel, by decide +kernel⟩
def F_asc : FSpec := fun ds W Q _ => ∃ ns : List Int, (ds = [.tup (ns.map D.int)] ∨ ds = [.lst (ns.map D.int)]) ∧ ns.length < 64 ∧ Q (.tup ((srt ns).map D.int)) W
theorem ok_ascending (F : Fz K mg "ascending" s_ascending P_ascending) (T : Txt K mg) : Fx P w K mg base (L2.CX P w) "ascending" 1 P_ascending (lift K F_asc) := by
  refine F.okD sc_ascending (fun ds W Q E h => ?_) (fun f cdv A outer s H E e ds Qd Ed hr lk h => ?_)
  · obtain ⟨ns, rfl | rfl, _⟩ := h
    · rfl
    · rfl
  · obtain ⟨ns, h, hl, k⟩ := h
    have fin : ∀ d : D, ds = [d] → (d = .tup (ns.map D.int) ∨ d = .lst (ns.map D.int)) → ∃ t td, PSs (cxOf (L2.CX P w) P w K mg base N_ascending "ascending" (defScope s_ascending) f cdv A outer s H E) (defBody s_ascending) t ∧ SimZ K e t td ∧ td ⟨fun S => Qd .non S.W, Qd, fun _ => False, fun _ => False, fun _ _ => False⟩ (S0 N_ascending ds e.W) := by
      intro d hd hc
      subst hd
      refine ⟨_, _, (pss_one (ps_ret (pe_callTy (call_tuple_ofK K) (by rfl) T.b_tuple (by decide +kernel) (pa_cons (pe_callB (cr_sortedK K) (by rfl) T.b_sorted (by decide +kernel) (pa_cons (pe_lc (own := [("number", 1)]) (g := (gName 1)) (tt := tYes) rfl sc_ascending.nd (pi_any K (pv 0)) (blkOk_by (own := [("number", 1)]) (N := N_ascending) (sc := defScope s_ascending) (by decide +kernel)) (fun _ _ _ _ _ => (pg_name (i := 1) sc_ascending.nd rfl (by first | exact Or.inl rfl | exact Or.inr rfl))) (fun _ _ _ _ _ => pts_nil) (fun _ _ _ _ _ => (pe_callTy call_intU (by rfl) T.b_int (by decide +kernel) (pa_cons (pv 1) pa_nil)))) pa_nil)) pa_nil)))), inferInstance, ?_⟩
      rcases hc with rfl | rfl
      all_goals
        walk_at "d"
        refine comp_map D.int D.int ns (by simp; omega) (fun n hn N M h => ?_) ?_
        · walk_at "d"
          exact h
        · walk_at "d"
          rw [nts_map]
          walk_at "d"
          exact ⟨hl, k⟩
    rcases h with h | h
    · exact fin _ h (.inl rfl)
    · exact fin _ h (.inr rfl)
abbrev s_is_way : Stmt := top 11
abbrev N_is_way : List Str := ["whole", "steps", "noted", "k", "place", "mode"]
abbrev P_is_way : List Str := ["whole", "steps", "noted"]
theorem sc_is_way : FnScope N_is_way P_is_way (defScope s_is_way) := ⟨rfl, rfl, rfl, by decide +kernel, rfl, by decide +kernel, by decide +kernel⟩
def isDir (x : Str) : Bool := decide (x = Str.ofString "told" ∨ x = Str.ofString "found")
def rgI (n : Nat) : List Int := (List.range n).map fun (i : Nat) => (i : Int)
def noteAt (n : Nat) (l : List Int) (i : Nat) : Bool := decide (0 ≤ l.getD i 0) && decide (l.getD i 0 < n) && !decide (l.getD i 0 ∈ l.take i)
def isWayB (y : Wy) : Bool := isDir y.wh && decide (y.st.length ≤ 3) && y.st.all (fun p => isDir p.2) && decide (srt (y.st.map (·.1)) = rgI y.st.length) && (List.range y.nt.length).all (noteAt y.st.length y.nt)
theorem rng_rgI (n : Nat) : rng 0 n = (rgI n).map D.int := by
  unfold rng rgI
  rw [List.map_map]
  refine List.map_congr_left fun i _ => ?_
  simp
theorem ints_inj {a b : List Int} : D.tup (a.map D.int) = D.tup (b.map D.int) ↔ a = b := by
  constructor
  · intro h
    injection h with h
    exact (List.map_inj_right (f := D.int) fun x y e => by injection e).mp h
  · intro h; rw [h]
def F_isWay : FSpec := fun ds W Q _ => ∃ y : Wy, ds = [.str y.wh, .tup (y.st.map stpD), .tup (y.nt.map D.int)] ∧ y.st.length ≤ 60 ∧ y.nt.length ≤ 60 ∧ Q (.bl (isWayB y)) W
theorem ok_is_way (F : Fz K mg "is_way" s_is_way P_is_way) (T : Txt K mg) (G_ascending : Fx P w K mg base (L2.CX P w) "ascending" 1 P_ascending (lift K F_asc)) : Fx P w K mg base (L2.CX P w) "is_way" 2 P_is_way (lift K F_isWay) := by
  refine F.okD sc_is_way (fun ds W Q E h => ?_) (fun f cdv A outer s H E e ds Qd Ed hr lk h => ?_)
  · obtain ⟨y, rfl, _⟩ := h
    rfl
  · obtain ⟨⟨wh, st, nt⟩, rfl, hs, hn, k⟩ := h
    have hs : st.length ≤ 60 := hs
    have hn : nt.length ≤ 60 := hn
    have k : Qd (.bl (isDir wh && decide (st.length ≤ 3) && st.all (fun p => isDir p.2) && decide (srt (st.map (·.1)) = rgI st.length) && (List.range nt.length).all (noteAt st.length nt))) e.W := k
    refine ⟨_, _, (pss_cons (ps_if (PW.pt (pw_or (pt_cmpR (op_notInU K (hu65_of hr)) (pv 0) (pe_tup (pa_cons (pglob rfl T.c_TOLD) (pa_cons (pglob rfl T.c_FOUND) pa_nil))) (by rfl)) (pw_or1 (pt_cmpR op_gtU (pe_callB (call_lenU K) (by rfl) T.b_len PySem.boot_len (pa_cons (pv 1) pa_nil)) (pglob rfl T.c_MOST_PLACES) (nomark _))))) (pss_one (ps_ret pe_bl)) pss_nil)
      (pss_cons (ps_if (pt_not (pt_val (pe_callB (cr_allK K rfl) (by rfl) T.b_all (by decide +kernel) (pa_cons (pe_lc (own := [("place", 4), ("mode", 5)]) (g := (gTup K 2 (gCons (gName 4) (gCons (gName 5) gNil)))) (tt := tYes) rfl sc_is_way.nd (pi_any K (pv 1)) (blkOk_by (own := [("place", 4), ("mode", 5)]) (N := N_is_way) (sc := defScope s_is_way) (by decide +kernel)) (fun _ _ _ _ _ => (pg_tupK K 2 rfl (pgs_cons (pg_name (i := 4) sc_is_way.nd rfl (by first | exact Or.inl rfl | exact Or.inr rfl)) (pgs_cons (pg_name (i := 5) sc_is_way.nd rfl (by first | exact Or.inl rfl | exact Or.inr rfl)) pgs_nil)))) (fun _ _ _ _ _ => pts_nil) (fun _ _ _ _ _ => (pe_cmpR (op_inU K (hu65_of hr)) (pv 5) (pe_tup (pa_cons (pglob rfl T.c_TOLD) (pa_cons (pglob rfl T.c_FOUND) pa_nil))) (by rfl)))) pa_nil)))) (pss_one (ps_ret pe_bl)) pss_nil)
      (pss_cons (ps_if (pt_cmpR (op_neU K hr.units) (fcallX (takes_of rfl rfl rfl rfl) G_ascending (hr.mono (by first | decide | omega)) (by rfl) (pa_cons (pe_lc (own := [("place", 4), ("mode", 5)]) (g := (gTup K 2 (gCons (gName 4) (gCons (gName 5) gNil)))) (tt := tYes) rfl sc_is_way.nd (pi_any K (pv 1)) (blkOk_by (own := [("place", 4), ("mode", 5)]) (N := N_is_way) (sc := defScope s_is_way) (by decide +kernel)) (fun _ _ _ _ _ => (pg_tupK K 2 rfl (pgs_cons (pg_name (i := 4) sc_is_way.nd rfl (by first | exact Or.inl rfl | exact Or.inr rfl)) (pgs_cons (pg_name (i := 5) sc_is_way.nd rfl (by first | exact Or.inl rfl | exact Or.inr rfl)) pgs_nil)))) (fun _ _ _ _ _ => pts_nil) (fun _ _ _ _ _ => (pv 4))) pa_nil)) (pe_tupRg rfl (by rfl) T.b_tuple (prg_1 (by rfl) T.b_range (pe_callB (call_lenU K) (by rfl) T.b_len PySem.boot_len (pa_cons (pv 1) pa_nil)))) (nomark _)) (pss_one (ps_ret pe_bl)) pss_nil)
      (pss_cons (ps_for (passes_of rfl) rfl (pi_range1 (by rfl) T.b_range (pa_cons (pe_callB (call_lenU K) (by rfl) T.b_len PySem.boot_len (pa_cons (pv 2) pa_nil)) pa_nil)) (pg_name (i := 3) sc_is_way.nd rfl (Or.inl rfl)) (pss_one (ps_if (PW.pt (pw_or (pt_cmpR op_ltU (pe_ix (ix_U K (hu_of hr)) (pv 2) (pv 3) (fun _ _ => rfl)) pe_int (nomark _)) (pw_or (pt_cmpR op_geU (pe_ix (ix_U K (hu_of hr)) (pv 2) (pv 3) (fun _ _ => rfl)) (pe_callB (call_lenU K) (by rfl) T.b_len PySem.boot_len (pa_cons (pv 1) pa_nil)) (nomark _)) (pw_or1 (pt_cmpR (op_inU K (hu65_of hr)) (pe_ix (ix_U K (hu_of hr)) (pv 2) (pv 3) (fun _ _ => rfl)) (pe_slice (sl_U K) (pv 2) po_none (po_some (pv 3))) (by rfl)))))) (pss_one (ps_ret pe_bl)) pss_nil)))
      (pss_one (ps_ret pe_bl)))))), inferInstance, ?_⟩
    walk_at "d"
    refine ⟨⟨false, rfl, rfl⟩, ?_⟩
    refine iteB_by (fun c1 => ?_) (fun c1 => ?_)
    · walk_at "d"
      rw [show isDir wh = false from decide_eq_false c1] at k
      exact k
    · have c1 : isDir wh = true := decide_eq_true (Decidable.not_not.mp c1)
      rw [c1, Bool.true_and] at k
      walk_at "d"
      refine iteB_by (fun c2 => ?_) (fun c2 => ?_)
      · rw [List.length_map] at c2
        walk_at "d"
        rw [decide_eq_false (show ¬ st.length ≤ 3 by omega)] at k
        exact k
      · rw [List.length_map] at c2
        rw [decide_eq_true (show st.length ≤ 3 by omega), Bool.true_and] at k
        walk_at "d"
        refine comp_map stpD (fun p => .bl (isDir p.2)) st (by simp; omega) (fun p hp N M h => ?_) ?_
        · unfold stpD
          walk_at "d"
          refine ⟨⟨false, rfl, rfl⟩, ?_⟩
          exact h
        · walk_at "d"
          rw [bls_mapF]
          walk_at "d"
          rw [List.all_map]
          rw [show (st.all (id ∘ fun p => isDir p.2)) = st.all (fun p => isDir p.2) from rfl]
          refine iteB_by (fun c3 => ?_) (fun c3 => ?_)
          · walk_at "d"
            rw [c3] at k
            exact k
          · rw [Bool.not_eq_false] at c3
            rw [c3, Bool.true_and] at k
            walk_at "d"
            refine comp_map stpD (fun p => .int p.1) st (by simp; omega) (fun p hp N M h => ?_) ?_
            · unfold stpD
              walk_at "d"
              exact h
            · walk_at "d"
              refine ⟨st.map (·.1), .inr (by rw [List.map_map]; rfl), by rw [List.length_map]; omega, ?_⟩
              walk_at "d"
              rw [List.length_map, show ((st.length : Int) - 0).toNat = st.length by omega, rng_rgI]
              refine ⟨⟨by omega, by omega, by omega, by omega⟩, .inr ⟨false, by rw [okD]; exact ints_ok _, by rw [okD]; exact ints_ok _, by rw [dpD, ints_dp]; omega, by rw [dpD, ints_dp]; omega⟩, ?_⟩
              refine iteB_by (fun c4 => ?_) (fun c4 => ?_)
              · rw [ints_inj] at c4
                walk_at "d"
                rw [decide_eq_false c4] at k
                exact k
              · rw [ints_inj] at c4
                rw [decide_eq_true (Decidable.not_not.mp c4), Bool.true_and] at k
                walk_at "d"
                rw [List.length_map]
                refine ⟨by omega, by omega, ?_⟩
                rw [show ((nt.length : Int)).toNat = nt.length by omega]
                refine for_rng (fun i S => ∃ v3, S = ⟨[some (.val (.str wh)), some (.val (.tup (st.map stpD))), some (.val (.tup (nt.map D.int))), v3, none, none], e.W⟩ ∧ (List.range i).all (noteAt st.length nt) = true) ⟨_, rfl, rfl⟩ ?_ ?_
                · rintro i S hi ⟨v3, rfl, ha⟩
                  have ei : nt[i]? = some (nt.getD i 0) := by rw [List.getD_eq_getElem?_getD, List.getElem?_eq_getElem hi]; rfl
                  have ix : ∀ {z : Int}, z = (i : Int) → atI (nt.map D.int) z = some (.int (nt.getD i 0)) := fun hz => at_get hz (by rw [List.getElem?_map, ei]; rfl)
                  have bad : noteAt st.length nt i = false → Qd (.bl false) e.W := fun z => by
                    have : (List.range nt.length).all (noteAt st.length nt) = false := by
                      rw [← Bool.not_eq_true, List.all_eq_true]
                      exact fun h => by rw [h i (List.mem_range.mpr hi)] at z; cases z
                    rw [this] at k
                    exact k
                  have good : noteAt st.length nt i = true → (List.range (i + 1)).all (noteAt st.length nt) = true := fun z => by
                    rw [List.range_succ, List.all_append, ha, List.all_cons, List.all_nil, z]; rfl
                  unfold noteAt at bad good
                  generalize nt.getD i 0 = z at *
                  walk_at "d"
                  rw [ix (by omega)]
                  walk_at "d"
                  refine iteB_by (fun d1 => ?_) (fun d1 => ?_)
                  · walk_at "d"
                    exact bad (by rw [decide_eq_false (show ¬ 0 ≤ z by omega)]; rfl)
                  · walk_at "d"
                    rw [ix (by omega)]
                    walk_at "d"
                    rw [List.length_map]
                    refine iteB_by (fun d2 => ?_) (fun d2 => ?_)
                    · walk_at "d"
                      exact bad (by rw [decide_eq_false (show ¬ z < st.length by omega)]; simp)
                    · walk_at "d"
                      rw [ix (by omega)]
                      walk_at "d"
                      rw [cut_to (i := i) (by omega) (by rw [List.length_map]; omega), ← List.map_take]
                      have em : D.int z ∈ (nt.take i).map D.int ↔ z ∈ nt.take i := ⟨fun h => by obtain ⟨x, hx, e⟩ := List.mem_map.mp h; cases e; exact hx, fun h => List.mem_map.mpr ⟨z, h, rfl⟩⟩
                      refine ⟨⟨false, rfl, by rw [List.all_eq_true]; intro d hd; obtain ⟨x, _, rfl⟩ := List.mem_map.mp hd; rfl⟩, ?_⟩
                      refine iteB_by (fun d3 => ?_) (fun d3 => ?_)
                      · walk_at "d"
                        exact bad (by rw [decide_eq_true (em.mp d3)]; simp)
                      · walk_at "d"
                        exact ⟨_, rfl, good (by rw [decide_eq_false (fun h => d3 (em.mpr h)), decide_eq_true (show 0 ≤ z by omega), decide_eq_true (show z < st.length by omega)]; rfl)⟩
                · rintro S ⟨v3, rfl, ha⟩
                  walk_at "d"
                  rw [ha] at k
                  exact k
abbrev s_way_text : Stmt := top 13
abbrev N_way_text : List Str := ["chosen", "text", "whole", "steps", "noted", "place", "mode"]
abbrev P_way_text : List Str := ["chosen"]
theorem sc_way_text : FnScope N_way_text P_way_text (defScope s_way_text) := ⟨rfl, rfl, rfl, by decide +kernel, rfl, by decide +kernel, by decide +kernel⟩
def stepS (p : Int × Str) : Str := ((Str.empty ++ (toString p.1 : Str)) ++ Str.ofString " ") ++ p.2
def stepsS (st : List (Int × Str)) : Str := Txt.join (Str.ofString ", ") (st.map stepS)
def wtext (y : Wy) : Str := if 0 < y.nt.length then ((y.wh ++ Str.ofString ": ") ++ (if stepsS y.st = Str.ofString "" then Str.ofString "-" else stepsS y.st)) ++ (Str.ofString "; noted " ++ Txt.join (Str.ofString ", ") (y.nt.map fun k => (toString k : Str))) else (y.wh ++ Str.ofString ": ") ++ (if stepsS y.st = Str.ofString "" then Str.ofString "-" else stepsS y.st)
structure SmW (y : Wy) : Prop where
  wh : y.wh.length ≤ 10
  sl : y.st.length ≤ 3
  nl : y.nt.length ≤ 3
  st : ∀ p ∈ y.st, 0 ≤ p.1 ∧ p.1 ≤ 10 ∧ p.2.length ≤ 10
  nt : ∀ k ∈ y.nt, 0 ≤ k ∧ k ≤ 10
  ow : PyData.strOk y.wh = true
  os : ∀ p ∈ y.st, PyData.strOk p.2 = true
theorem num_len {i : Int} (h0 : 0 ≤ i) (h1 : i ≤ 10) : 1 ≤ (toString i : Str).length ∧ (toString i : Str).length ≤ 2 := by
  have : i = 0 ∨ i = 1 ∨ i = 2 ∨ i = 3 ∨ i = 4 ∨ i = 5 ∨ i = 6 ∨ i = 7 ∨ i = 8 ∨ i = 9 ∨ i = 10 := by omega
  rcases this with rfl | rfl | rfl | rfl | rfl | rfl | rfl | rfl | rfl | rfl | rfl <;> decide +kernel
theorem stepS_len {p : Int × Str} (h : 0 ≤ p.1 ∧ p.1 ≤ 10 ∧ p.2.length ≤ 10) : (stepS p).length ≤ 20 := by
  obtain ⟨a, b, c⟩ := h
  have := (num_len a b).2
  unfold stepS
  rw [len_app, len_app, len_app]
  have e1 : (Str.ofString " ").length = 1 := by decide +kernel
  have e0 : Str.empty.length = 0 := rfl
  omega
theorem sum_le {α : Type} {f : α → Nat} {n : Nat} : ∀ {l : List α}, (∀ x ∈ l, f x ≤ n) → (l.map f).sum ≤ n * l.length
  | [], _ => by simp
  | x :: l, h => by
    have := h x List.mem_cons_self
    have := sum_le (f := f) (n := n) (l := l) fun y hy => h y (List.mem_cons_of_mem _ hy)
    rw [List.map_cons, List.sum_cons, List.length_cons, Nat.mul_add]
    omega
theorem joinS_len (sep : Str) (texts : List Str) : (Txt.join sep texts).length ≤ (texts.map (·.length)).sum + texts.length * sep.length := by
  unfold Txt.join
  rw [StrLaws.glued_eq_join]
  exact StrLaws.join_length_le sep texts
theorem comma_len : (Str.ofString ", ").length = 2 := by decide +kernel
theorem stepsS_len {y : Wy} (h : SmW y) : ((y.st.map stepS).map (·.length)).sum ≤ 60 ∧ (stepsS y.st).length ≤ 66 := by
  have h1 : ((y.st.map stepS).map (·.length)).sum ≤ 20 * (y.st.map stepS).length := sum_le fun x hx => by
    obtain ⟨p, hp, rfl⟩ := List.mem_map.mp hx
    exact stepS_len (h.st p hp)
  have h2 := joinS_len (Str.ofString ", ") (y.st.map stepS)
  have h3 := h.sl
  rw [List.length_map] at h1 h2
  rw [comma_len] at h2
  unfold stepsS
  constructor
  · omega
  · omega
theorem notesS_len {y : Wy} (h : SmW y) : ((y.nt.map fun k => (toString k : Str)).map (·.length)).sum ≤ 6 ∧ (Txt.join (Str.ofString ", ") (y.nt.map fun k => (toString k : Str))).length ≤ 12 := by
  have h1 : ((y.nt.map fun k => (toString k : Str)).map (·.length)).sum ≤ 2 * (y.nt.map fun k => (toString k : Str)).length := sum_le fun x hx => by
    obtain ⟨p, hp, rfl⟩ := List.mem_map.mp hx
    exact (num_len (h.nt p hp).1 (h.nt p hp).2).2
  have h2 := joinS_len (Str.ofString ", ") (y.nt.map fun k => (toString k : Str))
  have h3 := h.nl
  rw [List.length_map] at h1 h2
  rw [comma_len] at h2
  constructor
  · omega
  · omega
theorem wtext_len {y : Wy} (h : SmW y) : (wtext y).length ≤ 200 := by
  have h1 := (stepsS_len h).2
  have h2 := (notesS_len h).2
  have h3 := h.wh
  have e1 : (Str.ofString ": ").length = 2 := by decide +kernel
  have e2 : (Str.ofString "; noted ").length = 8 := by decide +kernel
  have e3 : (if stepsS y.st = Str.ofString "" then Str.ofString "-" else stepsS y.st).length ≤ 66 := by
    split
    · decide +kernel
    · exact h1
  unfold wtext
  split
  · rw [len_app, len_app, len_app, len_app]; omega
  · rw [len_app, len_app]; omega
def F_wtext : FSpec := fun ds W Q _ => ∃ y : Wy, ds = [wayD y] ∧ SmW y ∧ Q (.str (wtext y)) W
theorem ok_way_text (F : Fz K mg "way_text" s_way_text P_way_text) (T : Txt K mg) : Fx P w K mg base (L2.CX P w) "way_text" 1 P_way_text (lift K F_wtext) := by
  refine F.okD sc_way_text (fun ds W Q E h => ?_) (fun f cdv A outer s H E e ds Qd Ed hr lk h => ?_)
  · obtain ⟨y, rfl, _⟩ := h
    rfl
  · obtain ⟨⟨wh, st, nt⟩, rfl, hy, k⟩ := h
    refine ⟨_, _, (pss_cons (ps_asg (pv 0) (pg_tupK K 3 rfl (pgs_cons (pg_name (i := 2) sc_way_text.nd rfl (Or.inl rfl)) (pgs_cons (pg_name (i := 3) sc_way_text.nd rfl (Or.inl rfl)) (pgs_cons (pg_name (i := 4) sc_way_text.nd rfl (Or.inl rfl)) pgs_nil)))))
      (pss_cons (ps_set (i := 1) sc_way_text.nd rfl (Or.inl rfl) (pe_bmK K PySem.F.plainAttrs_str PySem.F.slot_str_join PySem.F.type_str_join (mt_joinK K) pe_str (pa_cons (pe_lc (own := [("place", 5), ("mode", 6)]) (g := (gTup K 2 (gCons (gName 5) (gCons (gName 6) gNil)))) (tt := tYes) rfl sc_way_text.nd (pi_any K (pv 3)) (blkOk_by (own := [("place", 5), ("mode", 6)]) (N := N_way_text) (sc := defScope s_way_text) (by decide +kernel)) (fun _ _ _ _ _ => (pg_tupK K 2 rfl (pgs_cons (pg_name (i := 5) sc_way_text.nd rfl (by first | exact Or.inl rfl | exact Or.inr rfl)) (pgs_cons (pg_name (i := 6) sc_way_text.nd rfl (by first | exact Or.inl rfl | exact Or.inr rfl)) pgs_nil)))) (fun _ _ _ _ _ => pts_nil) (fun _ _ _ _ _ => (pe_joinedN (.cons (pe_fmt (pv 5)) (.cons pe_str (.cons (pe_fmt (pv 6)) .nil)))))) pa_nil)))
      (pss_cons (ps_if (pt_cmpR (op_eqU K hr.units) (pv 1) pe_str (nomark _)) (pss_one (ps_set (i := 1) sc_way_text.nd rfl (Or.inl rfl) pe_str)) pss_nil)
      (pss_cons (ps_set (i := 1) sc_way_text.nd rfl (Or.inl rfl) (pe_op (op_addU K) (pe_op (op_addU K) (pv 2) pe_str) (pv 1)))
      (pss_cons (ps_if (pt_cmpR op_gtU (pe_callB (call_lenU K) (by rfl) T.b_len PySem.boot_len (pa_cons (pv 4) pa_nil)) pe_int (nomark _)) (pss_one (ps_aug (i := 1) sc_way_text.nd rfl (Or.inl rfl) (pe_op (op_addU K) pe_str (pe_bmK K PySem.F.plainAttrs_str PySem.F.slot_str_join PySem.F.type_str_join (mt_joinK K) pe_str (pa_cons (pe_lc (own := [("place", 5)]) (g := (gName 5)) (tt := tYes) rfl sc_way_text.nd (pi_any K (pv 4)) (blkOk_by (own := [("place", 5)]) (N := N_way_text) (sc := defScope s_way_text) (by decide +kernel)) (fun _ _ _ _ _ => (pg_name (i := 5) sc_way_text.nd rfl (by first | exact Or.inl rfl | exact Or.inr rfl))) (fun _ _ _ _ _ => pts_nil) (fun _ _ _ _ _ => (pe_callTy call_strU (by rfl) T.b_str (by decide +kernel) (pa_cons (pv 5) pa_nil)))) pa_nil))) ip_augU)) pss_nil)
      (pss_one (ps_ret (pv 1)))))))), inferInstance, ?_⟩
    have h1 := stepsS_len hy
    have h2 := notesS_len hy
    have hw : wh.length ≤ 10 := hy.wh
    have hsl : st.length ≤ 3 := hy.sl
    have hnl : nt.length ≤ 3 := hy.nl
    have hst : ∀ p ∈ st, 0 ≤ p.1 ∧ p.1 ≤ 10 ∧ p.2.length ≤ 10 := hy.st
    have hnt : ∀ k ∈ nt, 0 ≤ k ∧ k ≤ 10 := hy.nt
    unfold wayD
    walk_at "d"
    refine comp_map stpD (fun p => .str (stepS p)) st (by simp; omega) (fun p hp N M h => ?_) ?_
    · unfold stpD
      have hp := hst p hp
      have hnm := num_len hp.1 hp.2.1
      walk_at "d"
      have e0 : Str.empty.length = 0 := rfl
      have e1 : (Str.ofString " ").length = 1 := by decide +kernel
      refine ⟨by have : p.1.natAbs ≤ 10 := by omega
                 exact Nat.lt_of_le_of_lt this (by decide +kernel), by rw [len_app]; omega, by rw [len_app, len_app]; omega, by omega, by rw [len_app, len_app, len_app]; omega, h⟩
    walk_at "d"
    rw [strsD_mapF]
    walk_at "d"
    have h1 : ((st.map stepS).map (·.length)).sum ≤ 60 ∧ (stepsS st).length ≤ 66 := h1
    have h2 : ((nt.map fun k => (toString k : Str)).map (·.length)).sum ≤ 6 ∧ (Txt.join (Str.ofString ", ") (nt.map fun k => (toString k : Str))).length ≤ 12 := h2
    have c1 := comma_len
    have c2 : (Str.ofString ": ").length = 2 := by decide +kernel
    have c3 : (Str.ofString "; noted ").length = 8 := by decide +kernel
    have c4 : (Str.ofString "-").length = 1 := by decide +kernel
    refine ⟨by rw [List.length_map, c1]; omega, ?_⟩
    rw [show Txt.join (Str.ofString ", ") (st.map stepS) = stepsS st from rfl]
    unfold wtext at k
    have k : Qd (.str (if 0 < nt.length then ((wh ++ Str.ofString ": ") ++ (if stepsS st = Str.ofString "" then Str.ofString "-" else stepsS st)) ++ (Str.ofString "; noted " ++ Txt.join (Str.ofString ", ") (nt.map fun k => (toString k : Str))) else (wh ++ Str.ofString ": ") ++ (if stepsS st = Str.ofString "" then Str.ofString "-" else stepsS st))) e.W := k
    have tail : ∀ tx : Str, tx.length ≤ 66 → tx = (if stepsS st = Str.ofString "" then Str.ofString "-" else stepsS st) → (wh ++ Str.ofString ": ").length + tx.length ≤ 1000000 ∧ wh.length + (Str.ofString ": ").length ≤ 1000000 := fun tx h _ => ⟨by rw [len_app]; omega, by omega⟩
    refine iteB_by (fun c => ?_) (fun c => ?_)
    all_goals
      first
        | rw [if_pos c] at k
        | rw [if_neg c] at k
      walk_at "d"
      rw [List.length_map]
      refine ⟨by omega, by rw [len_app]; omega, ?_⟩
      refine iteB_by (fun c5 => ?_) (fun c5 => ?_)
      · rw [if_pos (show 0 < nt.length by omega)] at k
        walk_at "d"
        refine comp_map D.int (fun k => .str (toString k : Str)) nt (by simp; omega) (fun m hm N M h => ?_) ?_
        · have hm := hnt m hm
          walk_at "d"
          exact ⟨Nat.lt_of_le_of_lt (Nat.log2_le_self _) (by omega), h⟩
        walk_at "d"
        rw [strsD_mapF]
        walk_at "d"
        exact ⟨by rw [List.length_map, c1]; omega, by omega, by rw [len_app, len_app, len_app]; omega, k⟩
      · rw [if_neg (show ¬ 0 < nt.length by omega)] at k
        walk_at "d"
        exact k
abbrev s_way : Stmt := top 12
abbrev N_way : List Str := ["whole", "places", "noted", "row", "steps", "marked", "step"]
abbrev P_way : List Str := ["whole", "places", "noted"]
theorem sc_way : FnScope N_way P_way (defScope s_way) := ⟨rfl, rfl, rfl, by decide +kernel, rfl, by decide +kernel, by decide +kernel⟩
def wayB (K : PySem.W.Frag) (fd : FuncData) : Prop := KBn K fd P_way 0 P_way (fun _ ws => ws) (fun _ zs => zs)
def F_mkway (C : Addr) : FSpec := fun ds W Q E => ∃ (wh : Str) (st : List (Int × Str)) (nt : List Int), ds = [.str wh, .lst (st.map stpD), .lst (nt.map D.int)] ∧ st.length ≤ 60 ∧ nt.length ≤ 60 ∧ (isWayB ⟨wh, st, srt nt⟩ = true → Q (wayD ⟨wh, st, srt nt⟩) W) ∧ (isWayB ⟨wh, st, srt nt⟩ = false → E ⟨C, []⟩ W)
theorem ok_way (F : FzB K mg "way" s_way (wayB K)) (T : Txt K mg) (G_are_integers : Fx P w K mg base (L2.CX P w) "are_integers" 1 P_are_integers (lift K F_ints)) (G_are_steps : Fx P w K mg base (L2.CX P w) "are_steps" 2 P_are_steps (lift K F_steps)) (G_ascending : Fx P w K mg base (L2.CX P w) "ascending" 1 P_ascending (lift K F_asc)) (G_is_way : Fx P w K mg base (L2.CX P w) "is_way" 2 P_is_way (lift K F_isWay)) : FxB P w K mg base (L2.CX P w) "way" 3 P_way (lift K (F_mkway (clsA mg "BadWay"))) (wayB K) := by
  refine F.okD sc_way (fun ds W Q E h => ?_) (fun f cdv A outer s H E e ds Qd Ed hr lk h => ?_)
  · obtain ⟨wh, st, nt, rfl, _⟩ := h
    rfl
  · obtain ⟨wh, st, nt, rfl, hs, hn, k1, k2⟩ := h
    refine ⟨_, _, (pss_cons (ps_set (i := 3) sc_way.nd rfl (Or.inl rfl) (pe_callTy (call_listK K rfl) (by rfl) T.b_list (by decide +kernel) (pa_cons (pv 1) pa_nil)))
      (pss_cons (ps_set (i := 2) sc_way.nd rfl (Or.inl rfl) (pe_callTy (call_listK K rfl) (by rfl) T.b_list (by decide +kernel) (pa_cons (pv 2) pa_nil)))
      (pss_cons (ps_if (PW.pt (pw_or (pt_not (pt_val (fcallX (takes_of rfl rfl rfl rfl) G_are_steps (hr.mono (by first | decide | omega)) (by rfl) (pa_cons (pv 3) pa_nil)))) (pw_or1 (pt_not (pt_val (fcallX (takes_of rfl rfl rfl rfl) G_are_integers (hr.mono (by first | decide | omega)) (by rfl) (pa_cons (pv 2) pa_nil))))))) (pss_one (ps_raiseU rfl (takes_of rfl rfl rfl rfl) (pmk_own PySem.F.excBase_ValueError T.e_BadWay.ex T.e_BadWay.g T.e_BadWay.k (raises_own T.e_BadWay.b T.e_BadWay.t) rfl))) pss_nil)
      (pss_cons (ps_set (i := 4) sc_way.nd rfl (Or.inl rfl) (pe_callTy (call_tuple_ofK K) (by rfl) T.b_tuple (by decide +kernel) (pa_cons (pe_lc (own := [("step", 6)]) (g := (gName 6)) (tt := tYes) rfl sc_way.nd (pi_any K (pv 3)) (blkOk_by (own := [("step", 6)]) (N := N_way) (sc := defScope s_way) (by decide +kernel)) (fun _ _ _ _ _ => (pg_name (i := 6) sc_way.nd rfl (by first | exact Or.inl rfl | exact Or.inr rfl))) (fun _ _ _ _ _ => pts_nil) (fun _ _ _ _ _ => (pe_callTy (call_tuple_ofK K) (by rfl) T.b_tuple (by decide +kernel) (pa_cons (pv 6) pa_nil)))) pa_nil)))
      (pss_cons (ps_set (i := 5) sc_way.nd rfl (Or.inl rfl) (fcallX (takes_of rfl rfl rfl rfl) G_ascending (hr.mono (by first | decide | omega)) (by rfl) (pa_cons (pv 2) pa_nil)))
      (pss_cons (ps_if (pt_not (pt_val (fcallX (takes_of rfl rfl rfl rfl) G_is_way (hr.mono (by first | decide | omega)) (by rfl) (pa_cons (pv 0) (pa_cons (pv 4) (pa_cons (pv 5) pa_nil)))))) (pss_one (ps_raiseU rfl (takes_of rfl rfl rfl rfl) (pmk_own PySem.F.excBase_ValueError T.e_BadWay.ex T.e_BadWay.g T.e_BadWay.k (raises_own T.e_BadWay.b T.e_BadWay.t) rfl))) pss_nil)
      (pss_one (ps_ret (pe_tup (pa_cons (pv 0) (pa_cons (pv 4) (pa_cons (pv 5) pa_nil)))))))))))), inferInstance, ?_⟩
    walk_at "d"
    refine ⟨st, rfl, by omega, ?_⟩
    walk_at "d"
    refine ⟨nt, .inr rfl, by omega, ?_⟩
    walk_at "d"
    refine comp_map stpD stpD st (by simp; omega) (fun p hp N M h => ?_) ?_
    · unfold stpD
      walk_at "d"
      exact h
    · walk_at "d"
      refine ⟨nt, .inr rfl, by omega, ?_⟩
      walk_at "d"
      refine ⟨⟨wh, st, srt nt⟩, rfl, hs, (by show (srt nt).length ≤ 60; rw [(srt_perm nt).length_eq]; exact hn), ?_⟩
      walk_at "d"
      refine iteB_by (fun c => ?_) (fun c => ?_)
      · walk_at "d"
        exact k2 (by simpa using c)
      · walk_at "d"
        exact k1 (by simpa using c)
abbrev s_parse_step : Stmt := top 14
abbrev N_parse_step : List Str := ["text", "place", "mode"]
abbrev P_parse_step : List Str := ["text"]
theorem sc_parse_step : FnScope N_parse_step P_parse_step (defScope s_parse_step) := ⟨rfl, rfl, rfl, by decide +kernel, rfl, by decide +kernel, by decide +kernel⟩
def allS : List (Int × Str) := [(0, Str.ofString "told"), (0, Str.ofString "found"), (1, Str.ofString "told"), (1, Str.ofString "found"), (2, Str.ofString "told"), (2, Str.ofString "found")]
def pstepO (x : Str) : Option (Int × Str) := allS.find? fun p => decide (x = stepS p)
theorem pstep_at : ∀ p ∈ allS, pstepO (stepS p) = some p := by decide +kernel
def F_pstep (C : Addr) : FSpec := fun ds W Q E => ∃ x : Str, ds = [.str x] ∧ x.length ≤ 1000 ∧ (∀ p, pstepO x = some p → Q (stpD p) W) ∧ (pstepO x = none → E ⟨C, []⟩ W)
theorem ok_parse_step (F : Fz K mg "parse_step" s_parse_step P_parse_step) (T : Txt K mg) : Fx P w K mg base (L2.CX P w) "parse_step" 1 P_parse_step (lift K (F_pstep (clsA mg "BadWay"))) := by
  refine F.okD sc_parse_step (fun ds W Q E h => ?_) (fun f cdv A outer s H E e ds Qd Ed hr lk h => ?_)
  · obtain ⟨x, rfl, _⟩ := h
    rfl
  · obtain ⟨x, rfl, hx, k1, k2⟩ := h
    refine ⟨_, _, (pss_cons (ps_for (passes_of rfl) rfl (pi_range1 (by rfl) T.b_range (pa_cons (pglob rfl T.c_MOST_PLACES) pa_nil)) (pg_name (i := 1) sc_parse_step.nd rfl (Or.inl rfl)) (pss_one (ps_for (passes_of rfl) rfl (pi_any K (pe_tup (pa_cons (pglob rfl T.c_TOLD) (pa_cons (pglob rfl T.c_FOUND) pa_nil)))) (pg_name (i := 2) sc_parse_step.nd rfl (Or.inl rfl)) (pss_one (ps_if (pt_cmpR (op_eqU K hr.units) (pv 0) (pe_joinedN (.cons (pe_fmt (pv 1)) (.cons pe_str (.cons (pe_fmt (pv 2)) .nil)))) (nomark _)) (pss_one (ps_ret (pe_tup (pa_cons (pv 1) (pa_cons (pv 2) pa_nil))))) pss_nil)))))
      (pss_one (ps_raiseU rfl (takes_of rfl rfl rfl rfl) (pmk_own PySem.F.excBase_ValueError T.e_BadWay.ex T.e_BadWay.g T.e_BadWay.k (raises_own T.e_BadWay.b T.e_BadWay.t) rfl)))), inferInstance, ?_⟩
    walk_at "d"
    refine ⟨by decide, by decide, ?_⟩
    refine for_rng (n := 3) (fun i S => ∃ v1 v2, S = ⟨[some (.val (.str x)), v1, v2], e.W⟩ ∧ ∀ p ∈ allS.take (2 * i), x ≠ stepS p) ⟨_, _, rfl, by simp⟩ ?_ ?_
    · rintro i S hi ⟨v1, v2, rfl, hno⟩
      have h3 : i = 0 ∨ i = 1 ∨ i = 2 := by omega
      walk_at "d"
      refine for_cons ?_
      walk_at "d"
      rcases h3 with rfl | rfl | rfl
      all_goals
        refine ⟨by decide, by decide +kernel, by decide +kernel, by decide +kernel, by decide +kernel, ?_⟩
        refine iteB_by (fun c => ?_) (fun c => ?_)
        · walk_at "d"
          first
            | exact k1 (0, Str.ofString "told") (by rw [c]; exact pstep_at (0, Str.ofString "told") (by simp [allS]))
            | exact k1 (1, Str.ofString "told") (by rw [c]; exact pstep_at (1, Str.ofString "told") (by simp [allS]))
            | exact k1 (2, Str.ofString "told") (by rw [c]; exact pstep_at (2, Str.ofString "told") (by simp [allS]))
        · walk_at "d"
          refine for_cons ?_
          walk_at "d"
          refine ⟨by decide, by decide +kernel, by decide +kernel, by decide +kernel, by decide +kernel, ?_⟩
          refine iteB_by (fun c2 => ?_) (fun c2 => ?_)
          · walk_at "d"
            first
              | exact k1 (0, Str.ofString "found") (by rw [c2]; exact pstep_at (0, Str.ofString "found") (by simp [allS]))
              | exact k1 (1, Str.ofString "found") (by rw [c2]; exact pstep_at (1, Str.ofString "found") (by simp [allS]))
              | exact k1 (2, Str.ofString "found") (by rw [c2]; exact pstep_at (2, Str.ofString "found") (by simp [allS]))
          · walk_at "d"
            rw [for_nil]
            refine ⟨_, _, rfl, fun p hp => ?_⟩
            simp only [allS, List.take, List.mem_cons, List.mem_nil_iff, or_false] at hp hno
            first
              | (rcases hp with rfl | rfl
                 · exact c
                 · exact c2)
              | (rcases hp with rfl | rfl | rfl | rfl
                 · exact hno _ (.inl rfl)
                 · exact hno _ (.inr rfl)
                 · exact c
                 · exact c2)
              | (rcases hp with rfl | rfl | rfl | rfl | rfl | rfl
                 · exact hno _ (.inl rfl)
                 · exact hno _ (.inr (.inl rfl))
                 · exact hno _ (.inr (.inr (.inl rfl)))
                 · exact hno _ (.inr (.inr (.inr rfl)))
                 · exact c
                 · exact c2)
    · rintro S ⟨v1, v2, rfl, hno⟩
      walk_at "d"
      refine k2 (List.find?_eq_none.mpr fun p hp => ?_)
      simpa using hno p hp
abbrev s_parse_place : Stmt := top 15
abbrev N_parse_place : List Str := ["text", "place"]
abbrev P_parse_place : List Str := ["text"]
theorem sc_parse_place : FnScope N_parse_place P_parse_place (defScope s_parse_place) := ⟨rfl, rfl, rfl, by decide +kernel, rfl, by decide +kernel, by decide +kernel⟩
def pplaceO (x : Str) : Option Int := [(0 : Int), 1, 2].find? fun k => decide (x = (toString k : Str))
theorem pplace_at : ∀ k ∈ [(0 : Int), 1, 2], pplaceO (toString k : Str) = some k := by decide +kernel
def F_pplace (C : Addr) : FSpec := fun ds W Q E => ∃ x : Str, ds = [.str x] ∧ x.length ≤ 1000 ∧ (∀ k, pplaceO x = some k → Q (.int k) W) ∧ (pplaceO x = none → E ⟨C, []⟩ W)
theorem ok_parse_place (F : Fz K mg "parse_place" s_parse_place P_parse_place) (T : Txt K mg) : Fx P w K mg base (L2.CX P w) "parse_place" 1 P_parse_place (lift K (F_pplace (clsA mg "BadWay"))) := by
  refine F.okD sc_parse_place (fun ds W Q E h => ?_) (fun f cdv A outer s H E e ds Qd Ed hr lk h => ?_)
  · obtain ⟨x, rfl, _⟩ := h
    rfl
  · obtain ⟨x, rfl, hx, k1, k2⟩ := h
    refine ⟨_, _, (pss_cons (ps_for (passes_of rfl) rfl (pi_range1 (by rfl) T.b_range (pa_cons (pglob rfl T.c_MOST_PLACES) pa_nil)) (pg_name (i := 1) sc_parse_place.nd rfl (Or.inl rfl)) (pss_one (ps_if (pt_cmpR (op_eqU K hr.units) (pv 0) (pe_callTy call_strU (by rfl) T.b_str (by decide +kernel) (pa_cons (pv 1) pa_nil)) (nomark _)) (pss_one (ps_ret (pv 1))) pss_nil)))
      (pss_one (ps_raiseU rfl (takes_of rfl rfl rfl rfl) (pmk_own PySem.F.excBase_ValueError T.e_BadWay.ex T.e_BadWay.g T.e_BadWay.k (raises_own T.e_BadWay.b T.e_BadWay.t) rfl)))), inferInstance, ?_⟩
    walk_at "d"
    refine ⟨by decide, by decide, ?_⟩
    refine for_rng (n := 3) (fun i S => ∃ v1, S = ⟨[some (.val (.str x)), v1], e.W⟩ ∧ ∀ k ∈ [(0 : Int), 1, 2].take i, x ≠ (toString k : Str)) ⟨_, rfl, by simp⟩ ?_ ?_
    · rintro i S hi ⟨v1, rfl, hno⟩
      have h3 : i = 0 ∨ i = 1 ∨ i = 2 := by omega
      walk_at "d"
      rcases h3 with rfl | rfl | rfl
      all_goals
        refine ⟨by decide +kernel, ?_⟩
        refine iteB_by (fun c => ?_) (fun c => ?_)
        · walk_at "d"
          first
            | exact k1 0 (by rw [c]; exact pplace_at 0 (by simp))
            | exact k1 1 (by rw [c]; exact pplace_at 1 (by simp))
            | exact k1 2 (by rw [c]; exact pplace_at 2 (by simp))
        · walk_at "d"
          refine ⟨_, rfl, fun k hk => ?_⟩
          simp only [List.take, List.mem_cons, List.mem_nil_iff, or_false] at hk hno
          first
            | (subst hk; exact c)
            | (rcases hk with rfl | rfl
               · exact hno _ rfl
               · exact c)
            | (rcases hk with rfl | rfl | rfl
               · exact hno _ (.inl rfl)
               · exact hno _ (.inr rfl)
               · exact c)
    · rintro S ⟨v1, rfl, hno⟩
      walk_at "d"
      refine k2 (List.find?_eq_none.mpr fun p hp => ?_)
      simpa using hno p hp
abbrev s_parse_way : Stmt := top 16
abbrev N_parse_way : List Str := ["text", "steps", "noted", "made", "head", "mark", "tail", "whole", "colon", "row", "word"]
abbrev P_parse_way : List Str := ["text"]
theorem sc_parse_way : FnScope N_parse_way P_parse_way (defScope s_parse_way) := ⟨rfl, rfl, rfl, by decide +kernel, rfl, by decide +kernel, by decide +kernel⟩
def headOf (x : Str) : Str := (Txt.partition x (Str.ofString "; noted ")).1
def whOf (x : Str) : Str := (Txt.partition (headOf x) (Str.ofString ": ")).1
def rowOf (x : Str) : Str := (Txt.partition (headOf x) (Str.ofString ": ")).2.2
def rowsOf (x : Str) : List Str := if rowOf x = Str.ofString "-" then [] else Txt.split (rowOf x) (Str.ofString ", ")
def tailsOf (x : Str) : List Str := if (Txt.partition x (Str.ofString "; noted ")).2.1 = Str.ofString "" then [] else Txt.split (Txt.partition x (Str.ofString "; noted ")).2.2 (Str.ofString ", ")
structure WyP (y : Wy) : Prop where
  is : isWayB y = true
  st : ∀ p ∈ y.st, p ∈ allS
  nt : ∀ k ∈ y.nt, k ∈ [(0 : Int), 1, 2]
  so : y.nt = srt y.nt
structure WyT (x : Str) (y : Wy) : Prop where
  ok : WyP y
  sm : SmW y
  wh : whOf x = y.wh
  st : rowsOf x = y.st.map stepS
  nt : tailsOf x = y.nt.map fun k => (toString k : Str)
  tx : wtext y = x
def F_pway (C : Addr) : FSpec := fun ds W Q E => ∃ x : Str, ds = [.str x] ∧ x.length ≤ 80 ∧ ((∃ y, WyT x y ∧ Q (wayD y) W) ∨ ((∀ y, WyP y → wtext y ≠ x) ∧ E ⟨C, []⟩ W))
theorem part_len (x y : Str) : (Txt.partition x y).1.length ≤ x.length ∧ (Txt.partition x y).2.2.length ≤ x.length := by
  have hn : x.cps.toList.length = x.length := by simp [Str.length]
  have hs : ∀ i j, (Builtin.Str.strSub x i j).length ≤ x.length := fun i j => by
    have e : (Builtin.Str.strSub x i j).length = (Builtin.Str.strSub x i j).cps.toList.length := by simp [Str.length]
    rw [e, StrLaws.strSub_toList, List.length_take, List.length_drop, hn]
    omega
  unfold Txt.partition
  cases Builtin.Str.occurrences x y 0 x.length 1 with
  | nil => exact ⟨Nat.le_refl _, Nat.zero_le _⟩
  | cons i r => exact ⟨hs _ _, hs _ _⟩
theorem pstep_some {w : Str} {p : Int × Str} (h : pstepO w = some p) : p ∈ allS ∧ w = stepS p := ⟨List.mem_of_find?_eq_some h, by simpa using List.find?_some h⟩
theorem pplace_some {w : Str} {k : Int} (h : pplaceO w = some k) : k ∈ [(0 : Int), 1, 2] ∧ w = (toString k : Str) := ⟨List.mem_of_find?_eq_some h, by simpa using List.find?_some h⟩
theorem steps_same : ∀ {a b : List (Int × Str)}, (∀ p ∈ a, p ∈ allS) → (∀ p ∈ b, p ∈ allS) → a.map stepS = b.map stepS → a = b
  | [], [], _, _, _ => rfl
  | [], _ :: _, _, _, h => by simp at h
  | _ :: _, [], _, _, h => by simp at h
  | p :: a, q :: b, ha, hb, h => by
    rw [List.map_cons, List.map_cons] at h
    injection h with h1 h2
    have e1 := pstep_at p (ha p List.mem_cons_self)
    rw [h1, pstep_at q (hb q List.mem_cons_self)] at e1
    cases e1
    rw [steps_same (fun p hp => ha p (List.mem_cons_of_mem _ hp)) (fun p hp => hb p (List.mem_cons_of_mem _ hp)) h2]
theorem nums_same : ∀ {a b : List Int}, (∀ k ∈ a, k ∈ [(0 : Int), 1, 2]) → (∀ k ∈ b, k ∈ [(0 : Int), 1, 2]) → (a.map fun k => (toString k : Str)) = (b.map fun k => (toString k : Str)) → a = b
  | [], [], _, _, _ => rfl
  | [], _ :: _, _, _, h => by simp at h
  | _ :: _, [], _, _, h => by simp at h
  | p :: a, q :: b, ha, hb, h => by
    rw [List.map_cons, List.map_cons] at h
    injection h with h1 h2
    have e1 := pplace_at p (ha p List.mem_cons_self)
    rw [h1, pplace_at q (hb q List.mem_cons_self)] at e1
    cases e1
    rw [nums_same (fun p hp => ha p (List.mem_cons_of_mem _ hp)) (fun p hp => hb p (List.mem_cons_of_mem _ hp)) h2]
theorem srt_srt (l : List Int) : srt (srt l) = srt l := sorted_unique (srt_perm _) (srt_sorted _) (srt_sorted _)
theorem chain_len {x y : Str} : ∀ (cuts : List Nat) (a f : Nat), StrLaws.ChainTo x y x.length a cuts f → a ≤ x.length → a + y.length * cuts.length ≤ x.length
  | [], a, f, _, h => by simpa using h
  | c :: r, a, f, h, _ => by
    obtain ⟨h1, h2, h3⟩ := h
    have ih := chain_len r (c + y.length) f h3 h2.1
    rw [List.length_cons, Nat.mul_succ]
    omega
theorem parts_len (x : Str) (w : Nat) : ∀ (cuts : List Nat) (a : Nat), (StrLaws.partsFrom x w a cuts).length = cuts.length + 1
  | [], _ => rfl
  | c :: r, a => by
    show (StrLaws.partsFrom x w (c + w) r).length + 1 = _
    rw [parts_len x w r]; rfl
theorem split_len {x y : Str} (h2 : y.length = 2) : (Txt.split x y).length ≤ x.length / 2 + 1 := by
  unfold Txt.split
  split
  · show 1 ≤ _; omega
  · split
    · show 1 ≤ _; omega
    · obtain ⟨f, h⟩ := StrLaws.occ_chain x y (x.length + 1)
      have := chain_len _ 0 f h (Nat.zero_le _)
      rw [StrLaws.partsBetween_eq, parts_len]
      rw [h2] at this
      omega
theorem sub_len (x : Str) (i j : Nat) : (Builtin.Str.strSub x i j).length ≤ x.length := by
  have hn : x.cps.toList.length = x.length := by simp [Str.length]
  have e : (Builtin.Str.strSub x i j).length = (Builtin.Str.strSub x i j).cps.toList.length := by simp [Str.length]
  rw [e, StrLaws.strSub_toList, List.length_take, List.length_drop, hn]
  omega
theorem parts_mem {x w : Str} (n : Nat) : ∀ (cuts : List Nat) (a : Nat), w ∈ StrLaws.partsFrom x n a cuts → w.length ≤ x.length
  | [], a, h => by
    have e : w = Builtin.Str.strSub x a x.length := List.mem_singleton.mp h
    rw [e]; exact sub_len _ _ _
  | c :: r, a, h => by
    rcases List.mem_cons.mp h with e | h
    · rw [e]; exact sub_len _ _ _
    · exact parts_mem n r _ h
theorem split_mem {x y w : Str} (h : w ∈ Txt.split x y) : w.length ≤ x.length := by
  unfold Txt.split at h
  split at h
  · rw [List.mem_singleton.mp h]; exact Nat.le_refl _
  · split at h
    · rw [List.mem_singleton.mp h]; exact Nat.le_refl _
    · rw [StrLaws.partsBetween_eq] at h
      exact parts_mem _ _ _ h
theorem dirs_ok : ∀ p ∈ allS, 0 ≤ p.1 ∧ p.1 ≤ 2 ∧ p.2.length ≤ 5 ∧ PyData.strOk p.2 = true := by decide +kernel
theorem told_ok : (Str.ofString "told").length = 4 ∧ (Str.ofString "found").length = 5 ∧ PyData.strOk (Str.ofString "told") = true ∧ PyData.strOk (Str.ofString "found") = true := by decide +kernel
theorem sm_of {y : Wy} (h : WyP y) : SmW y := by
  have hi := h.is
  unfold isWayB at hi
  simp only [Bool.and_eq_true, decide_eq_true_eq, List.all_eq_true] at hi
  obtain ⟨⟨⟨⟨h1, h2⟩, h3⟩, h4⟩, h5⟩ := hi
  have hw : y.wh = Str.ofString "told" ∨ y.wh = Str.ofString "found" := of_decide_eq_true h1
  obtain ⟨t1, t2, t3, t4⟩ := told_ok
  have hn : ∀ k ∈ y.nt, 0 ≤ k ∧ k ≤ 2 := fun k hk => by
    have := h.nt k hk
    simp at this
    omega
  refine ⟨?_, h2, ?_, fun p hp => ?_, fun k hk => ?_, ?_, fun p hp => (dirs_ok p (h.st p hp)).2.2.2⟩
  · rcases hw with e | e <;> rw [e] <;> omega
  · match hy : y.nt, h5, hn with
    | [], _, _ => simp
    | [_], _, _ => simp
    | [_, _], _, _ => simp
    | [_, _, _], _, _ => simp
    | a :: b :: c :: d :: r, h5, hn =>
      have g1 := h5 1 (by simp)
      have g2 := h5 2 (by simp)
      have g3 := h5 3 (by simp)
      have n0 := hn a (by simp)
      have n1 := hn b (by simp)
      have n2 := hn c (by simp)
      have n3 := hn d (by simp)
      simp [noteAt] at g1 g2 g3
      omega
  · have := dirs_ok p (h.st p hp)
    omega
  · have := hn k hk
    omega
  · rcases hw with e | e <;> rw [e] <;> assumption
theorem ok_parse_way (F : Fz K mg "parse_way" s_parse_way P_parse_way) (T : Txt K mg) (G_parse_step : Fx P w K mg base (L2.CX P w) "parse_step" 1 P_parse_step (lift K (F_pstep (clsA mg "BadWay")))) (G_parse_place : Fx P w K mg base (L2.CX P w) "parse_place" 1 P_parse_place (lift K (F_pplace (clsA mg "BadWay"))))
    (G_way : FxB P w K mg base (L2.CX P w) "way" 3 P_way (lift K (F_mkway (clsA mg "BadWay"))) (wayB K)) (G_way_text : Fx P w K mg base (L2.CX P w) "way_text" 1 P_way_text (lift K F_wtext)) : Fx P w K mg base (L2.CX P w) "parse_way" 4 P_parse_way (lift K (F_pway (clsA mg "BadWay"))) := by
  refine F.okD sc_parse_way (fun ds W Q E h => ?_) (fun f cdv A outer s H E e ds Qd Ed hr lk h => ?_)
  · obtain ⟨x, rfl, _⟩ := h
    rfl
  · obtain ⟨x, rfl, hx, k⟩ := h
    refine ⟨_, _, (pss_cons (ps_asg (pe_bmK K PySem.F.plainAttrs_str PySem.F.slot_str_partition PySem.F.type_str_partition mt_partU (pv 0) (pa_cons pe_str pa_nil)) (pg_tupK K 3 rfl (pgs_cons (pg_name (i := 4) sc_parse_way.nd rfl (Or.inl rfl)) (pgs_cons (pg_name (i := 5) sc_parse_way.nd rfl (Or.inl rfl)) (pgs_cons (pg_name (i := 6) sc_parse_way.nd rfl (Or.inl rfl)) pgs_nil)))))
      (pss_cons (ps_asg (pe_bmK K PySem.F.plainAttrs_str PySem.F.slot_str_partition PySem.F.type_str_partition mt_partU (pv 4) (pa_cons pe_str pa_nil)) (pg_tupK K 3 rfl (pgs_cons (pg_name (i := 7) sc_parse_way.nd rfl (Or.inl rfl)) (pgs_cons (pg_name (i := 8) sc_parse_way.nd rfl (Or.inl rfl)) (pgs_cons (pg_name (i := 9) sc_parse_way.nd rfl (Or.inl rfl)) pgs_nil)))))
      (pss_cons (ps_set (i := 1) sc_parse_way.nd rfl (Or.inl rfl) (pe_lst pa_nil))
      (pss_cons (ps_if (pt_cmpR (op_neU K hr.units) (pv 9) pe_str (nomark _)) (pss_one (ps_setLcX (i := 1) (own := [("word", 10)]) (g := (gName 10)) (tt := tYes) rfl rfl rfl (takes_of rfl rfl rfl rfl) sc_parse_way.nd rfl rfl (sw_true rfl rfl rfl (by decide +kernel)) (pi_any K (pe_bmK K PySem.F.plainAttrs_str PySem.F.slot_str_split PySem.F.type_str_split mt_splitU (pv 9) (pa_cons pe_str pa_nil))) (blkOk_by (own := [("word", 10)]) (N := N_parse_way) (sc := defScope s_parse_way) (by decide +kernel)) (fun _ _ _ _ _ _ => (pg_name (i := 10) sc_parse_way.nd rfl (by first | exact Or.inl rfl | exact Or.inr rfl))) (fun _ _ _ _ _ _ tkc => pts_nil) (fun _ _ _ _ _ _ tkc => (fcallX tkc G_parse_step (hr.mono (by first | decide | omega)) (by rfl) (pa_cons (pv 10) pa_nil))))) pss_nil)
      (pss_cons (ps_set (i := 2) sc_parse_way.nd rfl (Or.inl rfl) (pe_lst pa_nil))
      (pss_cons (ps_if (pt_cmpR (op_neU K hr.units) (pv 5) pe_str (nomark _)) (pss_one (ps_setLcX (i := 2) (own := [("word", 10)]) (g := (gName 10)) (tt := tYes) rfl rfl rfl (takes_of rfl rfl rfl rfl) sc_parse_way.nd rfl rfl (sw_true rfl rfl rfl (by decide +kernel)) (pi_any K (pe_bmK K PySem.F.plainAttrs_str PySem.F.slot_str_split PySem.F.type_str_split mt_splitU (pv 6) (pa_cons pe_str pa_nil))) (blkOk_by (own := [("word", 10)]) (N := N_parse_way) (sc := defScope s_parse_way) (by decide +kernel)) (fun _ _ _ _ _ _ => (pg_name (i := 10) sc_parse_way.nd rfl (by first | exact Or.inl rfl | exact Or.inr rfl))) (fun _ _ _ _ _ _ tkc => pts_nil) (fun _ _ _ _ _ _ tkc => (fcallX tkc G_parse_place (hr.mono (by first | decide | omega)) (by rfl) (pa_cons (pv 10) pa_nil))))) pss_nil)
      (pss_cons (ps_set (i := 3) sc_parse_way.nd rfl (Or.inl rfl) (kcallS (takes_of rfl rfl rfl rfl) G_way (fun fd b => ⟨_, b⟩) (hr.mono (by first | decide | omega)) (by rfl) (pk_cons (pv 7) (pk_cons (pv 1) (pk_cons (pv 2) pk_nil)))))
      (pss_cons (ps_if (pt_cmpR (op_neU K hr.units) (fcallX (takes_of rfl rfl rfl rfl) G_way_text (hr.mono (by first | decide | omega)) (by rfl) (pa_cons (pv 3) pa_nil)) (pv 0) (nomark _)) (pss_one (ps_raiseU rfl (takes_of rfl rfl rfl rfl) (pmk_own PySem.F.excBase_ValueError T.e_BadWay.ex T.e_BadWay.g T.e_BadWay.k (raises_own T.e_BadWay.b T.e_BadWay.t) rfl))) pss_nil)
      (pss_one (ps_ret (pv 3))))))))))), inferInstance, ?_⟩
    have no1 : ∀ w ∈ rowsOf x, pstepO w = none → Ed ⟨clsA mg "BadWay", []⟩ e.W := fun w hw hn => by
      rcases k with ⟨y, hy, _⟩ | ⟨_, kE⟩
      · rw [hy.st] at hw
        obtain ⟨p, hp, rfl⟩ := List.mem_map.mp hw
        rw [pstep_at p (hy.ok.st p hp)] at hn
        cases hn
      · exact kE
    have no2 : ∀ w ∈ tailsOf x, pplaceO w = none → Ed ⟨clsA mg "BadWay", []⟩ e.W := fun w hw hn => by
      rcases k with ⟨y, hy, _⟩ | ⟨_, kE⟩
      · rw [hy.nt] at hw
        obtain ⟨p, hp, rfl⟩ := List.mem_map.mp hw
        rw [pplace_at p (hy.ok.nt p hp)] at hn
        cases hn
      · exact kE
    have no3 : ∀ (st : List (Int × Str)) (nt : List Int), rowsOf x = st.map stepS → (∀ p ∈ st, p ∈ allS) → tailsOf x = (nt.map fun k => (toString k : Str)) → (∀ k ∈ nt, k ∈ [(0 : Int), 1, 2]) →
        (isWayB ⟨whOf x, st, srt nt⟩ = false → Ed ⟨clsA mg "BadWay", []⟩ e.W) ∧ (isWayB ⟨whOf x, st, srt nt⟩ = true → SmW ⟨whOf x, st, srt nt⟩ ∧ (wtext ⟨whOf x, st, srt nt⟩ ≠ x → Ed ⟨clsA mg "BadWay", []⟩ e.W) ∧ (wtext ⟨whOf x, st, srt nt⟩ = x → Qd (wayD ⟨whOf x, st, srt nt⟩) e.W)) := fun st nt h1 h2 h3 h4 => by
      rcases k with ⟨y, hy, kq⟩ | ⟨hno, kE⟩
      · have e1 := steps_same h2 hy.ok.st (h1.symm.trans hy.st)
        have e2 := nums_same h4 hy.ok.nt (h3.symm.trans hy.nt)
        have e3 : (⟨whOf x, st, srt nt⟩ : Wy) = y := by rw [hy.wh, e1, e2, ← hy.ok.so]
        rw [e3]
        exact ⟨fun z => (by rw [hy.ok.is] at z; cases z), fun _ => ⟨hy.sm, fun z => (z hy.tx).elim, fun _ => kq⟩⟩
      · refine ⟨fun _ => kE, fun z => ?_⟩
        have wp : WyP ⟨whOf x, st, srt nt⟩ := ⟨z, h2, fun k hk => h4 k ((srt_perm nt).mem_iff.mp hk), (srt_srt nt).symm⟩
        exact ⟨sm_of wp, fun _ => kE, fun q => (hno _ wp q).elim⟩
    walk_at "d"
    have b1 := part_len x (Str.ofString "; noted ")
    have b2 := part_len (headOf x) (Str.ofString ": ")
    have l2 : (Str.ofString ", ").length = 2 := by decide +kernel
    refine ⟨by decide +kernel, by omega, by decide +kernel, Nat.le_trans b1.1 (by omega), ?_⟩
    have eh : (Txt.partition x (Str.ofString "; noted ")).1 = headOf x := rfl
    rw [eh]
    have ew : (Txt.partition (headOf x) (Str.ofString ": ")).1 = whOf x := rfl
    have er : (Txt.partition (headOf x) (Str.ofString ": ")).2.2 = rowOf x := rfl
    rw [ew, er]
    have hh : (headOf x).length ≤ 80 := Nat.le_trans b1.1 hx
    have hrow : (rowOf x).length ≤ 80 := Nat.le_trans b2.2 hh
    have htail : (Txt.partition x (Str.ofString "; noted ")).2.2.length ≤ 80 := Nat.le_trans b1.2 hx
    clear b1 b2
    have er2 : rowsOf x = if rowOf x = Str.ofString "-" then [] else Txt.split (rowOf x) (Str.ofString ", ") := rfl
    have et2 : tailsOf x = if (Txt.partition x (Str.ofString "; noted ")).2.1 = Str.ofString "" then [] else Txt.split (Txt.partition x (Str.ofString "; noted ")).2.2 (Str.ofString ", ") := rfl
    have s1 := split_len (x := rowOf x) l2
    have s2 := split_len (x := (Txt.partition x (Str.ofString "; noted ")).2.2) l2
    generalize headOf x = hd at *
    generalize whOf x = wh at *
    generalize rowOf x = row at *
    generalize (Txt.partition hd (Str.ofString ": ")).2.1 = col at *
    generalize (Txt.partition x (Str.ofString "; noted ")).2.1 = mk at *
    generalize (Txt.partition x (Str.ofString "; noted ")).2.2 = tl at *
    refine iteB_by (fun c => ?_) (fun c => ?_)
    · rw [if_neg c] at er2
      walk_at "d"
      refine ⟨by rw [l2]; rfl, by omega, ?_⟩
      refine comp_seqB D.str (fun w => stpD ((pstepO w).getD (0, Str.empty))) (fun w => (pstepO w).isSome = true) (Txt.split row (Str.ofString ", ")) (by simp; omega) (fun pre w post ex hpre N M hn => ?_) (fun hall => ?_)
      · have hw : w ∈ Txt.split row (Str.ofString ", ") := by rw [ex]; simp
        have hwl := split_mem hw
        walk_at "d"
        refine ⟨w, rfl, by omega, fun p hp => ?_, fun hn2 => ?_⟩
        · walk_at "d"
          rw [hp] at hn
          exact hn rfl
        · exact no1 w (by rw [er2]; exact hw) hn2
      · have h1 : rowsOf x = ((Txt.split row (Str.ofString ", ")).map fun w => (pstepO w).getD (0, Str.empty)).map stepS := by
          rw [er2, List.map_map]
          refine (List.map_id' _).symm.trans (List.map_congr_left fun w hw => ?_)
          obtain ⟨p, hp⟩ := Option.isSome_iff_exists.mp (hall w hw)
          show w = stepS ((pstepO w).getD (0, Str.empty))
          rw [hp]
          exact (pstep_some hp).2
        have h2 : ∀ p ∈ ((Txt.split row (Str.ofString ", ")).map fun w => (pstepO w).getD (0, Str.empty)), p ∈ allS := fun k hk => by
          obtain ⟨w, hw, rfl⟩ := List.mem_map.mp hk
          obtain ⟨p, hp⟩ := Option.isSome_iff_exists.mp (hall w hw)
          rw [hp]
          exact (pstep_some hp).1
        have hl : ((Txt.split row (Str.ofString ", ")).map fun w => (pstepO w).getD (0, Str.empty)).length ≤ 60 := by rw [List.length_map]; omega
        rw [show (Txt.split row (Str.ofString ", ")).map (fun w => stpD ((pstepO w).getD (0, Str.empty))) = ((Txt.split row (Str.ofString ", ")).map fun w => (pstepO w).getD (0, Str.empty)).map stpD by rw [List.map_map]; rfl]
        clear hall
        walk_at "d"
        refine iteB_by (fun c3 => ?_) (fun c3 => ?_)
        · rw [if_neg c3] at et2
          walk_at "d"
          refine ⟨by rw [l2]; rfl, by omega, ?_⟩
          refine comp_seqB D.str (fun w => .int ((pplaceO w).getD 0)) (fun w => (pplaceO w).isSome = true) (Txt.split tl (Str.ofString ", ")) (by simp; omega) (fun pre w post ex hpre N M hn => ?_) (fun hall => ?_)
          · have hw : w ∈ Txt.split tl (Str.ofString ", ") := by rw [ex]; simp
            have hwl := split_mem hw
            walk_at "d"
            refine ⟨w, rfl, by omega, fun p hp => ?_, fun hn2 => ?_⟩
            · walk_at "d"
              rw [hp] at hn
              exact hn rfl
            · exact no2 w (by rw [et2]; exact hw) hn2
          · have h3 : tailsOf x = (((Txt.split tl (Str.ofString ", ")).map fun w => (pplaceO w).getD 0).map fun k => (toString k : Str)) := by
              rw [et2, List.map_map]
              refine (List.map_id' _).symm.trans (List.map_congr_left fun w hw => ?_)
              obtain ⟨p, hp⟩ := Option.isSome_iff_exists.mp (hall w hw)
              show w = (toString ((pplaceO w).getD 0) : Str)
              rw [hp]
              exact (pplace_some hp).2
            have h4 : ∀ k ∈ ((Txt.split tl (Str.ofString ", ")).map fun w => (pplaceO w).getD 0), k ∈ [(0 : Int), 1, 2] := fun k hk => by
              obtain ⟨w, hw, rfl⟩ := List.mem_map.mp hk
              obtain ⟨p, hp⟩ := Option.isSome_iff_exists.mp (hall w hw)
              rw [hp]
              exact (pplace_some hp).1
            have hl2 : ((Txt.split tl (Str.ofString ", ")).map fun w => (pplaceO w).getD 0).length ≤ 60 := by rw [List.length_map]; omega
            rw [show (Txt.split tl (Str.ofString ", ")).map (fun w => D.int ((pplaceO w).getD 0)) = ((Txt.split tl (Str.ofString ", ")).map fun w => (pplaceO w).getD 0).map D.int by rw [List.map_map]; rfl]
            walk_at "d"
            refine ⟨wh, ((Txt.split row (Str.ofString ", ")).map fun w => (pstepO w).getD (0, Str.empty)), ((Txt.split tl (Str.ofString ", ")).map fun w => (pplaceO w).getD 0), rfl, hl, hl2, fun c4 => ?_, fun c4 => ?_⟩
            · walk_at "d"
              obtain ⟨sm, q1, q2⟩ := (no3 ((Txt.split row (Str.ofString ", ")).map fun w => (pstepO w).getD (0, Str.empty)) ((Txt.split tl (Str.ofString ", ")).map fun w => (pplaceO w).getD 0) h1 h2 h3 h4).2 c4
              refine ⟨_, rfl, sm, ?_⟩
              walk_at "d"
              refine iteB_by (fun c5 => ?_) (fun c5 => ?_)
              · walk_at "d"
                exact q1 c5
              · walk_at "d"
                exact q2 (Decidable.not_not.mp c5)
            · try walk_at "d"
              exact (no3 ((Txt.split row (Str.ofString ", ")).map fun w => (pstepO w).getD (0, Str.empty)) ((Txt.split tl (Str.ofString ", ")).map fun w => (pplaceO w).getD 0) h1 h2 h3 h4).1 c4
        · rw [if_pos (Decidable.not_not.mp c3)] at et2
          have h3 : tailsOf x = (([] : List Int).map fun k => (toString k : Str)) := et2
          have h4 : ∀ k ∈ ([] : List Int), k ∈ [(0 : Int), 1, 2] := fun k hk => by cases hk
          have hl2 : ([] : List Int).length ≤ 60 := by decide
          walk_at "d"
          refine ⟨wh, ((Txt.split row (Str.ofString ", ")).map fun w => (pstepO w).getD (0, Str.empty)), [], rfl, hl, hl2, fun c4 => ?_, fun c4 => ?_⟩
          · walk_at "d"
            obtain ⟨sm, q1, q2⟩ := (no3 ((Txt.split row (Str.ofString ", ")).map fun w => (pstepO w).getD (0, Str.empty)) [] h1 h2 h3 h4).2 c4
            refine ⟨_, rfl, sm, ?_⟩
            walk_at "d"
            refine iteB_by (fun c5 => ?_) (fun c5 => ?_)
            · walk_at "d"
              exact q1 c5
            · walk_at "d"
              exact q2 (Decidable.not_not.mp c5)
          · try walk_at "d"
            exact (no3 ((Txt.split row (Str.ofString ", ")).map fun w => (pstepO w).getD (0, Str.empty)) [] h1 h2 h3 h4).1 c4
    · rw [if_pos (Decidable.not_not.mp c)] at er2
      have h1 : rowsOf x = ([] : List (Int × Str)).map stepS := er2
      have h2 : ∀ p ∈ ([] : List (Int × Str)), p ∈ allS := fun k hk => by cases hk
      have hl : ([] : List (Int × Str)).length ≤ 60 := by decide
      walk_at "d"
      refine iteB_by (fun c3 => ?_) (fun c3 => ?_)
      · rw [if_neg c3] at et2
        walk_at "d"
        refine ⟨by rw [l2]; rfl, by omega, ?_⟩
        refine comp_seqB D.str (fun w => .int ((pplaceO w).getD 0)) (fun w => (pplaceO w).isSome = true) (Txt.split tl (Str.ofString ", ")) (by simp; omega) (fun pre w post ex hpre N M hn => ?_) (fun hall => ?_)
        · have hw : w ∈ Txt.split tl (Str.ofString ", ") := by rw [ex]; simp
          have hwl := split_mem hw
          walk_at "d"
          refine ⟨w, rfl, by omega, fun p hp => ?_, fun hn2 => ?_⟩
          · walk_at "d"
            rw [hp] at hn
            exact hn rfl
          · exact no2 w (by rw [et2]; exact hw) hn2
        · have h3 : tailsOf x = (((Txt.split tl (Str.ofString ", ")).map fun w => (pplaceO w).getD 0).map fun k => (toString k : Str)) := by
            rw [et2, List.map_map]
            refine (List.map_id' _).symm.trans (List.map_congr_left fun w hw => ?_)
            obtain ⟨p, hp⟩ := Option.isSome_iff_exists.mp (hall w hw)
            show w = (toString ((pplaceO w).getD 0) : Str)
            rw [hp]
            exact (pplace_some hp).2
          have h4 : ∀ k ∈ ((Txt.split tl (Str.ofString ", ")).map fun w => (pplaceO w).getD 0), k ∈ [(0 : Int), 1, 2] := fun k hk => by
            obtain ⟨w, hw, rfl⟩ := List.mem_map.mp hk
            obtain ⟨p, hp⟩ := Option.isSome_iff_exists.mp (hall w hw)
            rw [hp]
            exact (pplace_some hp).1
          have hl2 : ((Txt.split tl (Str.ofString ", ")).map fun w => (pplaceO w).getD 0).length ≤ 60 := by rw [List.length_map]; omega
          rw [show (Txt.split tl (Str.ofString ", ")).map (fun w => D.int ((pplaceO w).getD 0)) = ((Txt.split tl (Str.ofString ", ")).map fun w => (pplaceO w).getD 0).map D.int by rw [List.map_map]; rfl]
          walk_at "d"
          refine ⟨wh, [], ((Txt.split tl (Str.ofString ", ")).map fun w => (pplaceO w).getD 0), rfl, hl, hl2, fun c4 => ?_, fun c4 => ?_⟩
          · walk_at "d"
            obtain ⟨sm, q1, q2⟩ := (no3 [] ((Txt.split tl (Str.ofString ", ")).map fun w => (pplaceO w).getD 0) h1 h2 h3 h4).2 c4
            refine ⟨_, rfl, sm, ?_⟩
            walk_at "d"
            refine iteB_by (fun c5 => ?_) (fun c5 => ?_)
            · walk_at "d"
              exact q1 c5
            · walk_at "d"
              exact q2 (Decidable.not_not.mp c5)
          · try walk_at "d"
            exact (no3 [] ((Txt.split tl (Str.ofString ", ")).map fun w => (pplaceO w).getD 0) h1 h2 h3 h4).1 c4
      · rw [if_pos (Decidable.not_not.mp c3)] at et2
        have h3 : tailsOf x = (([] : List Int).map fun k => (toString k : Str)) := et2
        have h4 : ∀ k ∈ ([] : List Int), k ∈ [(0 : Int), 1, 2] := fun k hk => by cases hk
        have hl2 : ([] : List Int).length ≤ 60 := by decide
        walk_at "d"
        refine ⟨wh, [], [], rfl, hl, hl2, fun c4 => ?_, fun c4 => ?_⟩
        · walk_at "d"
          obtain ⟨sm, q1, q2⟩ := (no3 [] [] h1 h2 h3 h4).2 c4
          refine ⟨_, rfl, sm, ?_⟩
          walk_at "d"
          refine iteB_by (fun c5 => ?_) (fun c5 => ?_)
          · walk_at "d"
            exact q1 c5
          · walk_at "d"
            exact q2 (Decidable.not_not.mp c5)
        · try walk_at "d"
          exact (no3 [] [] h1 h2 h3 h4).1 c4
def repG (y z : List Nat) : Nat → List Nat → List Nat
  | _, [] => []
  | k + 1, _ :: r => repG y z k r
  | 0, c :: r => if y.isPrefixOf (c :: r) then z ++ repG y z (y.length - 1) r else c :: repG y z 0 r
theorem repG_drop (y z : List Nat) : ∀ (k : Nat) (l : List Nat), repG y z k l = repG y z 0 (l.drop k)
  | 0, _ => rfl
  | k + 1, [] => by simp [repG]
  | k + 1, c :: r => by
    rw [repG, repG_drop y z k r, List.drop_succ_cons]
theorem repG_hit {y z l : List Nat} (hw : 1 ≤ y.length) (h : y.isPrefixOf l = true) : repG y z 0 l = z ++ repG y z 0 (l.drop y.length) := by
  cases l with
  | nil =>
    cases y with
    | nil => simp at hw
    | cons a b => simp [List.isPrefixOf] at h
  | cons c r =>
    rw [repG, if_pos h, repG_drop]
    congr 2
    obtain ⟨w, e⟩ : ∃ w, y.length = w + 1 := ⟨y.length - 1, by omega⟩
    rw [e, List.drop_succ_cons, Nat.add_sub_cancel]
theorem repG_miss {y z : List Nat} {c : Nat} {r : List Nat} (h : y.isPrefixOf (c :: r) = false) : repG y z 0 (c :: r) = c :: repG y z 0 r := by
  rw [repG, if_neg (by rw [h]; exact Bool.false_ne_true)]
theorem repG_none {y z : List Nat} : ∀ l : List Nat, (∀ k, y.isPrefixOf (l.drop k) = false) → repG y z 0 l = l
  | [], _ => rfl
  | c :: r, h => by
    rw [repG_miss (h 0), repG_none r fun k => h (k + 1)]
theorem repG_gap {y z : List Nat} : ∀ (d : Nat) (l : List Nat), (∀ k, k < d → y.isPrefixOf (l.drop k) = false) → d ≤ l.length → repG y z 0 l = l.take d ++ repG y z 0 (l.drop d)
  | 0, l, _, _ => by simp
  | d + 1, [], _, h => by simp at h
  | d + 1, c :: r, h, hl => by
    rw [repG_miss (h 0 (by omega)), repG_gap d r (fun k hk => h (k + 1) (by omega)) (by simpa using hl)]
    rfl
theorem at_pre {x y : Str} {i : Nat} (hw : 1 ≤ y.length) : StrLaws.At x y x.length i ↔ y.cps.toList.isPrefixOf (x.cps.toList.drop i) = true := by
  have hn : x.cps.toList.length = x.length := by simp [Str.length]
  have hy : y.cps.toList.length = y.length := by simp [Str.length]
  unfold StrLaws.At
  rw [StrLaws.subAt_eq, beq_iff_eq, List.isPrefixOf_iff_prefix, List.prefix_iff_eq_take, hy]
  constructor
  · exact fun h => h.2.symm
  · intro h
    refine ⟨?_, h.symm⟩
    have e := congrArg List.length h
    rw [hy, List.length_take, List.length_drop, hn] at e
    omega
theorem not_pre {x y : Str} {i : Nat} (hw : 1 ≤ y.length) (h : ¬ StrLaws.At x y x.length i) : y.cps.toList.isPrefixOf (x.cps.toList.drop i) = false := by
  cases e : y.cps.toList.isPrefixOf (x.cps.toList.drop i)
  · rfl
  · exact absurd ((at_pre hw).mpr e) h
theorem join_parts {x y : Str} (z : Str) (hw : 1 ≤ y.length) : ∀ (cuts : List Nat) (a f : Nat), StrLaws.ChainG x y x.length a cuts f → (∀ k, f ≤ k → ¬ StrLaws.At x y x.length k) → a ≤ x.length →
    (Str.join z (StrLaws.partsFrom x y.length a cuts)).cps.toList = repG y.cps.toList z.cps.toList 0 (x.cps.toList.drop a)
  | [], a, f, h, hn, ha => by
    have e : f = a := h
    subst e
    have hl : x.cps.toList.length = x.length := by simp [Str.length]
    show (Builtin.Str.strSub x f x.length).cps.toList = _
    rw [StrLaws.strSub_toList, List.take_of_length_le (by rw [List.length_drop, hl]; omega), repG_none]
    intro k
    rw [List.drop_drop]
    exact not_pre hw (hn _ (by omega))
  | c :: r, a, f, h, hn, ha => by
    obtain ⟨h1, h2, h3, h4⟩ := h
    have hl : x.cps.toList.length = x.length := by simp [Str.length]
    have hy : y.cps.toList.length = y.length := by simp [Str.length]
    obtain ⟨p, q, e⟩ := StrLaws.partsFrom_ne x y.length (c + y.length) r
    have ih := join_parts z hw r (c + y.length) f h4 hn h2.1
    show (Str.join z (Builtin.Str.strSub x a c :: StrLaws.partsFrom x y.length (c + y.length) r)).cps.toList = _
    rw [e] at ih ⊢
    show (Builtin.Str.strSub x a c ++ z ++ Str.join z (p :: q)).cps.toList = _
    rw [toList_app, toList_app, ih, StrLaws.strSub_toList]
    have hc := h2.1
    rw [repG_gap (c - a) (x.cps.toList.drop a) (fun k hk => by rw [List.drop_drop]; exact not_pre hw (h3 _ (by omega) (by omega))) (by rw [List.length_drop, hl]; omega), List.drop_drop, show a + (c - a) = c by omega]
    rw [repG_hit (by rw [hy]; exact hw) ((at_pre hw).mp h2), List.drop_drop, hy, List.append_assoc]
theorem rep_list {x y z : Str} (hw : 1 ≤ y.length) : (Txt.replace x y z).cps.toList = repG y.cps.toList z.cps.toList 0 x.cps.toList := by
  obtain ⟨f, h, hn⟩ := StrLaws.occ_tight x y hw
  have key := join_parts z hw _ 0 f h hn (Nat.zero_le _)
  rw [List.drop_zero] at key
  unfold Txt.replace
  have hy0 : (y.length == 0) = false := by simp; omega
  rw [hy0, Bool.false_and, Bool.or_false]
  cases ho : Builtin.Str.occurrences x y 0 x.length (x.length + 1) with
  | nil =>
    rw [ho] at key
    rw [if_pos (show ([] : List Nat).isEmpty = true from rfl), ← key]
    show _ = (Builtin.Str.strSub x 0 x.length).cps.toList
    rw [StrLaws.sub_whole]
  | cons c r =>
    rw [if_neg (by simp), StrLaws.glued_eq_join, StrLaws.partsBetween_eq, ← ho]
    exact key
def joinL (sep : List Nat) : List (List Nat) → List Nat
  | [] => []
  | [x] => x
  | x :: y :: r => x ++ (sep ++ joinL sep (y :: r))
theorem join_list (sep : Str) : ∀ ts : List Str, (Txt.join sep ts).cps.toList = joinL sep.cps.toList (ts.map fun t => t.cps.toList) := by
  have h : ∀ ts : List Str, (Str.join sep ts).cps.toList = joinL sep.cps.toList (ts.map fun t => t.cps.toList) := fun ts => by
    induction ts with
    | nil => rfl
    | cons a r ih =>
      cases r with
      | nil => rfl
      | cons b r =>
        show (a ++ sep ++ Str.join sep (b :: r)).cps.toList = _
        rw [toList_app, toList_app, ih, List.append_assoc]
        rfl
  intro ts
  unfold Txt.join
  rw [StrLaws.glued_eq_join]
  exact h ts
abbrev tS (s : String) : Str := Str.ofString s
def dirL (b : Bool) : List Nat := if b then [102, 111, 117, 110, 100] else [116, 111, 108, 100]
def shufN (n : Nat) : Nat → List (List Nat × List Nat)
  | 0 => [([], List.range n)]
  | i + 1 => (shufN n i).flatMap fun s => (List.range s.2.length).map fun j => (s.1 ++ [s.2.getD j 0], s.2.eraseIdx j)
def permsN (n : Nat) : List (List Nat) := (shufN n n).map (·.1)
def modesN : List Nat → List (List (Nat × Bool))
  | [] => [[]]
  | p :: ps => (modesN ps).flatMap fun r => [(p, false) :: r, (p, true) :: r]
def subsN : Nat → List (List Nat)
  | 0 => [[]]
  | i + 1 => subsN i ++ (subsN i).map fun l => l ++ [i]
def stN11 (n : Nat) : List (List (Nat × Bool)) := (permsN n).flatMap modesN
def strip : List Nat → List Nat → Option (List Nat)
  | [], x => some x
  | _ :: _, [] => none
  | c :: p, d :: x => if Nat.beq c d then strip p x else none
def recStep (x : List Nat) : Option (Nat × List Nat) := match x with
  | [] => none
  | d :: x => if (Nat.ble 48 d && Nat.ble d 50) then (match strip [32, 116, 111, 108, 100] x with
    | some r => some (d, r)
    | none => match strip [32, 102, 111, 117, 110, 100] x with
      | some r => some (d, r)
      | none => none) else none
def recSteps : Nat → List Nat → List Nat → Option (List Nat × List Nat)
  | 0, _, _ => none
  | n + 1, seen, x => match recStep x with
    | none => none
    | some (d, r) => if seen.any (Nat.beq d) then none else match strip [44, 32] r with
      | some r' => recSteps n (d :: seen) r'
      | none => some (d :: seen, r)
def recNums : Nat → Nat → Nat → List Nat → Bool
  | 0, _, _, _ => false
  | n + 1, lo, hi, x => match x with
    | [] => false
    | d :: r => Nat.ble lo d && Nat.ble d hi && (match r with
      | [] => true
      | _ => match strip [44, 32] r with
        | some r' => recNums n (d + 1) hi r'
        | none => false)
def recTail (n : Nat) (x : List Nat) : Bool := match x with
  | [] => true
  | _ => match strip [59, 32, 110, 111, 116, 101, 100, 32] x with
    | some r => Nat.ble 1 n && recNums 4 48 (47 + n) r
    | none => false
def recBody (x : List Nat) : Bool := match x with
  | [45] => true
  | _ => match recSteps 4 [] x with
    | some (seen, r) => seen.all (fun d => Nat.ble d (47 + seen.length)) && recTail seen.length r
    | none => false
def isTxt (x : List Nat) : Bool := match strip [116, 111, 108, 100, 58, 32] x with
  | some r => recBody r
  | none => match strip [102, 111, 117, 110, 100, 58, 32] x with
    | some r => recBody r
    | none => false
def wL (p : Nat × Bool) : List Nat := (48 + p.1) :: 32 :: dirL p.2
def nL (k : Nat) : List Nat := [48 + k]
def bodyL (ws : List (List Nat)) : List Nat := if ws.isEmpty then [45] else joinL [44, 32] ws
def txtL (b : Bool) (st : List (Nat × Bool)) (nt : List Nat) : List Nat := if nt.isEmpty then (dirL b ++ [58, 32]) ++ bodyL (st.map wL) else ((dirL b ++ [58, 32]) ++ bodyL (st.map wL)) ++ ([59, 32, 110, 111, 116, 101, 100, 32] ++ joinL [44, 32] (nt.map nL))
theorem text_rec : ∀ n ∈ [0, 1, 2, 3], (stN11 n).all (fun st => (subsN n).all fun nt => [false, true].all fun b => isTxt (txtL b st nt)) = true := by decide +kernel
def jnL (h : List Nat) (ws ns : List (List Nat)) : List Nat := (((h ++ [58, 32]) ++ joinL [44, 32] ws) ++ [59, 32, 110, 111, 116, 101, 100, 32]) ++ joinL [44, 32] ns
def sepsL (h : List Nat) (ws ns : List (List Nat)) : List (List Nat) :=
  [[], jnL h ws ns ++ [10], [32] ++ jnL h ws ns, jnL h ws ns ++ [32], jnL h ws ns ++ [44], repG [58, 32] [58] 0 (jnL h ws ns), repG [58, 32] [32, 58, 32] 0 (jnL h ws ns)]
  ++ [repG [59, 32] [59] 0 (jnL h ws ns), repG [59, 32, 110, 111, 116, 101, 100] [32, 110, 111, 116, 101, 100] 0 (jnL h ws ns), repG [110, 111, 116, 101, 100] [78, 111, 116, 101, 100] 0 (jnL h ws ns)]
  ++ [((h ++ [58, 32]) ++ joinL [44, 32] ws) ++ [59], ((h ++ [58, 32]) ++ joinL [44, 32] ws) ++ [59, 32, 110, 111, 116, 101, 100, 32]]
  ++ [repG (h ++ [58]) h 0 (jnL h ws ns), jnL [116, 101, 108, 108] ws ns]
  ++ [jnL [] ws ns, jnL h (ws ++ ws.take 1) ns]
  ++ [jnL h ws (ns ++ ns.take 1), jnL h ws (ns ++ [[51]])]
  ++ [jnL h ws ([[48] ++ ns.getD 0 []] ++ ns.drop 1), jnL h [[45]] ns]
  ++ (if 1 < ws.length then [repG [44] [] 0 (jnL h ws ns)] else [])
  ++ (if 1 < ns.length then [jnL h ws ns.reverse] else [])
def stepsL (h : List Nat) (ws ns : List (List Nat)) (a : Nat) : List (List Nat) :=
  ([[], (ws.getD a []).take 1, (ws.getD a []).drop 2, [55, 32, 116, 111, 108, 100], [48] ++ ws.getD a [], ws.getD a [] ++ [120], repG [32] [32, 32] 0 (ws.getD a [])].map fun b => jnL h ((ws.take a ++ [b]) ++ ws.drop (a + 1)) ns)
  ++ [jnL h ((ws.take a ++ [[]]) ++ ws.drop a) ns]
  ++ (if 1 < ws.length then [jnL h (ws.take ((ws.map fun w => w.take 1).idxOf [48]) ++ ws.drop ((ws.map fun w => w.take 1).idxOf [48] + 1)) ns] else [])
def noneL (x : List Nat) : Bool := !isTxt x && Nat.ble x.length 80
set_option maxHeartbeats 0 in
theorem seps_1 : (stN11 1).all (fun st => (subsN 1).all fun nt => nt.isEmpty || [false, true].all fun b => (sepsL (dirL b) (st.map wL) (nt.map nL)).all noneL) = true := by decide +kernel
set_option maxHeartbeats 0 in
theorem seps_2 : (stN11 2).all (fun st => (subsN 2).all fun nt => nt.isEmpty || [false, true].all fun b => (sepsL (dirL b) (st.map wL) (nt.map nL)).all noneL) = true := by decide +kernel
set_option maxHeartbeats 0 in
theorem steps_1 : (stN11 1).all (fun st => (subsN 1).all fun nt => nt.isEmpty || [false, true].all fun b => (List.range 1).all fun a => (stepsL (dirL b) (st.map wL) (nt.map nL) a).all noneL) = true := by decide +kernel
set_option maxHeartbeats 0 in
theorem steps_2 : (stN11 2).all (fun st => (subsN 2).all fun nt => nt.isEmpty || [false, true].all fun b => (List.range 2).all fun a => (stepsL (dirL b) (st.map wL) (nt.map nL) a).all noneL) = true := by decide +kernel
set_option maxHeartbeats 0 in
theorem seps_3 : (stN11 3).all (fun st => (subsN 3).all fun nt => nt.isEmpty || [false, true].all fun b => (sepsL (dirL b) (st.map wL) (nt.map nL)).all noneL) = true := by decide +kernel
set_option maxHeartbeats 0 in
theorem steps_3 : (stN11 3).all (fun st => (subsN 3).all fun nt => nt.isEmpty || [false, true].all fun b => (List.range 3).all fun a => (stepsL (dirL b) (st.map wL) (nt.map nL) a).all noneL) = true := by decide +kernel
abbrev s__law_refused : Stmt := top 22
abbrev N__law_refused : List Str := ["_law_text", "e"]
abbrev P__law_refused : List Str := ["_law_text"]
theorem sc__law_refused : FnScope N__law_refused P__law_refused (defScope s__law_refused) := ⟨rfl, rfl, rfl, by decide +kernel, rfl, by decide +kernel, by decide +kernel⟩
def F_ref11 : FSpec := fun ds W Q _ => ∃ x : Str, ds = [.str x] ∧ x.length ≤ 80 ∧ (∀ y, WyP y → wtext y ≠ x) ∧ Q (.bl true) W
theorem ok__law_refused (F : Fz K mg "_law_refused" s__law_refused P__law_refused) (T : Txt K mg) (G_parse_way : Fx P w K mg base (L2.CX P w) "parse_way" 4 P_parse_way (lift K (F_pway (clsA mg "BadWay")))) : Fx P w K mg base (L2.CX P w) "_law_refused" 5 P__law_refused (lift K F_ref11) := by
  refine F.okD sc__law_refused (fun ds W Q E h => ?_) (fun f cdv A outer s H E e ds Qd Ed hr lk h => ?_)
  · obtain ⟨x, rfl, _⟩ := h
    rfl
  · obtain ⟨x, rfl, hx, hn, k⟩ := h
    refine zEx (pss_cons (tryAs_of K (ps_try_as (i := 1) rfl rfl sc__law_refused.nd rfl rfl ⟨rfl, by decide, .inl T.g_NotesError⟩ (takes_of rfl rfl rfl rfl) (fun W pn xe tk _ => (pss_one (ps_expr (fcallX tk G_parse_way (hr.mono (by first | decide | omega)) (by rfl) (pa_cons (pv 0) pa_nil))))) (fun a oe cls d pn hz hf => (pss_one (ps_ret (pe_and (pe_callB (call_isY K hz hf) (by rfl) T.b_isinstance (by decide +kernel) (pa_cons (pv 1) (pa_cons (pglob (v := .ref (clsA mg "BadWay")) rfl ⟨_, T.g_BadWay, rfl⟩) pa_nil))) (pe_one (pe_not (pe_callB (call_isY K hz hf) (by rfl) T.b_isinstance (by decide +kernel) (pa_cons (pv 1) (pa_cons (pglob (v := .ref (clsA mg "BadKind")) rfl ⟨_, T.g_BadKind, rfl⟩) pa_nil)))))))))))
      (pss_one (ps_ret pe_bl))) ?_
    apply zBox
    case h => walk_at "z"
    walk_at "d"
    refine ⟨x, rfl, hx, .inr ⟨hn, ?_⟩⟩
    walk_at "d"
    refine ex_catch T.exm_BadWay_NotesError (fun a1 d1 => ?_)
    walk_at "d"
    refine ⟨T.q_BadWay, true, T.kit_BadWay_BadWay, ?_⟩
    try walk_at "d"
    refine ⟨T.q_BadWay, false, T.kit_BadWay_BadKind, ?_⟩
    try walk_at "d"
    exact k
abbrev s__law_joined : Stmt := top 23
abbrev N__law_joined : List Str := ["_law_head", "_law_words", "_law_numbers"]
abbrev P__law_joined : List Str := ["_law_head", "_law_words", "_law_numbers"]
theorem sc__law_joined : FnScope N__law_joined P__law_joined (defScope s__law_joined) := ⟨rfl, rfl, rfl, by decide +kernel, rfl, by decide +kernel, by decide +kernel⟩
def jnS (h : Str) (ws ns : List Str) : Str := (((h ++ Str.ofString ": ") ++ Txt.join (Str.ofString ", ") ws) ++ Str.ofString "; noted ") ++ Txt.join (Str.ofString ", ") ns
def Few (ws : List Str) : Prop := ws.length ≤ 8 ∧ ∀ x ∈ ws, x.length ≤ 20
theorem few_sum {ws : List Str} (h : Few ws) : (ws.map (·.length)).sum ≤ 160 := by
  have := sum_le (f := fun x : Str => x.length) (n := 20) (l := ws) h.2
  have := h.1
  omega
def F_join11 : FSpec := fun ds W Q _ => ∃ (h : Str) (ws ns : List Str), ds = [.str h, .lst (ws.map D.str), .lst (ns.map D.str)] ∧ h.length ≤ 10 ∧ Few ws ∧ Few ns ∧ Q (.str (jnS h ws ns)) W
theorem ok__law_joined (F : Fz K mg "_law_joined" s__law_joined P__law_joined) (T : Txt K mg) : Fx P w K mg base (L2.CX P w) "_law_joined" 1 P__law_joined (lift K F_join11) := by
  refine F.okD sc__law_joined (fun ds W Q E h => ?_) (fun f cdv A outer s H E e ds Qd Ed hr lk h => ?_)
  · obtain ⟨x, ws, ns, rfl, _⟩ := h
    rfl
  · obtain ⟨x, ws, ns, rfl, hx, hw, hn, k⟩ := h
    refine ⟨_, _, (pss_one (ps_ret (pe_op (op_addU K) (pe_op (op_addU K) (pe_op (op_addU K) (pe_op (op_addU K) (pv 0) pe_str) (pe_bmK K PySem.F.plainAttrs_str PySem.F.slot_str_join PySem.F.type_str_join (mt_joinK K) pe_str (pa_cons (pv 1) pa_nil))) pe_str) (pe_bmK K PySem.F.plainAttrs_str PySem.F.slot_str_join PySem.F.type_str_join (mt_joinK K) pe_str (pa_cons (pv 2) pa_nil))))), inferInstance, ?_⟩
    walk_at "d"
    have c1 : (Str.ofString ": ").length = 2 := by decide +kernel
    have c2 : (Str.ofString "; noted ").length = 8 := by decide +kernel
    have c3 := comma_len
    have s1 := few_sum hw
    have s2 := few_sum hn
    have j1 := joinS_len (Str.ofString ", ") ws
    have j2 := joinS_len (Str.ofString ", ") ns
    have w1 := hw.1
    have n1 := hn.1
    rw [c3] at j1 j2
    have sD : ∀ l : List Str, strsD (l.map D.str) = some l := fun l => by
      have := strsD_mapF (fun x : Str => x) l
      rwa [List.map_id'] at this
    refine ⟨by omega, ?_⟩
    rw [sD]
    walk_at "d"
    refine ⟨by rw [c3]; omega, by rw [len_app]; omega, by rw [len_app, len_app]; omega, ?_⟩
    rw [sD]
    walk_at "d"
    refine ⟨by rw [c3]; omega, by rw [len_app, len_app, len_app]; omega, k⟩
abbrev s__law_shuffled : Stmt := top 21
abbrev N__law_shuffled : List Str := ["_law_tape_here", "_law_many", "_law_left", "_law_row", "_law_k"]
abbrev P__law_shuffled : List Str := ["_law_tape_here", "_law_many"]
theorem sc__law_shuffled : FnScope N__law_shuffled P__law_shuffled (defScope s__law_shuffled) := ⟨rfl, rfl, rfl, by decide +kernel, rfl, by decide +kernel, by decide +kernel⟩
def F_shuf : FSpecN := fun ds W Q _ => ∃ n : Nat, ds = [.tape, .int n] ∧ 1 ≤ n ∧ n ≤ 3 ∧ ∀ ps ∈ permsN n, Q (ps.map fun (k : Nat) => D.int k) W
theorem shufN_len (n : Nat) : ∀ i, i ≤ n → ∀ sp ∈ shufN n i, sp.1.length = i ∧ sp.2.length = n - i
  | 0, _, sp, h => by
    rw [shufN, List.mem_singleton] at h
    subst h
    simp
  | i + 1, hi, sp, h => by
    rw [shufN] at h
    obtain ⟨s, hs, h⟩ := List.mem_flatMap.mp h
    obtain ⟨j, hj, rfl⟩ := List.mem_map.mp h
    obtain ⟨h1, h2⟩ := shufN_len n i (by omega) s hs
    have hj := List.mem_range.mp hj
    rw [h2] at hj
    refine ⟨by simp [h1], ?_⟩
    show (s.2.eraseIdx j).length = _
    rw [List.length_eraseIdx, if_pos (by omega), h2]
    omega
theorem ok__law_shuffled (F : Fz K mg "_law_shuffled" s__law_shuffled P__law_shuffled) (T : Txt K mg) (G__law_take : Fx P w K mg base (L2.CX P w) "_law_take" 1 P__law_take (lift K F_take)) : Fx P w K mg base (L2.CX P w) "_law_shuffled" 2 P__law_shuffled (liftN K F_shuf) := by
  refine F.okDN sc__law_shuffled (fun ds W Q E h => ?_) (fun f cdv A outer s H E e ds Qd Ed hr lk h => ?_)
  · obtain ⟨n, rfl, _⟩ := h
    rfl
  · obtain ⟨n, rfl, h1, h3, k⟩ := h
    refine ⟨_, _, (pss_cons (setO_of (ps_setLc (i := 2) (own := [("_law_k", 4)]) (g := (gName 4)) (tt := tYes) rfl sc__law_shuffled.nd rfl rfl (sw_true rfl rfl rfl (by decide +kernel)) (pi_range1 (by rfl) T.b_range (pa_cons (pv 1) pa_nil)) (blkOk_by (own := [("_law_k", 4)]) (N := N__law_shuffled) (sc := defScope s__law_shuffled) (by decide +kernel)) (fun _ _ _ _ _ => (pg_name (i := 4) sc__law_shuffled.nd rfl (by first | exact Or.inl rfl | exact Or.inr rfl))) (fun _ _ _ _ _ => pts_nil) (fun _ _ _ _ _ => (pv 4))))
      (pss_cons (setO_of (ps_set (i := 3) sc__law_shuffled.nd rfl (Or.inl rfl) (pe_lst pa_nil)))
      (pss_cons (ps_for (passes_of rfl) rfl (pi_range1 (by rfl) T.b_range (pa_cons (pv 1) pa_nil)) (pg_name (i := 4) sc__law_shuffled.nd rfl (Or.inl rfl)) (pss_one (ps_expr (pe_bmK K PySem.F.plainAttrs_list PySem.F.slot_list_append PySem.F.type_list_append mt_append (pv 3) (pa_cons (pe_bmK K PySem.F.plainAttrs_list PySem.F.slot_list_pop PySem.F.type_list_pop mt_popAt (pv 2) (pa_cons (fcallX (takes_of rfl rfl rfl rfl) G__law_take (hr.mono (by first | decide | omega)) (by rfl) (pa_cons (pv 0) (pa_cons (pe_callB (call_lenU K) (by rfl) T.b_len PySem.boot_len (pa_cons (pv 2) pa_nil)) pa_nil))) pa_nil)) pa_nil)))))
      (pss_one (retO_of (ps_ret (pv 3))))))), inferInstance, ?_⟩
    walk_at "d"
    refine ⟨by omega, by omega, ?_⟩
    rw [show ((n : Nat) : Int).toNat = n by omega]
    refine comp_map (fun i : Nat => D.int (0 + (i : Int))) (fun i : Nat => D.int (i : Int)) (List.range n) (by simp; omega) (fun i hi N M h => ?_) ?_
    · walk_at "d"
      rw [Int.zero_add]
      exact h
    rw [List.nil_append]
    walk_at "d"
    refine ⟨by omega, by omega, ?_⟩
    rw [show ((n : Nat) : Int).toNat = n by omega]
    refine for_rng (fun i S => ∃ v4 sp, S = ⟨[some (.val .tape), some (.val (.int n)), some (.ownL (sp.2.map fun (k : Nat) => D.int k)), some (.ownL (sp.1.map fun (k : Nat) => D.int k)), v4], e.W⟩ ∧ sp ∈ shufN n i) ⟨_, ([], List.range n), rfl, by simp [shufN]⟩ ?_ ?_
    · rintro i S hi ⟨v4, sp, rfl, hsp⟩
      obtain ⟨l1, l2⟩ := shufN_len n i (by omega) sp hsp
      walk_at "d"
      refine ⟨_, rfl, by rw [List.length_map]; omega, fun r r0 r1 => ?_⟩
      rw [List.length_map] at r1
      have hj : sp.2[r.toNat]? = some (sp.2.getD r.toNat 0) := by rw [List.getD_eq_getElem?_getD, List.getElem?_eq_getElem (by omega)]; rfl
      walk_at "d"
      rw [popI_at (j := r.toNat) (by omega) (show (sp.2.map fun (k : Nat) => D.int k)[r.toNat]? = some (.int (sp.2.getD r.toNat 0 : Nat)) by rw [List.getElem?_map, hj]; rfl)]
      walk_at "d"
      have me : ∀ (l : List Nat) (j : Nat), (l.map fun (k : Nat) => D.int k).eraseIdx j = (l.eraseIdx j).map fun (k : Nat) => D.int k := fun l j => by
        rw [List.eraseIdx_eq_take_drop_succ, List.eraseIdx_eq_take_drop_succ, List.map_append, List.map_take, List.map_drop]
      refine ⟨⟨by omega, by omega⟩, by rw [List.length_map]; omega, _, (sp.1 ++ [sp.2.getD r.toNat 0], sp.2.eraseIdx r.toNat), by rw [me, List.map_append]; rfl, ?_⟩
      rw [shufN]
      exact List.mem_flatMap.mpr ⟨sp, hsp, List.mem_map.mpr ⟨r.toNat, List.mem_range.mpr (by omega), rfl⟩⟩
    · rintro S ⟨v4, sp, rfl, hsp⟩
      walk_at "d"
      exact k _ (List.mem_map.mpr ⟨sp, hsp, rfl⟩)
abbrev s__law_separators : Stmt := top 24
abbrev N__law_separators : List Str := ["_law_head", "_law_words", "_law_numbers", "_law_text", "_law_rows"]
abbrev P__law_separators : List Str := ["_law_head", "_law_words", "_law_numbers"]
theorem sc__law_separators : FnScope N__law_separators P__law_separators (defScope s__law_separators) := ⟨rfl, rfl, rfl, by decide +kernel, rfl, by decide +kernel, by decide +kernel⟩
def seps11 (h : Str) (ws ns : List Str) : List Str :=
  [tS "", jnS h ws ns ++ tS "\n", tS " " ++ jnS h ws ns, jnS h ws ns ++ tS " ", jnS h ws ns ++ tS ",", Txt.replace (jnS h ws ns) (tS ": ") (tS ":"), Txt.replace (jnS h ws ns) (tS ": ") (tS " : ")]
  ++ [Txt.replace (jnS h ws ns) (tS "; ") (tS ";"), Txt.replace (jnS h ws ns) (tS "; noted") (tS " noted"), Txt.replace (jnS h ws ns) (tS "noted") (tS "Noted")]
  ++ [((h ++ tS ": ") ++ Txt.join (tS ", ") ws) ++ tS ";", ((h ++ tS ": ") ++ Txt.join (tS ", ") ws) ++ tS "; noted "]
  ++ [Txt.replace (jnS h ws ns) (h ++ tS ":") h, jnS (tS "tell") ws ns]
  ++ [jnS (tS "") ws ns, jnS h (ws ++ ws.take 1) ns]
  ++ [jnS h ws (ns ++ ns.take 1), jnS h ws (ns ++ [tS "3"])]
  ++ [jnS h ws ([tS "0" ++ ns.getD 0 (tS "")] ++ ns.drop 1), jnS h [tS "-"] ns]
  ++ (if 1 < ws.length then [Txt.replace (jnS h ws ns) (tS ",") (tS "")] else [])
  ++ (if 1 < ns.length then [jnS h ws ns.reverse] else [])
def F_sep11 : FSpecN := fun ds W Q _ => ∃ (h : Str) (ws ns : List Str), ds = [.str h, .lst (ws.map D.str), .lst (ns.map D.str)] ∧ 1 ≤ h.length ∧ h.length ≤ 10 ∧ 1 ≤ ws.length ∧ ws.length ≤ 3 ∧ (∀ x ∈ ws, x.length ≤ 10) ∧ 1 ≤ ns.length ∧ ns.length ≤ 3 ∧ (∀ x ∈ ns, x.length ≤ 10) ∧ Q ((seps11 h ws ns).map D.str) W
theorem jn_len {h : Str} {ws ns : List Str} (hh : h.length ≤ 10) (hw : Few ws) (hn : Few ns) : (jnS h ws ns).length ≤ 400 := by
  have c1 : (Str.ofString ": ").length = 2 := by decide +kernel
  have c2 : (Str.ofString "; noted ").length = 8 := by decide +kernel
  have c3 := comma_len
  have s1 := few_sum hw
  have s2 := few_sum hn
  have j1 := joinS_len (Str.ofString ", ") ws
  have j2 := joinS_len (Str.ofString ", ") ns
  have w1 := hw.1
  have n1 := hn.1
  rw [c3] at j1 j2
  unfold jnS
  rw [len_app, len_app, len_app, len_app]
  omega
theorem ok__law_separators (F : Fz K mg "_law_separators" s__law_separators P__law_separators) (T : Txt K mg) (G__law_joined : Fx P w K mg base (L2.CX P w) "_law_joined" 1 P__law_joined (lift K F_join11)) : FxW P w K mg base (L2.CX P w) "_law_separators" 2 P__law_separators (liftN K F_sep11) := by
  refine F.okDNW (x0 := "_law_head") sc__law_separators rfl rfl (fun ds W Q E h => ?_) (fun f cdv A outer s H E e ds Qd Ed hr lk h => ?_)
  · obtain ⟨h, ws, ns, rfl, _⟩ := h
    rfl
  · obtain ⟨h, ws, ns, rfl, a1, a2, w1, w2, w3, n1, n2, n3, k⟩ := h
    refine ⟨_, _, (w_cons (n_set (i := 3) sc__law_separators.nd rfl (Or.inl rfl) (n_fcallX (takes_of rfl rfl rfl rfl) G__law_joined (hr.mono (by first | decide | omega)) (by rfl) (n_cons (n_pv 0) (n_cons (n_pv 1) (n_cons (n_pv 2) n_nil)))))
      (w_cons (nO_of (n_set (i := 4) sc__law_separators.nd rfl (Or.inl rfl) (n_lst (n_cons n_str (n_cons (n_op (opn_addU K) (n_pv 3) n_str) (n_cons (n_op (opn_addU K) n_str (n_pv 3)) (n_cons (n_op (opn_addU K) (n_pv 3) n_str) (n_cons (n_op (opn_addU K) (n_pv 3) n_str) (n_cons (n_repl (n_pv 3)) (n_cons (n_repl (n_pv 3)) n_nil))))))))))
      (w_cons (nO_of (n_set (i := 4) sc__law_separators.nd rfl (Or.inl rfl) (n_op (opn_addU K) (n_pv 4) (n_lst (n_cons (n_repl (n_pv 3)) (n_cons (n_repl (n_pv 3)) (n_cons (n_repl (n_pv 3)) n_nil)))))))
      (w_cons (nO_of (n_set (i := 4) sc__law_separators.nd rfl (Or.inl rfl) (n_op (opn_addU K) (n_pv 4) (n_lst (n_cons (n_op (opn_addU K) (n_op (opn_addU K) (n_op (opn_addU K) (n_pv 0) n_str) (n_join K n_str (n_cons (n_pv 1) n_nil))) n_str) (n_cons (n_op (opn_addU K) (n_op (opn_addU K) (n_op (opn_addU K) (n_pv 0) n_str) (n_join K n_str (n_cons (n_pv 1) n_nil))) n_str) n_nil))))))
      (wO_of (w_setT (i := 4) sc__law_separators.nd rfl (Or.inl rfl) (w_op (op_addU K) (n_pv 4) (w_lst (w_repl (ik := 3) (ih := 0) rfl (Or.inl rfl) rfl rfl) (pa_cons (fcallX (takes_of rfl rfl rfl rfl) G__law_joined (hr.mono (by first | decide | omega)) (by rfl) (pa_cons pe_str (pa_cons (pv 1) (pa_cons (pv 2) pa_nil)))) pa_nil)))
      (psst_cons (PST.of (setO_of (ps_set (i := 4) sc__law_separators.nd rfl (Or.inl rfl) (pe_op (op_addU K) (pv 4) (pe_lst (pa_cons (fcallX (takes_of rfl rfl rfl rfl) G__law_joined (hr.mono (by first | decide | omega)) (by rfl) (pa_cons pe_str (pa_cons (pv 1) (pa_cons (pv 2) pa_nil)))) (pa_cons (fcallX (takes_of rfl rfl rfl rfl) G__law_joined (hr.mono (by first | decide | omega)) (by rfl) (pa_cons (pv 0) (pa_cons (pe_op (op_addU K) (pv 1) (pe_slice (sl_U K) (pv 1) po_none (po_some pe_int))) (pa_cons (pv 2) pa_nil)))) pa_nil)))))))
      (psst_cons (PST.of (setO_of (ps_set (i := 4) sc__law_separators.nd rfl (Or.inl rfl) (pe_op (op_addU K) (pv 4) (pe_lst (pa_cons (fcallX (takes_of rfl rfl rfl rfl) G__law_joined (hr.mono (by first | decide | omega)) (by rfl) (pa_cons (pv 0) (pa_cons (pv 1) (pa_cons (pe_op (op_addU K) (pv 2) (pe_slice (sl_U K) (pv 2) po_none (po_some pe_int))) pa_nil)))) (pa_cons (fcallX (takes_of rfl rfl rfl rfl) G__law_joined (hr.mono (by first | decide | omega)) (by rfl) (pa_cons (pv 0) (pa_cons (pv 1) (pa_cons (pe_op (op_addU K) (pv 2) (pe_lst (pa_cons pe_str pa_nil))) pa_nil)))) pa_nil)))))))
      (psst_cons (PST.of (setO_of (ps_set (i := 4) sc__law_separators.nd rfl (Or.inl rfl) (pe_op (op_addU K) (pv 4) (pe_lst (pa_cons (fcallX (takes_of rfl rfl rfl rfl) G__law_joined (hr.mono (by first | decide | omega)) (by rfl) (pa_cons (pv 0) (pa_cons (pv 1) (pa_cons (pe_op (op_addU K) (pe_lst (pa_cons (pe_op (op_addU K) pe_str (pe_ix (ix_U K (hu_of hr)) (pv 2) pe_int (fun _ _ => rfl))) pa_nil)) (pe_slice (sl_U K) (pv 2) (po_some pe_int) po_none)) pa_nil)))) (pa_cons (fcallX (takes_of rfl rfl rfl rfl) G__law_joined (hr.mono (by first | decide | omega)) (by rfl) (pa_cons (pv 0) (pa_cons (pe_lst (pa_cons pe_str pa_nil)) (pa_cons (pv 2) pa_nil)))) pa_nil)))))))
      (psst_cons (CwR.pst_if (pt_cmpR op_gtU (pe_callB (call_lenU K) (by rfl) T.b_len PySem.boot_len (pa_cons (pv 1) pa_nil)) pe_int (nomark _)) (psst_cons (pst_expr (pet_bm K PySem.F.plainAttrs_list PySem.F.slot_list_append PySem.F.type_list_append mt_append (pv 4) (pat_cons (CwR.pet_replC (pv 3)) pat_nil)))
      (PSsT.of pss_nil)) (PSsT.of pss_nil))
      (PSsT.of (pss_cons (ps_if (pt_cmpR op_gtU (pe_callB (call_lenU K) (by rfl) T.b_len PySem.boot_len (pa_cons (pv 2) pa_nil)) pe_int (nomark _)) (pss_one (ps_expr (pe_bmK K PySem.F.plainAttrs_list PySem.F.slot_list_append PySem.F.type_list_append mt_append (pv 4) (pa_cons (fcallX (takes_of rfl rfl rfl rfl) G__law_joined (hr.mono (by first | decide | omega)) (by rfl) (pa_cons (pv 0) (pa_cons (pv 1) (pa_cons (Kn.pe_revL K (pv 2) (po_some (pe_un un_neg pe_int))) pa_nil)))) pa_nil)))) pss_nil)
      (pss_one (retO_of (ps_ret (pv 4)))))))))))))))), inferInstance, ?_⟩
    have fw : Few ws := ⟨by omega, fun x hx => by have := w3 x hx; omega⟩
    have fn : Few ns := ⟨by omega, fun x hx => by have := n3 x hx; omega⟩
    walk_at "d"
    refine ⟨h, ws, ns, rfl, a2, fw, fn, ?_⟩
    have jl := jn_len a2 fw fn
    unfold seps11 at k
    generalize hj : jnS h ws ns = t at *
    walk_at "d"
    have k1 : (Str.ofString "\n").length = 1 := by decide +kernel
    have k2 : (Str.ofString " ").length = 1 := by decide +kernel
    have k3 : (Str.ofString ",").length = 1 := by decide +kernel
    have k4 : (Str.ofString ":").length = 1 := by decide +kernel
    have k5 : (Str.ofString " : ").length = 3 := by decide +kernel
    have k6 : (Str.ofString ";").length = 1 := by decide +kernel
    have k7 : (Str.ofString " noted").length = 6 := by decide +kernel
    have k8 : (Str.ofString "Noted").length = 5 := by decide +kernel
    have k9 : (Str.ofString ": ").length = 2 := by decide +kernel
    have k10 : (Str.ofString "; noted ").length = 8 := by decide +kernel
    have k11 : (Str.ofString "").length = 0 := by decide +kernel
    have c3 := comma_len
    have s1 := few_sum fw
    have j1 := joinS_len (Str.ofString ", ") ws
    rw [c3] at j1
    have sD : ∀ l : List Str, strsD (l.map D.str) = some l := fun l => by
      have := strsD_mapF (fun x : Str => x) l
      rwa [List.map_id'] at this
    rw [k1, k2, k3, k4, k5, k6, k7, k8, k9]
    refine ⟨by omega, by omega, by omega, by omega, by omega, by omega, by omega, by omega, by omega, by omega, ?_⟩
    rw [sD]
    walk_at "d"
    refine ⟨by rw [c3]; omega, by rw [len_app]; omega, by rw [len_app, len_app]; omega, by omega, ?_⟩
    rw [sD]
    walk_at "d"
    have hm : (t.length + 1) * h.length ≤ 401 * 10 := Nat.mul_le_mul (by omega) a2
    refine ⟨by rw [c3]; omega, by rw [len_app]; omega, by rw [len_app, len_app, k10]; omega, by omega, by rw [k4]; omega, by omega, by omega, ?_⟩
    refine ⟨tS "tell", ws, ns, rfl, by decide +kernel, fw, fn, ?_⟩
    walk_at "d"
    refine ⟨tS "", ws, ns, rfl, by decide +kernel, fw, fn, ?_⟩
    walk_at "d"
    have ct : ∀ l : List Str, 1 ≤ l.length → cut (l.map D.str) none (some 1) = (l.take 1).map D.str := fun l hl => by
      have := cut_to (xs := l.map D.str) (i := 1) (z := 1) rfl (by rw [List.length_map]; exact hl)
      rw [this, List.map_take]
    have cf : ∀ l : List Str, 1 ≤ l.length → cut (l.map D.str) (some 1) none = (l.drop 1).map D.str := fun l hl => by
      have := cut_from (xs := l.map D.str) (i := 1) (z := 1) rfl (by rw [List.length_map]; exact hl)
      rw [this, List.map_drop]
    have tk1 : ∀ l : List Str, l.length ≤ 3 → (∀ x ∈ l, x.length ≤ 10) → Few (l ++ l.take 1) := fun l hl hx => ⟨by rw [List.length_append, List.length_take]; omega, fun x hm => by
      rcases List.mem_append.mp hm with hm | hm
      · have := hx x hm; omega
      · have := hx x (List.mem_of_mem_take hm); omega⟩
    rw [ct ws w1, ← List.map_append]
    refine ⟨by rw [List.length_map, List.length_map, List.length_take]; omega, h, ws ++ ws.take 1, ns, rfl, a2, tk1 ws w2 w3, fn, ?_⟩
    walk_at "d"
    rw [ct ns n1, ← List.map_append]
    refine ⟨by rw [List.length_map, List.length_map, List.length_take]; omega, h, ws, ns ++ ns.take 1, rfl, a2, fw, tk1 ns n2 n3, ?_⟩
    walk_at "d"
    have q3 : (tS "3").length ≤ 20 := by decide +kernel
    have q0 : (tS "0").length = 1 := by decide +kernel
    have qm : (tS "-").length ≤ 20 := by decide +kernel
    refine ⟨by rw [List.length_map]; omega, h, ws, ns ++ [tS "3"], by rw [List.map_append]; rfl, a2, fw, ⟨by simp; omega, fun x hm => ?_⟩, ?_⟩
    · rcases List.mem_append.mp hm with hm | hm
      · have := n3 x hm; omega
      · rw [List.mem_singleton.mp hm]; exact q3
    walk_at "d"
    have e0 : ns[0]? = some (ns.getD 0 (tS "")) := by rw [List.getD_eq_getElem?_getD, List.getElem?_eq_getElem (by omega)]; rfl
    have l0 : (ns.getD 0 (tS "")).length ≤ 10 := n3 _ (List.mem_of_getElem? e0)
    rw [show atI (ns.map D.str) 0 = some (.str (ns.getD 0 (tS ""))) from at_get (j := 0) rfl (show (ns.map D.str)[0]? = some (.str (ns.getD 0 (tS ""))) by rw [List.getElem?_map, e0]; rfl)]
    walk_at "d"
    rw [cf ns n1]
    have q0' : (Str.ofString "0").length = 1 := q0
    refine ⟨by rw [q0']; omega, by rw [List.length_map, List.length_drop]; omega, h, ws, [tS "0" ++ ns.getD 0 (tS "")] ++ ns.drop 1, by rw [List.map_append]; rfl, a2, fw, ⟨by simp; omega, fun x hm => ?_⟩, ?_⟩
    · rcases List.mem_append.mp hm with hm | hm
      · rw [List.mem_singleton.mp hm, len_app, q0]; omega
      · have := n3 x (List.mem_of_mem_drop hm); omega
    walk_at "d"
    refine ⟨h, [tS "-"], ns, rfl, a2, ⟨by simp, fun x hm => by rw [List.mem_singleton.mp hm]; exact qm⟩, fn, ?_⟩
    walk_at "d"
    rw [List.length_map]
    refine iteB_by (fun c1 => ?_) (fun c1 => ?_)
    · rw [if_pos (show 1 < ws.length by omega)] at k
      walk_at "d"
      rw [k11]
      refine ⟨by omega, ?_⟩
      try walk_at "d"
      rw [List.length_map]
      refine iteB_by (fun c2 => ?_) (fun c2 => ?_)
      · rw [if_pos (show 1 < ns.length by omega)] at k
        walk_at "d"
        refine ⟨h, ws, ns.reverse, by rw [List.map_reverse], a2, fw, ⟨by rw [List.length_reverse]; omega, fun x hm => by have := n3 x (List.mem_reverse.mp hm); omega⟩, ?_⟩
        walk_at "d"
        exact k
      · rw [if_neg (show ¬ 1 < ns.length by omega)] at k
        walk_at "d"
        exact k
    · rw [if_neg (show ¬ 1 < ws.length by omega)] at k
      walk_at "d"
      rw [List.length_map]
      refine iteB_by (fun c2 => ?_) (fun c2 => ?_)
      · rw [if_pos (show 1 < ns.length by omega)] at k
        walk_at "d"
        refine ⟨h, ws, ns.reverse, by rw [List.map_reverse], a2, fw, ⟨by rw [List.length_reverse]; omega, fun x hm => by have := n3 x (List.mem_reverse.mp hm); omega⟩, ?_⟩
        walk_at "d"
        exact k
      · rw [if_neg (show ¬ 1 < ns.length by omega)] at k
        walk_at "d"
        exact k
theorem strs_ok {α : Type} {f : α → Str} : ∀ {xs : List α}, (∀ x ∈ xs, PyData.strOk (f x) = true) → okL false (xs.map fun x => D.str (f x)) = true
  | [], _ => by rw [List.map_nil, okL]
  | x :: xs, h => by
    rw [List.map_cons, okL, okD, h x List.mem_cons_self, strs_ok fun y hy => h y (List.mem_cons_of_mem _ hy)]; rfl
theorem strs_dp {α : Type} {f : α → Str} : ∀ {xs : List α}, dpL (xs.map fun x => D.str (f x)) = 0
  | [] => by rw [List.map_nil, dpL]
  | x :: xs => by
    have h : dpD (D.str (f x)) = 0 := by simp [dpD]
    rw [List.map_cons, dpL, h, strs_dp]; rfl
abbrev s__law_steps_changed : Stmt := top 25
abbrev N__law_steps_changed : List Str := ["_law_head", "_law_words", "_law_numbers", "_law_at", "_law_bads", "_law_rows", "_law_least", "_law_bad", "_law_word"]
abbrev P__law_steps_changed : List Str := ["_law_head", "_law_words", "_law_numbers", "_law_at"]
theorem sc__law_steps_changed : FnScope N__law_steps_changed P__law_steps_changed (defScope s__law_steps_changed) := ⟨rfl, rfl, rfl, by decide +kernel, rfl, by decide +kernel, by decide +kernel⟩
def badS (w : Str) : List Str := [tS "", cutS w none (some 1), cutS w (some 2) none, tS "7 told", tS "0" ++ w, w ++ tS "x", Txt.replace w (tS " ") (tS "  ")]
def lst0 (ws : List Str) : Nat := idxI (ws.map fun w => D.str (cutS w none (some 1))) (D.str (Str.ofString "0"))
def steps11 (h : Str) (ws ns : List Str) (a : Nat) : List Str :=
  ((badS (ws.getD a (tS ""))).map fun b => jnS h ((ws.take a ++ [b]) ++ ws.drop (a + 1)) ns)
  ++ [jnS h ((ws.take a ++ [tS ""]) ++ ws.drop a) ns]
  ++ (if 1 < ws.length then [jnS h (ws.take (lst0 ws) ++ ws.drop (lst0 ws + 1)) ns] else [])
def F_stc11 : FSpecN := fun ds W Q _ => ∃ (h : Str) (ws ns : List Str) (a : Nat), ds = [.str h, .lst (ws.map D.str), .lst (ns.map D.str), .int a] ∧ h.length ≤ 10 ∧ a < ws.length ∧ ws.length ≤ 3 ∧ (∀ x ∈ ws, x.length ≤ 8 ∧ 1 ≤ x.length ∧ PyData.strOk (cutS x none (some 1)) = true) ∧ (ws.length = 1 ∨ tS "0" ∈ ws.map fun w => cutS w none (some 1)) ∧ (∀ x ∈ badS (ws.getD a (tS "")), x.length ≤ 20) ∧ ns.length ≤ 3 ∧ (∀ x ∈ ns, x.length ≤ 10) ∧ Q ((steps11 h ws ns a).map D.str) W
theorem ok__law_steps_changed (F : Fz K mg "_law_steps_changed" s__law_steps_changed P__law_steps_changed) (T : Txt K mg) (G__law_joined : Fx P w K mg base (L2.CX P w) "_law_joined" 1 P__law_joined (lift K F_join11)) : Fx P w K mg base (L2.CX P w) "_law_steps_changed" 2 P__law_steps_changed (liftN K F_stc11) := by
  refine F.okDN sc__law_steps_changed (fun ds W Q E h => ?_) (fun f cdv A outer s H E e ds Qd Ed hr lk h => ?_)
  · obtain ⟨h, ws, ns, a, rfl, _⟩ := h
    rfl
  · obtain ⟨h, ws, ns, a, rfl, a2, ha, w2, w3, w4, hb, n2, n3, k⟩ := h
    refine ⟨_, _, (pss_cons (ps_set (i := 4) sc__law_steps_changed.nd rfl (Or.inl rfl) (pe_lstS (pat_cons (CwR.PET.of (pe_slice (sl_U K) (pe_ix (ix_U K (hu_of hr)) (pv 1) (pv 3) (fun _ _ => rfl)) po_none (po_some pe_int))) (pat_cons (CwR.PET.of (pe_slice (sl_U K) (pe_ix (ix_U K (hu_of hr)) (pv 1) (pv 3) (fun _ _ => rfl)) (po_some pe_int) po_none)) (pat_cons (CwR.PET.of pe_str) (pat_cons (CwR.PET.of (pe_op (op_addU K) pe_str (pe_ix (ix_U K (hu_of hr)) (pv 1) (pv 3) (fun _ _ => rfl)))) (pat_cons (CwR.PET.of (pe_op (op_addU K) (pe_ix (ix_U K (hu_of hr)) (pv 1) (pv 3) (fun _ _ => rfl)) pe_str)) (pat_cons (CwR.pet_replC (pe_ix (ix_U K (hu_of hr)) (pv 1) (pv 3) (fun _ _ => rfl))) pat_nil))))))))
      (pss_cons (setO_of (ps_setLc (i := 5) (own := [("_law_bad", 7)]) (g := (gName 7)) (tt := tYes) rfl sc__law_steps_changed.nd rfl rfl (sw_true rfl rfl rfl (by decide +kernel)) (pi_any K (pv 4)) (blkOk_by (own := [("_law_bad", 7)]) (N := N__law_steps_changed) (sc := defScope s__law_steps_changed) (by decide +kernel)) (fun _ _ _ _ _ => (pg_name (i := 7) sc__law_steps_changed.nd rfl (by first | exact Or.inl rfl | exact Or.inr rfl))) (fun _ _ _ _ _ => pts_nil) (fun _ _ _ _ _ => (fcallX takes0 G__law_joined (hr.mono (by first | decide | omega)) (by rfl) (pa_cons (pv 0) (pa_cons (pe_op (op_addU K) (pe_op (op_addU K) (pe_slice (sl_U K) (pv 1) po_none (po_some (pv 3))) (pe_lst (pa_cons (pv 7) pa_nil))) (pe_slice (sl_U K) (pv 1) (po_some (pe_op (op_addU K) (pv 3) pe_int)) po_none)) (pa_cons (pv 2) pa_nil)))))))
      (pss_cons (ps_expr (pe_bmK K PySem.F.plainAttrs_list PySem.F.slot_list_append PySem.F.type_list_append mt_append (pv 5) (pa_cons (fcallX (takes_of rfl rfl rfl rfl) G__law_joined (hr.mono (by first | decide | omega)) (by rfl) (pa_cons (pv 0) (pa_cons (pe_op (op_addU K) (pe_op (op_addU K) (pe_slice (sl_U K) (pv 1) po_none (po_some (pv 3))) (pe_lst (pa_cons pe_str pa_nil))) (pe_slice (sl_U K) (pv 1) (po_some (pv 3)) po_none)) (pa_cons (pv 2) pa_nil)))) pa_nil)))
      (pss_cons (ps_if (pt_cmpR op_gtU (pe_callB (call_lenU K) (by rfl) T.b_len PySem.boot_len (pa_cons (pv 1) pa_nil)) pe_int (nomark _)) (pss_cons (ps_set (i := 6) sc__law_steps_changed.nd rfl (Or.inl rfl) (pe_bmK K PySem.F.plainAttrs_list PySem.F.slot_list_index PySem.F.type_list_index (mt_indexDK K (hu65_of hr)) (pe_lc (own := [("_law_word", 8)]) (g := (gName 8)) (tt := tYes) rfl sc__law_steps_changed.nd (pi_any K (pv 1)) (blkOk_by (own := [("_law_word", 8)]) (N := N__law_steps_changed) (sc := defScope s__law_steps_changed) (by decide +kernel)) (fun _ _ _ _ _ => (pg_name (i := 8) sc__law_steps_changed.nd rfl (by first | exact Or.inl rfl | exact Or.inr rfl))) (fun _ _ _ _ _ => pts_nil) (fun _ _ _ _ _ => (pe_slice (sl_U K) (pv 8) po_none (po_some pe_int)))) (pa_cons pe_str pa_nil)))
      (pss_one (ps_expr (pe_bmK K PySem.F.plainAttrs_list PySem.F.slot_list_append PySem.F.type_list_append mt_append (pv 5) (pa_cons (fcallX (takes_of rfl rfl rfl rfl) G__law_joined (hr.mono (by first | decide | omega)) (by rfl) (pa_cons (pv 0) (pa_cons (pe_op (op_addU K) (pe_slice (sl_U K) (pv 1) po_none (po_some (pv 6))) (pe_slice (sl_U K) (pv 1) (po_some (pe_op (op_addU K) (pv 6) pe_int)) po_none)) (pa_cons (pv 2) pa_nil)))) pa_nil))))) pss_nil)
      (pss_one (retO_of (ps_ret (pv 5)))))))), inferInstance, ?_⟩
    have fn : Few ns := ⟨by omega, fun x hx => by have := n3 x hx; omega⟩
    have ea : ws[a]? = some (ws.getD a (tS "")) := by rw [List.getD_eq_getElem?_getD, List.getElem?_eq_getElem ha]; rfl
    have la := w3 _ (List.mem_of_getElem? ea)
    have ix : atI (ws.map D.str) (a : Int) = some (.str (ws.getD a (tS ""))) := at_get (j := a) rfl (by rw [List.getElem?_map, ea]; rfl)
    walk_at "d"
    rw [ix]
    walk_at "d"
    generalize hw : ws.getD a (tS "") = w at *
    refine ⟨by omega, ?_⟩
    rw [ix]
    walk_at "d"
    refine ⟨by omega, ?_⟩
    rw [ix]
    walk_at "d"
    have q0 : (Str.ofString "0").length = 1 := by decide +kernel
    have qx : (Str.ofString "x").length = 1 := by decide +kernel
    have qs : (Str.ofString "  ").length = 2 := by decide +kernel
    refine ⟨by rw [q0]; omega, ?_⟩
    rw [ix]
    walk_at "d"
    refine ⟨by rw [qx]; omega, ?_⟩
    rw [ix]
    walk_at "d"
    refine ⟨by rw [qs]; omega, ?_⟩
    try walk_at "d"
    have ct : ∀ (i : Nat) (z : Int), z = i → i ≤ ws.length → cut (ws.map D.str) none (some z) = (ws.take i).map D.str := fun i z hz hi => by
      rw [cut_to (i := i) hz (by rw [List.length_map]; exact hi), List.map_take]
    have cf : ∀ (i : Nat) (z : Int), z = i → i ≤ ws.length → cut (ws.map D.str) (some z) none = (ws.drop i).map D.str := fun i z hz hi => by
      rw [cut_from (i := i) hz (by rw [List.length_map]; exact hi), List.map_drop]
    have few : ∀ (i j : Nat) (b : List Str), b.length ≤ 1 → (∀ x ∈ b, x.length ≤ 20) → Few ((ws.take i ++ b) ++ ws.drop j) := fun i j b hb1 hb2 => ⟨by simp; omega, fun x hm => by
      rcases List.mem_append.mp hm with hm | hm
      · rcases List.mem_append.mp hm with hm | hm
        · have := w3 x (List.mem_of_mem_take hm); omega
        · exact hb2 x hm
      · have := w3 x (List.mem_of_mem_drop hm); omega⟩
    refine comp_map D.str (fun b => D.str (jnS h ((ws.take a ++ [b]) ++ ws.drop (a + 1)) ns)) (badS w) (by simp [badS]) (fun b hbm N M hn => ?_) ?_
    · walk_at "d"
      rw [ct a a rfl (by omega), cf (a + 1) ((a : Int) + 1) (by omega) (by omega)]
      refine ⟨by simp; omega, by simp; omega, h, (ws.take a ++ [b]) ++ ws.drop (a + 1), ns, by rw [List.map_append, List.map_append]; rfl, a2, few a (a + 1) [b] (by simp) (fun x hx => by rw [List.mem_singleton.mp hx]; exact hb b hbm), fn, ?_⟩
      walk_at "d"
      exact hn
    · walk_at "d"
      rw [ct a a rfl (by omega), cf a a rfl (by omega)]
      refine ⟨by simp; omega, by simp; omega, h, (ws.take a ++ [tS ""]) ++ ws.drop a, ns, by rw [List.map_append, List.map_append]; rfl, a2, few a a [tS ""] (by simp) (fun x hx => by rw [List.mem_singleton.mp hx]; decide +kernel), fn, ?_⟩
      walk_at "d"
      refine ⟨by simp [badS], ?_⟩
      try walk_at "d"
      rw [List.length_map]
      unfold steps11 at k
      rw [hw, List.map_append, List.map_append, List.map_map] at k
      refine iteB_by (fun c1 => ?_) (fun c1 => ?_)
      · rw [if_pos (show 1 < ws.length by omega)] at k
        walk_at "d"
        refine comp_map D.str (fun w => D.str (cutS w none (some 1))) ws (by simp; omega) (fun b hbm N M hn => ?_) ?_
        · have := w3 b hbm
          walk_at "d"
          refine ⟨by omega, ?_⟩
          exact hn
        · rw [List.nil_append]
          walk_at "d"
          have hm0 : D.str (Str.ofString "0") ∈ ws.map fun w => D.str (cutS w none (some 1)) := by
            rcases w4 with w4 | w4
            · omega
            · obtain ⟨v, hv, e⟩ := List.mem_map.mp w4
              exact List.mem_map.mpr ⟨v, hv, by rw [e]⟩
          have hix := (idxI_at hm0).1
          have hlt : lst0 ws < ws.length := by
            have := (List.getElem?_eq_some_iff.mp hix).1
            rw [List.length_map] at this
            exact this
          rw [show idxI (ws.map fun w => D.str (cutS w none (some 1))) (D.str (Str.ofString "0")) = lst0 ws from rfl]
          rw [ct (lst0 ws) _ rfl (by omega), cf (lst0 ws + 1) _ (by omega) (by omega)]
          refine ⟨⟨_, rfl⟩, ⟨false, by rw [okD]; decide +kernel, strs_ok fun x hx => (w3 x hx).2.2, by simp [dpD], by rw [strs_dp]; decide⟩, ?_⟩
          have few2 := few (lst0 ws) (lst0 ws + 1) [] (by simp) (fun x hx => by cases hx)
          rw [List.append_nil] at few2
          refine ⟨hm0, by rw [List.length_map, List.length_map, List.length_take, List.length_drop]; omega, h, ws.take (lst0 ws) ++ ws.drop (lst0 ws + 1), ns, by rw [List.map_append], a2, few2, fn, ?_⟩
          walk_at "d"
          refine ⟨by simp [badS], ?_⟩
          try walk_at "d"
          exact k
      · rw [if_neg (show ¬ 1 < ws.length by omega), List.map_nil, List.append_nil] at k
        walk_at "d"
        exact k
abbrev tl11 (x : Str) : List Nat := x.cps.toList
theorem tl_jn (h : Str) (ws ns : List Str) : tl11 (jnS h ws ns) = jnL (tl11 h) (ws.map tl11) (ns.map tl11) := by
  have e1 : (Str.ofString ": ").cps.toList = [58, 32] := by decide +kernel
  have e2 : (Str.ofString "; noted ").cps.toList = [59, 32, 110, 111, 116, 101, 100, 32] := by decide +kernel
  have e3 : (Str.ofString ", ").cps.toList = [44, 32] := by decide +kernel
  show (jnS h ws ns).cps.toList = _
  unfold jnS jnL
  rw [toList_app, toList_app, toList_app, toList_app, join_list, join_list, e1, e2, e3]
theorem tl_rep {x y z : Str} {a b : List Nat} (hy : tl11 y = a) (hz : tl11 z = b) (ha : a ≠ []) : tl11 (Txt.replace x y z) = repG a b 0 (tl11 x) := by
  have hl : y.length = y.cps.toList.length := by simp [Str.length]
  show (Txt.replace x y z).cps.toList = _
  rw [rep_list (by rw [hl, show y.cps.toList = a from hy]; exact List.length_pos_iff.mpr ha), show y.cps.toList = a from hy, show z.cps.toList = b from hz]
theorem tl_app (a b : Str) : tl11 (a ++ b) = tl11 a ++ tl11 b := toList_app a b
theorem seps_list (h : Str) (ws ns : List Str) : (seps11 h ws ns).map tl11 = sepsL (tl11 h) (ws.map tl11) (ns.map tl11) := by
  have c0 : tl11 (tS "") = [] := by decide +kernel
  have c1 : tl11 (tS "\n") = [10] := by decide +kernel
  have c2 : tl11 (tS " ") = [32] := by decide +kernel
  have c3 : tl11 (tS ",") = [44] := by decide +kernel
  have c4 : tl11 (tS ": ") = [58, 32] := by decide +kernel
  have c5 : tl11 (tS ":") = [58] := by decide +kernel
  have c6 : tl11 (tS " : ") = [32, 58, 32] := by decide +kernel
  have c7 : tl11 (tS "; ") = [59, 32] := by decide +kernel
  have c8 : tl11 (tS ";") = [59] := by decide +kernel
  have c9 : tl11 (tS "; noted") = [59, 32, 110, 111, 116, 101, 100] := by decide +kernel
  have c10 : tl11 (tS " noted") = [32, 110, 111, 116, 101, 100] := by decide +kernel
  have c11 : tl11 (tS "noted") = [110, 111, 116, 101, 100] := by decide +kernel
  have c12 : tl11 (tS "Noted") = [78, 111, 116, 101, 100] := by decide +kernel
  have c13 : tl11 (tS "; noted ") = [59, 32, 110, 111, 116, 101, 100, 32] := by decide +kernel
  have c14 : tl11 (tS "tell") = [116, 101, 108, 108] := by decide +kernel
  have c15 : tl11 (tS "3") = [51] := by decide +kernel
  have c16 : tl11 (tS "0") = [48] := by decide +kernel
  have c17 : tl11 (tS "-") = [45] := by decide +kernel
  have c18 : tl11 (tS ", ") = [44, 32] := by decide +kernel
  have r1 := fun x => tl_rep (x := x) c4 c5 (by simp)
  have r2 := fun x => tl_rep (x := x) c4 c6 (by simp)
  have r3 := fun x => tl_rep (x := x) c7 c8 (by simp)
  have r4 := fun x => tl_rep (x := x) c9 c10 (by simp)
  have r5 := fun x => tl_rep (x := x) c11 c12 (by simp)
  have r6 := fun x => tl_rep (x := x) c3 c0 (by simp)
  have r7 : ∀ x, tl11 (Txt.replace x (h ++ tS ":") h) = repG (tl11 h ++ [58]) (tl11 h) 0 (tl11 x) := fun x => tl_rep (by rw [tl_app, c5]) rfl (by simp)
  have j1 : ∀ l, tl11 (Txt.join (tS ", ") l) = joinL [44, 32] (l.map tl11) := fun l => by
    show (Txt.join (tS ", ") l).cps.toList = _
    rw [join_list, show (tS ", ").cps.toList = [44, 32] from c18]
  have g0 : tl11 (ns.getD 0 (tS "")) = (ns.map tl11).getD 0 [] := by
    cases ns with
    | nil => exact c0
    | cons a r => rfl
  unfold seps11 sepsL
  simp only [List.map_append, List.map_cons, List.map_nil, tl_app, tl_jn, r1, r2, r3, r4, r5, r7, j1, g0, c0, c1, c2, c3, c4, c5, c6, c8, c13, c14, c15, c16, c17, List.map_take, List.map_drop, List.length_map]
  congr 1
  · congr 1
    split
    · simp only [List.map_cons, List.map_nil, r6, tl_jn]
    · rfl
  · split
    · simp only [List.map_cons, List.map_nil, tl_jn, List.map_reverse]
    · rfl
theorem tl_cut (x : Str) (lo hi : Option Int) : tl11 (cutS x lo hi) = (tl11 x |>.drop (HT.sIx x.length 0 lo)).take (HT.sIx x.length x.length hi - HT.sIx x.length 0 lo) := by
  show ((x.cps.toList.drop (HT.sIx x.length 0 lo)).take (HT.sIx x.length x.length hi - HT.sIx x.length 0 lo)).toArray.toList = _
  rw [List.toList_toArray]
theorem tl_cut1 (x : Str) : tl11 (cutS x none (some 1)) = (tl11 x).take 1 := by
  have hl : x.length = (tl11 x).length := by simp [tl11, Str.length]
  rw [tl_cut]
  have e0 : HT.sIx x.length 0 none = 0 := rfl
  rw [e0, List.drop_zero, Nat.sub_zero]
  rcases Nat.lt_or_ge x.length 1 with h | h
  · rw [List.eq_nil_of_length_eq_zero (by omega : (tl11 x).length = 0)]
    simp
  · congr 1
    simp [HT.sIx]
    omega
theorem tl_cut2 (x : Str) : tl11 (cutS x (some 2) none) = (tl11 x).drop 2 := by
  have hl : x.length = (tl11 x).length := by simp [tl11, Str.length]
  rw [tl_cut]
  have e0 : HT.sIx x.length x.length none = x.length := rfl
  rw [e0, List.take_of_length_le (by rw [List.length_drop]; omega)]
  rcases Nat.lt_or_ge x.length 2 with h | h
  · have e2 : HT.sIx x.length 0 (some 2) = x.length := by
      simp only [HT.sIx]
      rw [if_neg (by omega), show (2 : Int).toNat = 2 from rfl]
      omega
    rw [List.drop_eq_nil_of_le (by omega : (tl11 x).length ≤ 2), List.drop_eq_nil_of_le (by rw [e2]; omega)]
  · congr 1
    simp [HT.sIx]
    omega
theorem tl_inj {x y : Str} : tl11 x = tl11 y ↔ x = y := by
  constructor
  · intro h
    obtain ⟨⟨a⟩⟩ := x
    obtain ⟨⟨b⟩⟩ := y
    have h : a = b := h
    rw [h]
  · exact fun h => by rw [h]
theorem lst0_list (ws : List Str) : lst0 ws = ((ws.map tl11).map fun w => w.take 1).idxOf [48] := by
  unfold lst0 idxI List.idxOf
  rw [List.findIdx_map, List.map_map, List.findIdx_map]
  congr 1
  funext w
  have c16 : tl11 (tS "0") = [48] := by decide +kernel
  show decide (D.str (cutS w none (some 1)) = D.str (tS "0")) = ((tl11 w).take 1 == [48])
  rw [← tl_cut1, ← c16]
  by_cases c : cutS w none (some 1) = tS "0"
  · rw [c]
    simp
  · have c2 : tl11 (cutS w none (some 1)) ≠ tl11 (tS "0") := fun h => c (tl_inj.mp h)
    rw [decide_eq_false (fun h => c (D.str.inj h)), beq_eq_false_iff_ne.mpr c2]
theorem steps_list (h : Str) (ws ns : List Str) (a : Nat) : (steps11 h ws ns a).map tl11 = stepsL (tl11 h) (ws.map tl11) (ns.map tl11) a := by
  have c0 : tl11 (tS "") = [] := by decide +kernel
  have c1 : tl11 (tS "7 told") = [55, 32, 116, 111, 108, 100] := by decide +kernel
  have c2 : tl11 (tS " ") = [32] := by decide +kernel
  have c3 : tl11 (tS "  ") = [32, 32] := by decide +kernel
  have c4 : tl11 (tS "x") = [120] := by decide +kernel
  have c16 : tl11 (tS "0") = [48] := by decide +kernel
  have r1 := fun x => tl_rep (x := x) c2 c3 (by simp)
  have g0 : tl11 (ws.getD a (tS "")) = (ws.map tl11).getD a [] := by
    rw [List.getD_eq_getElem?_getD, List.getD_eq_getElem?_getD, List.getElem?_map]
    cases ws[a]? with
    | none => exact c0
    | some x => rfl
  unfold steps11 stepsL badS
  rw [lst0_list]
  simp only [List.map_append, List.map_cons, List.map_nil, tl_app, tl_jn, r1, g0, c0, c1, c2, c3, c4, c16, tl_cut1, tl_cut2, List.map_take, List.map_drop, List.length_map]
  congr 1
  split
  · simp only [List.map_cons, List.map_nil, tl_jn, List.map_append, List.map_take, List.map_drop]
  · rfl
def dirS (b : Bool) : Str := if b then tS "found" else tS "told"
def wrdS (p : Nat × Bool) : Str := ((toString (p.1 : Int) : Str) ++ tS " ") ++ dirS p.2
def numS (k : Nat) : Str := (toString (k : Int) : Str)
theorem perms_len {n : Nat} {ps : List Nat} (h : ps ∈ permsN n) : ps.length = n := by
  obtain ⟨sp, hs, rfl⟩ := List.mem_map.mp h
  exact (shufN_len n n (Nat.le_refl _) sp hs).1
theorem shufN_lt (n : Nat) : ∀ i, ∀ sp ∈ shufN n i, (∀ k ∈ sp.1, k < n) ∧ ∀ k ∈ sp.2, k < n
  | 0, sp, h => by
    rw [shufN, List.mem_singleton] at h
    subst h
    exact ⟨fun k hk => (by cases hk), fun k hk => List.mem_range.mp hk⟩
  | i + 1, sp, h => by
    rw [shufN] at h
    obtain ⟨s, hs, h⟩ := List.mem_flatMap.mp h
    obtain ⟨j, hj, rfl⟩ := List.mem_map.mp h
    obtain ⟨h1, h2⟩ := shufN_lt n i s hs
    have hj := List.mem_range.mp hj
    refine ⟨fun k hk => ?_, fun k hk => h2 k (List.mem_of_mem_eraseIdx hk)⟩
    rcases List.mem_append.mp hk with hk | hk
    · exact h1 k hk
    · rw [List.mem_singleton.mp hk, List.getD_eq_getElem?_getD, List.getElem?_eq_getElem hj]
      exact h2 _ (List.getElem_mem _)
theorem perms_lt {n : Nat} {ps : List Nat} (h : ps ∈ permsN n) : ∀ k ∈ ps, k < n := by
  obtain ⟨sp, hs, rfl⟩ := List.mem_map.mp h
  exact (shufN_lt n n sp hs).1
theorem subsN_lt : ∀ n, ∀ l ∈ subsN n, ∀ k ∈ l, k < n
  | 0, l, h, k, hk => by rw [subsN, List.mem_singleton] at h; subst h; cases hk
  | n + 1, l, h, k, hk => by
    rw [subsN] at h
    rcases List.mem_append.mp h with h | h
    · have := subsN_lt n l h k hk; omega
    · obtain ⟨m, hm, rfl⟩ := List.mem_map.mp h
      rcases List.mem_append.mp hk with hk | hk
      · have := subsN_lt n m hm k hk; omega
      · rw [List.mem_singleton.mp hk]; omega
theorem dirS_len (b : Bool) : (dirS b).length ≤ 5 := by cases b <;> decide +kernel
theorem modes_mem : ∀ st : List (Nat × Bool), st ∈ modesN (st.map (·.1))
  | [] => by simp [modesN]
  | (k, b) :: r => by
    rw [List.map_cons, modesN]
    refine List.mem_flatMap.mpr ⟨r, modes_mem r, ?_⟩
    cases b <;> simp
theorem st_of {ps : List Nat} {ys : List D} (h : All2 (fun (k : Nat) (y : D) => ∃ c : Bool, y = D.tup [.int k, .str (dirS c)]) ps ys) : ∃ st : List (Nat × Bool), st.map (·.1) = ps ∧ ys = st.map fun p => D.tup [.int p.1, .str (dirS p.2)] := by
  induction h with
  | nil => exact ⟨[], rfl, rfl⟩
  | cons h _ ih =>
    obtain ⟨c, rfl⟩ := h
    obtain ⟨st, rfl, rfl⟩ := ih
    exact ⟨(_, c) :: st, rfl, rfl⟩
theorem subsN_len : ∀ n, ∀ l ∈ subsN n, l.length ≤ n
  | 0, l, h => by rw [subsN, List.mem_singleton] at h; subst h; simp
  | n + 1, l, h => by
    rw [subsN] at h
    rcases List.mem_append.mp h with h | h
    · have := subsN_len n l h; omega
    · obtain ⟨k, hk, rfl⟩ := List.mem_map.mp h
      have := subsN_len n k hk
      simp; omega
def lists3 : Nat → List (List Int)
  | 0 => [[]]
  | n + 1 => (lists3 n).flatMap fun r => [0 :: r, 1 :: r, 2 :: r]
theorem mem_lists3 : ∀ l : List Int, (∀ k ∈ l, k ∈ [(0 : Int), 1, 2]) → l ∈ lists3 l.length
  | [], _ => by simp [lists3]
  | a :: r, h => by
    rw [List.length_cons, lists3]
    refine List.mem_flatMap.mpr ⟨r, mem_lists3 r fun k hk => h k (List.mem_cons_of_mem _ hk), ?_⟩
    have := h a List.mem_cons_self
    simpa using this
theorem perm_check : ∀ n ∈ [0, 1, 2, 3], ((lists3 n).all fun l => !decide (l.Perm (rgI n)) || decide (l.map Int.toNat ∈ permsN n)) = true := by decide +kernel
theorem nt_check : ∀ n ∈ [0, 1, 2, 3], ∀ m ∈ [0, 1, 2, 3], ((lists3 m).all fun l => !(decide (l.Pairwise (· ≤ ·)) && (List.range m).all (noteAt n l)) || decide (l.map Int.toNat ∈ subsN n)) = true := by decide +kernel
def pN (p : Int × Str) : Nat × Bool := (p.1.toNat, decide (p.2 = Str.ofString "found"))
def pS (p : Nat × Bool) : Int × Str := (p.1, dirS p.2)
theorem pN_ok : ∀ p ∈ allS, pS (pN p) = p ∧ tl11 (stepS p) = wL (pN p) ∧ p.1 ∈ [(0 : Int), 1, 2] := by decide +kernel
theorem num_tl : ∀ k ∈ [(0 : Int), 1, 2], tl11 (toString k : Str) = nL k.toNat := by decide +kernel
theorem tl_dir : ∀ b, tl11 (dirS b) = dirL b := by decide +kernel
theorem joinL_nil {x : List Nat} {r : List (List Nat)} (h : x ≠ []) : joinL [44, 32] (x :: r) ≠ [] := by
  cases r with
  | nil => exact h
  | cons y r => rw [joinL]; simp
theorem joinL_head {c : Nat} {x : List Nat} {r : List (List Nat)} : ∃ t, joinL [44, 32] ((c :: x) :: r) = c :: t := by
  cases r with
  | nil => exact ⟨_, rfl⟩
  | cons y r => exact ⟨_, rfl⟩
theorem tl_stepsS {st : List (Int × Str)} (h : ∀ p ∈ st, p ∈ allS) : tl11 (stepsS st) = joinL [44, 32] ((st.map pN).map wL) := by
  have e3 : (Str.ofString ", ").cps.toList = [44, 32] := by decide +kernel
  show (stepsS st).cps.toList = _
  unfold stepsS
  rw [join_list, e3, List.map_map, List.map_map]
  congr 1
  exact List.map_congr_left fun p hp => (pN_ok p (h p hp)).2.1
theorem stepsS_nil {st : List (Int × Str)} (h : ∀ p ∈ st, p ∈ allS) : stepsS st = Str.ofString "" ↔ st = [] := by
  have c0 : tl11 (tS "") = [] := by decide +kernel
  constructor
  · intro e
    have e2 := tl_stepsS h
    rw [e, show tl11 (Str.ofString "") = [] from c0] at e2
    cases st with
    | nil => rfl
    | cons p r => exact (joinL_nil (by simp [wL]) e2.symm).elim
  · rintro rfl
    exact tl_inj.mp (by rw [tl_stepsS (by simp), show tl11 (Str.ofString "") = [] from c0]; rfl)
theorem tl_wtext {y : Wy} {b : Bool} (hw : y.wh = dirS b) (h1 : ∀ p ∈ y.st, p ∈ allS) (h2 : ∀ k ∈ y.nt, k ∈ [(0 : Int), 1, 2]) : tl11 (wtext y) = txtL b (y.st.map pN) (y.nt.map Int.toNat) := by
  have c1 : tl11 (Str.ofString ": ") = [58, 32] := by decide +kernel
  have c2 : tl11 (Str.ofString "; noted ") = [59, 32, 110, 111, 116, 101, 100, 32] := by decide +kernel
  have c3 : tl11 (Str.ofString "-") = [45] := by decide +kernel
  have e3 : (Str.ofString ", ").cps.toList = [44, 32] := by decide +kernel
  have hb : tl11 (if stepsS y.st = Str.ofString "" then Str.ofString "-" else stepsS y.st) = bodyL ((y.st.map pN).map wL) := by
    unfold bodyL
    by_cases c : y.st = []
    · rw [if_pos ((stepsS_nil h1).mpr c), c3, c]
      rfl
    · rw [if_neg fun z => c ((stepsS_nil h1).mp z), tl_stepsS h1, if_neg (by simpa using c)]
  have hn : tl11 (Txt.join (Str.ofString ", ") (y.nt.map fun k => (toString k : Str))) = joinL [44, 32] ((y.nt.map Int.toNat).map nL) := by
    show (Txt.join (Str.ofString ", ") (y.nt.map fun k => (toString k : Str))).cps.toList = _
    rw [join_list, e3, List.map_map, List.map_map]
    congr 1
    exact List.map_congr_left fun k hk => num_tl k (h2 k hk)
  unfold wtext txtL
  by_cases c : 0 < y.nt.length
  · have q : ¬ (y.nt.map Int.toNat).isEmpty = true := by
      simpa using List.ne_nil_of_length_pos c
    rw [if_pos c, if_neg q, tl_app, tl_app, tl_app, tl_app, hb, hn, hw, tl_dir, c1, c2]
  · have q : (y.nt.map Int.toNat).isEmpty = true := by
      simpa using List.eq_nil_of_length_eq_zero (by omega)
    rw [if_neg c, if_pos q, tl_app, tl_app, hb, hw, tl_dir, c1]
theorem mem4 {n : Nat} (h : n ≤ 3) : n ∈ [0, 1, 2, 3] := by
  have : n = 0 ∨ n = 1 ∨ n = 2 ∨ n = 3 := by omega
  rcases this with rfl | rfl | rfl | rfl <;> simp
theorem wy_in {y : Wy} (h : WyP y) : (∃ b, y.wh = dirS b) ∧ y.st.length ≤ 3 ∧ y.st.map pN ∈ stN11 y.st.length ∧ y.nt.map Int.toNat ∈ subsN y.st.length := by
  have sm := sm_of h
  have hi := h.is
  unfold isWayB at hi
  simp only [Bool.and_eq_true, decide_eq_true_eq, List.all_eq_true] at hi
  obtain ⟨⟨⟨⟨h1, h2⟩, h3⟩, h4⟩, h5⟩ := hi
  have hw : y.wh = Str.ofString "told" ∨ y.wh = Str.ofString "found" := of_decide_eq_true h1
  have hp : (y.st.map (·.1)).Perm (rgI y.st.length) := by
    rw [← h4]
    exact (srt_perm _).symm
  refine ⟨?_, h2, ?_, ?_⟩
  · rcases hw with e | e
    · exact ⟨false, e⟩
    · exact ⟨true, e⟩
  · have c := List.all_eq_true.mp (perm_check _ (mem4 h2)) (y.st.map (·.1)) (by
      have := mem_lists3 (y.st.map (·.1)) fun k hk => by
        obtain ⟨p, hp, rfl⟩ := List.mem_map.mp hk
        exact (pN_ok p (h.st p hp)).2.2
      rwa [List.length_map] at this)
    rw [decide_eq_true hp, Bool.not_true, Bool.false_or, decide_eq_true_eq] at c
    refine List.mem_flatMap.mpr ⟨_, c, ?_⟩
    have := modes_mem (y.st.map pN)
    rwa [List.map_map] at this ⊢
  · have c := List.all_eq_true.mp (nt_check _ (mem4 h2) _ (mem4 sm.nl)) y.nt (mem_lists3 _ h.nt)
    have hs : y.nt.Pairwise (· ≤ ·) := by
      rw [h.so]
      exact srt_sorted _
    rw [decide_eq_true hs, List.all_eq_true.mpr h5, Bool.true_and, Bool.not_true, Bool.false_or, decide_eq_true_eq] at c
    exact c
theorem wy_txt {y : Wy} (h : WyP y) : isTxt (tl11 (wtext y)) = true := by
  obtain ⟨⟨b, hb⟩, h1, h2, h3⟩ := wy_in h
  rw [tl_wtext hb h.st h.nt]
  have c := List.all_eq_true.mp (List.all_eq_true.mp (List.all_eq_true.mp (text_rec _ (mem4 h1)) _ h2) _ h3) b (by cases b <;> simp)
  exact c
theorem none_of {x : Str} (h : noneL (tl11 x) = true) : x.length ≤ 80 ∧ ∀ y, WyP y → wtext y ≠ x := by
  unfold noneL at h
  rw [Bool.and_eq_true] at h
  refine ⟨?_, fun y hy e => ?_⟩
  · have := Nat.le_of_ble_eq_true h.2
    simpa [tl11, Str.length] using this
  · have := wy_txt hy
    rw [e] at this
    rw [this] at h
    cases h.1
theorem wrd_tl : ∀ p ∈ [(0, false), (0, true), (1, false), (1, true), (2, false), (2, true)], tl11 (wrdS p) = wL p ∧ stepS (pS p) = wrdS p ∧ pS p ∈ allS ∧ pN (pS p) = p ∧ ¬ 44 ∈ (wrdS p).cps.toList ∧ ¬ 59 ∈ (wrdS p).cps.toList := by decide +kernel
theorem six {p : Nat × Bool} (h : p.1 < 3) : p ∈ [(0, false), (0, true), (1, false), (1, true), (2, false), (2, true)] := by
  obtain ⟨k, b⟩ := p
  have h : k < 3 := h
  have : k = 0 ∨ k = 1 ∨ k = 2 := by omega
  rcases this with rfl | rfl | rfl <;> cases b <;> simp
theorem num_tl2 : ∀ k ∈ [0, 1, 2], tl11 (numS k) = nL k ∧ ¬ 44 ∈ (numS k).cps.toList ∧ (k : Int) ∈ [(0 : Int), 1, 2] := by decide +kernel
theorem three {k : Nat} (h : k < 3) : k ∈ [0, 1, 2] := by
  have : k = 0 ∨ k = 1 ∨ k = 2 := by omega
  rcases this with rfl | rfl | rfl <;> simp
theorem st_in {n : Nat} {ps : List Nat} {st : List (Nat × Bool)} (h1 : ps ∈ permsN n) (h2 : st ∈ modesN ps) : st ∈ stN11 n := List.mem_flatMap.mpr ⟨ps, h1, h2⟩
theorem words_tl {n : Nat} {st : List (Nat × Bool)} (hn : n ≤ 3) (h : ∀ p ∈ st, p.1 < n) : (st.map wrdS).map tl11 = st.map wL := by
  rw [List.map_map]
  exact List.map_congr_left fun p hp => (wrd_tl p (six (by have := h p hp; omega))).1
theorem nums_tl {n : Nat} {nt : List Nat} (hn : n ≤ 3) (h : nt ∈ subsN n) : (nt.map numS).map tl11 = nt.map nL := by
  rw [List.map_map]
  exact List.map_congr_left fun k hk => (num_tl2 k (three (by have := subsN_lt n nt h k hk; omega))).1
theorem three1 {n : Nat} (h1 : 1 ≤ n) (h3 : n ≤ 3) : n = 1 ∨ n = 2 ∨ n = 3 := by omega
theorem b_mem (b : Bool) : b ∈ [false, true] := by cases b <;> simp
theorem seps_ok {n : Nat} {b : Bool} {st : List (Nat × Bool)} {nt : List Nat} (h1 : 1 ≤ n) (h3 : n ≤ 3) (hs : st ∈ stN11 n) (hl : ∀ p ∈ st, p.1 < n) (ht : nt ∈ subsN n) (hne : nt ≠ []) : ∀ x ∈ seps11 (dirS b) (st.map wrdS) (nt.map numS), noneL (tl11 x) = true := fun x hx => by
  have hm : tl11 x ∈ (seps11 (dirS b) (st.map wrdS) (nt.map numS)).map tl11 := List.mem_map.mpr ⟨x, hx, rfl⟩
  rw [seps_list, words_tl h3 hl, nums_tl h3 ht, tl_dir] at hm
  have he : nt.isEmpty = false := by simpa using hne
  rcases three1 h1 h3 with rfl | rfl | rfl
  · have c := List.all_eq_true.mp (List.all_eq_true.mp seps_1 _ hs) _ ht
    rw [he, Bool.false_or] at c
    exact List.all_eq_true.mp (List.all_eq_true.mp c b (b_mem b)) _ hm
  · have c := List.all_eq_true.mp (List.all_eq_true.mp seps_2 _ hs) _ ht
    rw [he, Bool.false_or] at c
    exact List.all_eq_true.mp (List.all_eq_true.mp c b (b_mem b)) _ hm
  · have c := List.all_eq_true.mp (List.all_eq_true.mp seps_3 _ hs) _ ht
    rw [he, Bool.false_or] at c
    exact List.all_eq_true.mp (List.all_eq_true.mp c b (b_mem b)) _ hm
theorem steps_ok11 {n a : Nat} {b : Bool} {st : List (Nat × Bool)} {nt : List Nat} (h1 : 1 ≤ n) (h3 : n ≤ 3) (hs : st ∈ stN11 n) (hl : ∀ p ∈ st, p.1 < n) (ht : nt ∈ subsN n) (hne : nt ≠ []) (ha : a < n) : ∀ x ∈ steps11 (dirS b) (st.map wrdS) (nt.map numS) a, noneL (tl11 x) = true := fun x hx => by
  have hm : tl11 x ∈ (steps11 (dirS b) (st.map wrdS) (nt.map numS) a).map tl11 := List.mem_map.mpr ⟨x, hx, rfl⟩
  rw [steps_list, words_tl h3 hl, nums_tl h3 ht, tl_dir] at hm
  have he : nt.isEmpty = false := by simpa using hne
  rcases three1 h1 h3 with rfl | rfl | rfl
  · have c := List.all_eq_true.mp (List.all_eq_true.mp steps_1 _ hs) _ ht
    rw [he, Bool.false_or] at c
    exact List.all_eq_true.mp (List.all_eq_true.mp (List.all_eq_true.mp c b (b_mem b)) a (List.mem_range.mpr ha)) _ hm
  · have c := List.all_eq_true.mp (List.all_eq_true.mp steps_2 _ hs) _ ht
    rw [he, Bool.false_or] at c
    exact List.all_eq_true.mp (List.all_eq_true.mp (List.all_eq_true.mp c b (b_mem b)) a (List.mem_range.mpr ha)) _ hm
  · have c := List.all_eq_true.mp (List.all_eq_true.mp steps_3 _ hs) _ ht
    rw [he, Bool.false_or] at c
    exact List.all_eq_true.mp (List.all_eq_true.mp (List.all_eq_true.mp c b (b_mem b)) a (List.mem_range.mpr ha)) _ hm
def wyOf (b : Bool) (st : List (Nat × Bool)) (nt : List Nat) : Wy := ⟨dirS b, st.map pS, nt.map fun (k : Nat) => (k : Int)⟩
theorem st_check : ∀ n ∈ [1, 2, 3], ((stN11 n).all fun st => decide (st.length = n) && st.all (fun p => isDir (dirS p.2)) && decide ((st.map fun p => (p.1 : Int)).Perm (rgI n))) = true := by decide +kernel
theorem nt_check2 : ∀ n ∈ [1, 2, 3], ((subsN n).all fun nt => decide (nt.length ≤ 3) && (List.range nt.length).all (noteAt n (nt.map fun (k : Nat) => (k : Int))) && decide ((nt.map fun (k : Nat) => (k : Int)).Pairwise (· ≤ ·))) = true := by decide +kernel
theorem mem3 {n : Nat} (h1 : 1 ≤ n) (h : n ≤ 3) : n ∈ [1, 2, 3] := by
  have : n = 1 ∨ n = 2 ∨ n = 3 := by omega
  rcases this with rfl | rfl | rfl <;> simp
theorem rgI_sorted (n : Nat) : (rgI n).Pairwise (· ≤ ·) := by
  unfold rgI
  rw [List.pairwise_map]
  exact List.pairwise_lt_range.imp fun h => by omega
theorem good_WyP {n : Nat} {b : Bool} {st : List (Nat × Bool)} {nt : List Nat} (h1 : 1 ≤ n) (h3 : n ≤ 3) (hs : st ∈ stN11 n) (hl : ∀ p ∈ st, p.1 < n) (ht : nt ∈ subsN n) : WyP (wyOf b st nt) := by
  have c1 := List.all_eq_true.mp (st_check n (mem3 h1 h3)) _ hs
  have c2 := List.all_eq_true.mp (nt_check2 n (mem3 h1 h3)) _ ht
  simp only [Bool.and_eq_true, decide_eq_true_eq] at c1 c2
  obtain ⟨⟨a1, a2⟩, a3⟩ := c1
  obtain ⟨⟨b1, b2⟩, b3⟩ := c2
  refine ⟨?_, fun p hp => ?_, fun k hk => ?_, ?_⟩
  · unfold isWayB wyOf
    have t1 : isDir (dirS b) = true := by cases b <;> decide +kernel
    have t2 : (st.map pS).all (fun p => isDir p.2) = true := by rw [List.all_map]; exact a2
    have t3 : srt ((st.map pS).map (·.1)) = rgI (st.map pS).length := by
      rw [List.length_map, a1, List.map_map]
      exact sorted_unique ((srt_perm _).trans a3) (srt_sorted _) (rgI_sorted n)
    have t4 : (st.map pS).length ≤ 3 := by rw [List.length_map]; omega
    have t5 : (List.range (nt.map fun (k : Nat) => (k : Int)).length).all (noteAt (st.map pS).length (nt.map fun (k : Nat) => (k : Int))) = true := by
      rw [List.length_map, List.length_map, a1]; exact b2
    show (isDir (dirS b) && decide ((st.map pS).length ≤ 3) && (st.map pS).all (fun p => isDir p.2) && decide (srt ((st.map pS).map (·.1)) = rgI (st.map pS).length) && (List.range (nt.map fun (k : Nat) => (k : Int)).length).all (noteAt (st.map pS).length (nt.map fun (k : Nat) => (k : Int)))) = true
    rw [t1, t2, t5, decide_eq_true t3, decide_eq_true t4]; rfl
  · obtain ⟨q, hq, rfl⟩ := List.mem_map.mp hp
    exact (wrd_tl q (six (by have := hl q hq; omega))).2.2.1
  · obtain ⟨q, hq, rfl⟩ := List.mem_map.mp hk
    exact (num_tl2 q (three (by have := subsN_lt n nt ht q hq; omega))).2.2
  · exact sorted_unique (srt_perm _).symm b3 (srt_sorted _)
theorem joinL_mem {c : Nat} {sep : List Nat} : ∀ {ts : List (List Nat)}, c ∈ joinL sep ts → c ∈ sep ∨ ∃ t ∈ ts, c ∈ t
  | [], h => by simp [joinL] at h
  | [x], h => .inr ⟨x, by simp, h⟩
  | x :: y :: r, h => by
    rw [joinL, List.mem_append, List.mem_append] at h
    rcases h with h | h | h
    · exact .inr ⟨x, by simp, h⟩
    · exact .inl h
    · rcases joinL_mem h with h | ⟨t, ht, h⟩
      · exact .inl h
      · exact .inr ⟨t, List.mem_cons_of_mem _ ht, h⟩
theorem mem_app11 (a b : Str) (c : Nat) : c ∈ (a ++ b).cps.toList ↔ c ∈ a.cps.toList ∨ c ∈ b.cps.toList := by
  rw [Str.cps_append]; simp
theorem good_WyT {n : Nat} {b : Bool} {st : List (Nat × Bool)} {nt : List Nat} (h1 : 1 ≤ n) (h3 : n ≤ 3) (hs : st ∈ stN11 n) (hl : ∀ p ∈ st, p.1 < n) (ht : nt ∈ subsN n) (hne : nt ≠ []) : WyT (jnS (dirS b) (st.map wrdS) (nt.map numS)) (wyOf b st nt) ∧ (jnS (dirS b) (st.map wrdS) (nt.map numS)).length ≤ 80 := by
  have wp := good_WyP (b := b) h1 h3 hs hl ht
  have c1 := List.all_eq_true.mp (st_check n (mem3 h1 h3)) _ hs
  simp only [Bool.and_eq_true, decide_eq_true_eq] at c1
  have hstl := c1.1.1
  have hst : st ≠ [] := by
    rintro rfl
    simp at hstl
    omega
  have hwm : ∀ p ∈ st, p ∈ [(0, false), (0, true), (1, false), (1, true), (2, false), (2, true)] := fun p hp => six (by have := hl p hp; omega)
  have hnm : ∀ k ∈ nt, k ∈ [0, 1, 2] := fun k hk => three (by have := subsN_lt n nt ht k hk; omega)
  have es : (wyOf b st nt).st.map stepS = st.map wrdS := by
    show (st.map pS).map stepS = _
    rw [List.map_map]
    exact List.map_congr_left fun p hp => (wrd_tl p (hwm p hp)).2.1
  have en : ((wyOf b st nt).nt.map fun k => (toString k : Str)) = nt.map numS := by
    show ((nt.map fun (k : Nat) => (k : Int)).map fun k => (toString k : Str)) = _
    rw [List.map_map]
    rfl
  have hrow : Txt.join (Str.ofString ", ") (st.map wrdS) = stepsS (wyOf b st nt).st := by
    unfold stepsS
    rw [es]
  have hnil : stepsS (wyOf b st nt).st ≠ Str.ofString "" := fun z => by
    have := (stepsS_nil wp.st).mp z
    exact hst (by simpa [wyOf] using this)
  have htx : wtext (wyOf b st nt) = jnS (dirS b) (st.map wrdS) (nt.map numS) := by
    unfold wtext jnS
    have q : 0 < (wyOf b st nt).nt.length := by
      show 0 < (nt.map fun (k : Nat) => (k : Int)).length
      rw [List.length_map]
      exact List.length_pos_iff.mpr hne
    rw [if_pos q, if_neg hnil, en, hrow, ← Str.append_assoc]
    rfl
  have e3 : (Str.ofString ", ").cps.toList = [44, 32] := by decide +kernel
  have rowl : (Txt.join (Str.ofString ", ") (st.map wrdS)).cps.toList = joinL [44, 32] ((st.map wrdS).map fun t => t.cps.toList) := by rw [join_list, e3]
  have r59 : ¬ 59 ∈ (Txt.join (Str.ofString ", ") (st.map wrdS)).cps.toList := fun z => by
    rw [rowl] at z
    rcases joinL_mem z with z | ⟨t, hm, z⟩
    · simp at z
    · rw [List.map_map] at hm
      obtain ⟨p, hp, rfl⟩ := List.mem_map.mp hm
      exact (wrd_tl p (hwm p hp)).2.2.2.2.2 z
  have w58 : ¬ 58 ∈ (dirS b).cps.toList ∧ ¬ 59 ∈ (dirS b).cps.toList := by cases b <;> decide +kernel
  have c59 : ¬ 59 ∈ (Str.ofString ": ").cps.toList := by decide +kernel
  have p1 : Txt.partition (jnS (dirS b) (st.map wrdS) (nt.map numS)) (Str.ofString "; noted ") = ((dirS b ++ Str.ofString ": ") ++ Txt.join (Str.ofString ", ") (st.map wrdS), Str.ofString "; noted ", Txt.join (Str.ofString ", ") (nt.map numS)) :=
    TL.partition_app (y := "; noted ") (s := 59) (S := [32, 110, 111, 116, 101, 100, 32]) (by decide +kernel) (by
      rw [mem_app11, mem_app11]
      rintro ((z | z) | z)
      · exact w58.2 z
      · exact c59 z
      · exact r59 z)
  have p2 : Txt.partition ((dirS b ++ Str.ofString ": ") ++ Txt.join (Str.ofString ", ") (st.map wrdS)) (Str.ofString ": ") = (dirS b, Str.ofString ": ", Txt.join (Str.ofString ", ") (st.map wrdS)) :=
    TL.partition_app (y := ": ") (s := 58) (S := [32]) (by decide +kernel) w58.1
  have hdash : Txt.join (Str.ofString ", ") (st.map wrdS) ≠ Str.ofString "-" := fun z => by
    have e := rowl
    rw [z, show (Str.ofString "-").cps.toList = [45] by decide +kernel] at e
    cases st with
    | nil => exact hst rfl
    | cons p r =>
      have ew : (wrdS p).cps.toList = wL p := (wrd_tl p (hwm p List.mem_cons_self)).1
      rw [List.map_cons, List.map_cons, ew, wL] at e
      obtain ⟨t, et⟩ := joinL_head (c := 48 + p.1) (x := 32 :: dirL p.2) (r := (r.map wrdS).map fun t => t.cps.toList)
      rw [et] at e
      injection e with e1 _
      omega
  have s1 : Txt.split (Txt.join (Str.ofString ", ") (st.map wrdS)) (Str.ofString ", ") = st.map wrdS :=
    TL.split_join (y := ", ") (s := 44) (S := [32]) (by decide +kernel) (by decide +kernel) (by simpa using hst) fun p hp => by
      obtain ⟨q, hq, rfl⟩ := List.mem_map.mp hp
      exact (wrd_tl q (hwm q hq)).2.2.2.2.1
  have s2 : Txt.split (Txt.join (Str.ofString ", ") (nt.map numS)) (Str.ofString ", ") = nt.map numS :=
    TL.split_join (y := ", ") (s := 44) (S := [32]) (by decide +kernel) (by decide +kernel) (by simpa using hne) fun p hp => by
      obtain ⟨q, hq, rfl⟩ := List.mem_map.mp hp
      exact (num_tl2 q (hnm q hq)).2.1
  have eh : headOf (jnS (dirS b) (st.map wrdS) (nt.map numS)) = (dirS b ++ Str.ofString ": ") ++ Txt.join (Str.ofString ", ") (st.map wrdS) := by
    unfold headOf
    rw [p1]
  have er : rowOf (jnS (dirS b) (st.map wrdS) (nt.map numS)) = Txt.join (Str.ofString ", ") (st.map wrdS) := by
    unfold rowOf
    rw [eh, p2]
  refine ⟨⟨wp, sm_of wp, ?_, ?_, ?_, htx⟩, ?_⟩
  · unfold whOf
    rw [eh, p2]
    rfl
  · unfold rowsOf
    rw [er, if_neg hdash, s1, es]
  · unfold tailsOf
    rw [p1, if_neg (show ¬ Str.ofString "; noted " = Str.ofString "" by decide +kernel), s2, en]
  · have d1 : (Str.ofString ": ").length = 2 := by decide +kernel
    have d2 : (Str.ofString "; noted ").length = 8 := by decide +kernel
    have d3 : (Str.ofString ", ").length = 2 := by decide +kernel
    have d4 := dirS_len b
    have l1 : ∀ q ∈ [(0, false), (0, true), (1, false), (1, true), (2, false), (2, true)], (wrdS q).length ≤ 8 := by decide +kernel
    have l2 : ∀ q ∈ [0, 1, 2], (numS q).length ≤ 2 := by decide +kernel
    have nl := subsN_len n nt ht
    have s1 := sum_le (f := fun x : Str => x.length) (n := 8) (l := st.map wrdS) fun x hx => by
      obtain ⟨q, hq, rfl⟩ := List.mem_map.mp hx
      exact l1 q (hwm q hq)
    have s2 := sum_le (f := fun x : Str => x.length) (n := 2) (l := nt.map numS) fun x hx => by
      obtain ⟨q, hq, rfl⟩ := List.mem_map.mp hx
      exact l2 q (hnm q hq)
    have j1 := joinS_len (Str.ofString ", ") (st.map wrdS)
    have j2 := joinS_len (Str.ofString ", ") (nt.map numS)
    rw [List.length_map] at s1 s2 j1 j2
    rw [d3] at j1 j2
    unfold jnS
    rw [len_app, len_app, len_app, len_app]
    omega
abbrev s_law : Stmt := top 26
abbrev N_law : List Str := ["_law_script", "_law_tape_here", "_law_head", "_law_many", "_law_steps", "_law_first", "_law_marked", "_law_words", "_law_numbers", "_law_at", "_law_bad", "_law_one", "_law_text", "_law_k", "_law_step"]
abbrev P_law : List Str := ["_law_script"]
theorem sc_law : FnScope N_law P_law (defScope s_law) := ⟨rfl, rfl, rfl, by decide +kernel, rfl, by decide +kernel, by decide +kernel⟩
theorem compD_flt {g : TDG} {tt : TDT} {te : TDE} {vs : List Nat} {Q : List D → PSt → Prop} {S : PSt} (I : Nat → List D → Prop) (hI : ∀ i acc, I i acc → acc.length ≤ 999999) : ∀ (xs : List D) (i : Nat) (acc : List D), I i acc →
    (∀ j x acc, xs[j]? = some x → I (i + j) acc → ∀ (N : D → PSt → Prop) (M : PSt → Prop), (∀ y, I (i + j + 1) (acc ++ [y]) → N y S) → (I (i + j + 1) acc → M S) → turnD g tt te vs x S N M) → (∀ acc, I (i + xs.length) acc → Q acc S) → compD g tt te vs Q xs acc S
  | [], i, acc, h0, _, q => q _ h0
  | x :: xs, i, acc, h0, hs, q => by
    refine ⟨fun a S' => S' = S ∧ I (i + 1) a, fun a S' h => ?_, ?_⟩
    · obtain ⟨e, h⟩ := h
      subst e
      exact compD_flt I hI xs (i + 1) a h (fun j y acc hy hi N M h1 h2 => hs (j + 1) y acc (by simpa using hy) (by rw [show i + (j + 1) = i + 1 + j by omega]; exact hi) N M (fun y h => h1 y (by rw [show i + 1 + j + 1 = i + (j + 1) + 1 by omega]; exact h)) fun h => h2 (by rw [show i + 1 + j + 1 = i + (j + 1) + 1 by omega]; exact h)) fun acc h => q acc (by rw [List.length_cons, show i + (xs.length + 1) = i + 1 + xs.length by omega]; exact h)
    · exact hs 0 x acc rfl h0 (fun y S' => acc.length ≤ 999999 ∧ (S' = S ∧ I (i + 1) (acc ++ [y]))) (fun S' => S' = S ∧ I (i + 1) acc) (fun y h => ⟨hI _ _ h0, rfl, h⟩) fun h => ⟨rfl, h⟩
theorem comp_flt {g : TDG} {tt : TDT} {te : TDE} {vs : List Nat} {Q : List D → PSt → Prop} {xs : List D} {S : PSt} (I : Nat → List D → Prop) (hI : ∀ i acc, I i acc → acc.length ≤ 999999) (h0 : I 0 [])
    (hs : ∀ j x acc, xs[j]? = some x → I j acc → ∀ (N : D → PSt → Prop) (M : PSt → Prop), (∀ y, I (j + 1) (acc ++ [y]) → N y S) → (I (j + 1) acc → M S) → turnD g tt te vs x S N M) (q : ∀ acc, I xs.length acc → Q acc S) : @compB xs [] S ⟨g⟩ ⟨tt⟩ ⟨te⟩ ⟨vs⟩ ⟨Q⟩ :=
  compD_flt I hI xs 0 [] h0 (fun j x acc hx hi N M h1 h2 => hs j x acc hx (by rw [Nat.zero_add] at hi; exact hi) N M (fun y h => h1 y (by rw [Nat.zero_add]; exact h)) fun h => h2 (by rw [Nat.zero_add]; exact h)) fun acc h => q acc (by rw [Nat.zero_add] at h; exact h)
theorem wrd_ok : ∀ p ∈ [(0, false), (0, true), (1, false), (1, true), (2, false), (2, true)], PyData.strOk (cutS (wrdS p) none (some 1)) = true ∧ ((badS (wrdS p)).all fun x => Nat.ble x.length 20) = true := by decide +kernel
theorem wrd_0 : ∀ c ∈ [false, true], cutS (wrdS (0, c)) none (some 1) = tS "0" := by decide +kernel
theorem perms_0 : ∀ n ∈ [1, 2, 3], (permsN n).all (fun ps => ps.contains 0) = true := by decide +kernel
theorem stps_ok11 : ∀ {st : List (Int × Str)}, (∀ p ∈ st, PyData.strOk p.2 = true) → okL false (st.map stpD) = true ∧ dpL (st.map stpD) ≤ 1
  | [], _ => ⟨rfl, by decide⟩
  | p :: st, h => by
    obtain ⟨a, b⟩ := stps_ok11 (st := st) fun q hq => h q (List.mem_cons_of_mem _ hq)
    have e : okD false (stpD p) = true := by
      show okL false [.int p.1, .str p.2] = true
      simp [okL, okD, h p List.mem_cons_self]
    refine ⟨by rw [List.map_cons, okL, e, a]; rfl, ?_⟩
    rw [List.map_cons, dpL]
    have : dpD (stpD p) = 1 := rfl
    omega
theorem way_eq11 {y : Wy} (h : SmW y) : eqOk (wayD y) (wayD y) := by
  obtain ⟨a, b⟩ := stps_ok11 h.os
  have e : okD false (wayD y) = true := by
    show okL false [.str y.wh, .tup (y.st.map stpD), .tup (y.nt.map D.int)] = true
    rw [okL, okL, okL, okL, okD, okD, okD, h.ow, a, ints_ok]
    rfl
  have d : dpD (wayD y) ≤ 60 := by
    show dpL [.str y.wh, .tup (y.st.map stpD), .tup (y.nt.map D.int)] + 1 ≤ 60
    have e0 : dpD (.str y.wh) = 0 := rfl
    have e1 : dpD (.tup (y.st.map stpD)) = dpL (y.st.map stpD) + 1 := by rw [dpD]
    have e2 : dpD (.tup (y.nt.map D.int)) = dpL (y.nt.map D.int) + 1 := by rw [dpD]
    rw [dpL, dpL, dpL, dpL, e0, e1, e2, ints_dp]
    omega
  exact .inr ⟨false, e, e, by omega, by omega⟩
theorem ok_law {f : Addr} {fd : FuncData} (FL : Fun K "law" "law" s_law f fd) (T : Txt K mg) (G__law_tape : Fx P w K mg base (L2.CX P w) "_law_tape" 2 P__law_tape (lift K F_tape)) (G__law_take : Fx P w K mg base (L2.CX P w) "_law_take" 1 P__law_take (lift K F_take)) (G__law_shuffled : Fx P w K mg base (L2.CX P w) "_law_shuffled" 2 P__law_shuffled (liftN K F_shuf))
    (G__law_separators : FxW P w K mg base (L2.CX P w) "_law_separators" 2 P__law_separators (liftN K F_sep11)) (G__law_steps_changed : Fx P w K mg base (L2.CX P w) "_law_steps_changed" 2 P__law_steps_changed (liftN K F_stc11)) (G__law_refused : Fx P w K mg base (L2.CX P w) "_law_refused" 5 P__law_refused (lift K F_ref11)) (G__law_joined : Fx P w K mg base (L2.CX P w) "_law_joined" 1 P__law_joined (lift K F_join11))
    (G_parse_way : Fx P w K mg base (L2.CX P w) "parse_way" 4 P_parse_way (lift K (F_pway (clsA mg "BadWay")))) (G_way_text : Fx P w K mg base (L2.CX P w) "way_text" 1 P_way_text (lift K F_wtext)) : FnOk P w K mg base CX0 7 f fd P_law (spLaw K) := by
  refine okLaw FL sc_law (fun cdv A outer s H E e hr => ?_)
  refine ⟨_, _, (k_first (i := 1) takes0 G__law_tape (hr.mono (by first | decide | omega)) (by rfl) (k_cons (pv 0) (k_int (pa_cons pe_int pa_nil))) sc_law.nd rfl (Or.inr rfl)
      (w_pick (i := 2) sc_law.nd rfl rfl (fcallX takes0 G__law_take (hr.mono (by first | decide | omega)) (by rfl) (pa_cons (pv 1) (pa_cons pe_int pa_nil))) (fun _ _ => rfl)
      (w_cons (n_set (i := 3) sc_law.nd rfl (Or.inl rfl) (n_op (opn_addU K) n_int (n_fcallX takes0 G__law_take (hr.mono (by first | decide | omega)) (by rfl) (n_cons (n_pv 1) (n_cons n_int n_nil)))))
      (w_cons (n_setLc (i := 4) (own := [("_law_k", 13)]) (g := (gName 13)) (tt := tYes) rfl rfl rfl takes0 sc_law.nd rfl rfl (sw_true rfl rfl rfl (by decide +kernel)) (n_any K (n_fcallX takes0 G__law_shuffled (hr.mono (by first | decide | omega)) (by rfl) (n_cons (n_pv 1) (n_cons (n_pv 3) n_nil)))) (blkOk_by (own := [("_law_k", 13)]) (N := N_law) (sc := defScope s_law) (by decide +kernel)) (fun _ _ _ _ _ _ => (pg_name (i := 13) sc_law.nd rfl (by first | exact Or.inl rfl | exact Or.inr rfl))) (fun _ _ _ _ _ _ tkc => pts_nil) (fun _ _ _ _ _ _ tkc => (pe_tup (pa_cons (pv 13) (pa_cons (pe_ix (ix_U K (hu_of hr)) (pe_lst (pa_cons pe_str (pa_cons pe_str pa_nil))) (fcallX tkc G__law_take (hr.mono (by first | decide | omega)) (by rfl) (pa_cons (pv 1) (pa_cons pe_int pa_nil))) (fun _ _ => rfl)) pa_nil)))))
      (w_cons (n_set (i := 5) sc_law.nd rfl (Or.inr rfl) (n_fcallX takes0 G__law_take (hr.mono (by first | decide | omega)) (by rfl) (n_cons (n_pv 1) (n_cons (n_pv 3) n_nil))))
      (w_cons (n_setLc (i := 6) (own := [("_law_k", 13)]) (g := (gName 13))  rfl rfl rfl takes0 sc_law.nd rfl rfl (sw_true rfl rfl rfl (by decide +kernel)) (n_rng1 (by rfl) T.b_range (n_cons (n_pv 3) n_nil)) (blkOk_by (own := [("_law_k", 13)]) (N := N_law) (sc := defScope s_law) (by decide +kernel)) (fun _ _ _ _ _ _ => (pg_name (i := 13) sc_law.nd rfl (by first | exact Or.inl rfl | exact Or.inr rfl))) (fun _ _ _ _ _ _ tkc => (pts_one (PW.pt (pw_or (pt_cmpR (op_eqU K hr.units) (pv 13) (pv 5) (nomark _)) (pw_or1 (pt_cmpR (op_eqU K hr.units) (fcallX tkc G__law_take (hr.mono (by first | decide | omega)) (by rfl) (pa_cons (pv 1) (pa_cons pe_int pa_nil))) pe_int (nomark _))))))) (fun _ _ _ _ _ _ tkc => (pv 13)))
      (w_cons (n_setLc (i := 7) (own := [("_law_step", 14)]) (g := (gName 14)) (tt := tYes) rfl rfl rfl takes0 sc_law.nd rfl rfl (sw_true rfl rfl rfl (by decide +kernel)) (n_any K (n_pv 4)) (blkOk_by (own := [("_law_step", 14)]) (N := N_law) (sc := defScope s_law) (by decide +kernel)) (fun _ _ _ _ _ _ => (pg_name (i := 14) sc_law.nd rfl (by first | exact Or.inl rfl | exact Or.inr rfl))) (fun _ _ _ _ _ _ tkc => pts_nil) (fun _ _ _ _ _ _ tkc => (pe_op (op_addU K) (pe_op (op_addU K) (pe_callTy call_strU (by rfl) T.b_str (by decide +kernel) (pa_cons (pe_ix (ix_U K (hu_of hr)) (pv 14) pe_int (fun _ _ => rfl)) pa_nil)) pe_str) (pe_ix (ix_U K (hu_of hr)) (pv 14) pe_int (fun _ _ => rfl)))))
      (w_cons (n_setLc (i := 8) (own := [("_law_k", 13)]) (g := (gName 13)) (tt := tYes) rfl rfl rfl takes0 sc_law.nd rfl rfl (sw_true rfl rfl rfl (by decide +kernel)) (n_any K (n_pv 6)) (blkOk_by (own := [("_law_k", 13)]) (N := N_law) (sc := defScope s_law) (by decide +kernel)) (fun _ _ _ _ _ _ => (pg_name (i := 13) sc_law.nd rfl (by first | exact Or.inl rfl | exact Or.inr rfl))) (fun _ _ _ _ _ _ tkc => pts_nil) (fun _ _ _ _ _ _ tkc => (pe_callTy call_strU (by rfl) T.b_str (by decide +kernel) (pa_cons (pv 13) pa_nil))))
      (w_cons (n_set (i := 9) sc_law.nd rfl (Or.inl rfl) (n_fcallX takes0 G__law_take (hr.mono (by first | decide | omega)) (by rfl) (n_cons (n_pv 1) (n_cons (n_pv 3) n_nil))))
      (w_for PassesOwn.never rfl (w_seq K (w_opl (op_addU K) (w_call (i := 2) takes0 G__law_separators (hr.mono (by first | decide | omega)) (by rfl) rfl rfl (pa_cons (pv 7) (pa_cons (pv 8) pa_nil))) (fcallX takes0 G__law_steps_changed (hr.mono (by first | decide | omega)) (by rfl) (pa_cons (pv 2) (pa_cons (pv 7) (pa_cons (pv 8) (pa_cons (pv 9) pa_nil))))))) (pg_name (i := 10) sc_law.nd rfl (Or.inl rfl)) (pss_one (ps_if (pt_not (pt_val (fcallX takes0 G__law_refused (hr.mono (by first | decide | omega)) (by rfl) (pa_cons (pv 10) pa_nil)))) (pss_one (ps_ret pe_bl)) pss_nil))
      (pss_cons (ps_set (i := 11) sc_law.nd rfl (Or.inl rfl) (pe_tup (pa_cons (pv 2) (pa_cons (pe_callTy (call_tuple_ofK K) (by rfl) T.b_tuple (by decide +kernel) (pa_cons (pv 4) pa_nil)) (pa_cons (pe_callTy (call_tuple_ofK K) (by rfl) T.b_tuple (by decide +kernel) (pa_cons (pv 6) pa_nil)) pa_nil)))))
      (pss_cons (ps_set (i := 12) sc_law.nd rfl (Or.inl rfl) (fcallX takes0 G__law_joined (hr.mono (by first | decide | omega)) (by rfl) (pa_cons (pv 2) (pa_cons (pv 7) (pa_cons (pv 8) pa_nil)))))
      (pss_one (ps_ret (pe_and (pe_cmpR (op_eqU K hr.units) (fcallX takes0 G_parse_way (hr.mono (by first | decide | omega)) (by rfl) (pa_cons (pv 12) pa_nil)) (pv 11) (nomark _)) (pe_one (pe_cmpR (op_eqU K hr.units) (fcallX takes0 G_way_text (hr.mono (by first | decide | omega)) (by rfl) (pa_cons (pv 11) pa_nil)) (pv 12) (nomark _)))))))))))))))))), inferInstance, ?_⟩
  walk_at "d"
  refine ⟨0, 30, rfl, by decide, by decide, by decide, fun Tp1 hT1 => ?_⟩
  walk_at "d"
  refine ⟨_, rfl, by decide, fun z z0 z1 => ?_⟩
  walk_at "d"
  refine ⟨by omega, ?_⟩
  obtain ⟨b, hb⟩ : ∃ b, pkS (Str.ofString "told") (Str.ofString "found") z = dirS b := ⟨decide (z = 1), by
    have : z = 0 ∨ z = 1 := by omega
    rcases this with rfl | rfl <;> rfl⟩
  rw [hb]
  clear hb z0 z1
  refine ⟨_, rfl, by decide, fun m m0 m1 => ?_⟩
  walk_at "d"
  obtain ⟨n, hn, hn1, hn3⟩ : ∃ n : Nat, 1 + m = (n : Int) ∧ 1 ≤ n ∧ n ≤ 3 := ⟨(1 + m).toNat, by omega, by omega, by omega⟩
  rw [hn]
  refine ⟨n, rfl, hn1, hn3, fun ps hps => ?_⟩
  walk_at "d"
  have hl3 : ps.length = n := perms_len hps
  refine comp_rel (fun k : Nat => D.int k) (fun (k : Nat) (y : D) => ∃ c : Bool, y = D.tup [.int k, .str (dirS c)]) ps (by simp; omega) (fun k hk N M hn => ?_) (fun ys hys => ?_)
  · walk_at "d"
    refine ⟨_, rfl, by decide, fun r r0 r1 => ?_⟩
    walk_at "d"
    have hz : r = 0 ∨ r = 1 := by omega
    rcases hz with rfl | rfl
    · rw [show atI [D.str (Str.ofString "told"), D.str (Str.ofString "found")] 0 = some (D.str (dirS false)) from atI_0 _ _]
      walk_at "d"
      exact hn _ ⟨false, rfl⟩
    · rw [show atI [D.str (Str.ofString "told"), D.str (Str.ofString "found")] 1 = some (D.str (dirS true)) from atI_1 _ _ _]
      walk_at "d"
      exact hn _ ⟨true, rfl⟩
  · obtain ⟨st, hst, rfl⟩ := st_of hys
    have hsm := modes_mem st
    rw [hst] at hsm
    rw [List.nil_append]
    walk_at "d"
    refine ⟨_, rfl, by omega, fun g g0 g1 => ?_⟩
    walk_at "d"
    refine ⟨by omega, by omega, ?_⟩
    rw [show ((n : Nat) : Int).toNat = n by omega]
    refine comp_flt (fun i acc => ∃ nt : List Nat, acc = nt.map (fun (k : Nat) => D.int k) ∧ nt ∈ subsN i ∧ i ≤ n ∧ (g.toNat < i → nt ≠ [])) (fun i acc ⟨nt, e, h, hi, _⟩ => (by rw [e, List.length_map]; have := subsN_len i nt h; omega)) ⟨[], rfl, by simp [subsN], by omega, fun z => by omega⟩ (fun j x acc hx ⟨nt, e, h, hi, hne⟩ N M h1 h2 => ?_) (fun acc ⟨nt, e, hnt, _, hne⟩ => ?_)
    · obtain ⟨rfl, hj⟩ : x = D.int (j : Int) ∧ j < n := by
        rw [rng_rgI, rgI, List.map_map, List.getElem?_map, Option.map_eq_some_iff] at hx
        obtain ⟨m, hm, rfl⟩ := hx
        obtain ⟨h3, h4⟩ := List.getElem?_eq_some_iff.mp hm
        rw [List.getElem_range] at h4
        subst h4
        exact ⟨rfl, by simpa using h3⟩
      subst e
      have hyes : ∃ nt' : List Nat, nt.map (fun (k : Nat) => D.int k) ++ [D.int (j : Int)] = nt'.map (fun (k : Nat) => D.int k) ∧ nt' ∈ subsN (j + 1) ∧ j + 1 ≤ n ∧ (g.toNat < j + 1 → nt' ≠ []) := ⟨nt ++ [j], by rw [List.map_append]; rfl, by rw [subsN]; exact List.mem_append_right _ (List.mem_map.mpr ⟨nt, h, rfl⟩), by omega, fun _ => by simp⟩
      have hno : (j : Int) ≠ g → ∃ nt' : List Nat, nt.map (fun (k : Nat) => D.int k) = nt'.map (fun (k : Nat) => D.int k) ∧ nt' ∈ subsN (j + 1) ∧ j + 1 ≤ n ∧ (g.toNat < j + 1 → nt' ≠ []) := fun hg => ⟨nt, rfl, by rw [subsN]; exact List.mem_append_left _ h, by omega, fun z => hne (by omega)⟩
      walk_at "d"
      refine iteB_by (fun c => ?_) (fun c => ?_)
      · try walk_at "d"
        exact h1 _ hyes
      · walk_at "d"
        refine ⟨_, rfl, by decide, fun r r0 r1 => ?_⟩
        walk_at "d"
        refine iteB_by (fun c2 => ?_) (fun c2 => ?_)
        · try walk_at "d"
          exact h1 _ hyes
        · try walk_at "d"
          exact h2 (hno c)
    · subst e
      rw [show (rng 0 n).length = n by simp [rng]] at hnt hne
      have hne : nt ≠ [] := hne (by omega)
      have hnl := subsN_len n nt hnt
      have hstl : st.length = n := by rw [← hl3, ← hst, List.length_map]
      have hlt : ∀ p ∈ st, p.1 < n := fun p hp => perms_lt hps p.1 (by rw [← hst]; exact List.mem_map.mpr ⟨p, hp, rfl⟩)
      walk_at "d"
      refine comp_map (fun p : Nat × Bool => D.tup [.int p.1, .str (dirS p.2)]) (fun p => D.str (wrdS p)) st (by simp; omega) (fun p hp N M hn => ?_) ?_
      · have hpl := hlt p hp
        have hnm := num_len (i := (p.1 : Int)) (by omega) (by omega)
        have hd5 := dirS_len p.2
        have k1 : (Str.ofString " ").length = 1 := by decide +kernel
        have h120 : (p.1 : Int).natAbs.log2 < 1920 := Nat.lt_of_le_of_lt (Nat.log2_le_self _) (by omega)
        walk_at "d"
        refine ⟨h120, by rw [k1]; omega, by rw [len_app, k1]; omega, ?_⟩
        exact hn
      · rw [List.nil_append]
        walk_at "d"
        refine comp_map (fun (k : Nat) => D.int k) (fun k => D.str (numS k)) nt (by simp; omega) (fun k hk N M hn => ?_) ?_
        · have hkl := subsN_lt n nt hnt k hk
          have h120 : (k : Int).natAbs.log2 < 1920 := Nat.lt_of_le_of_lt (Nat.log2_le_self _) (by omega)
          walk_at "d"
          refine ⟨h120, ?_⟩
          exact hn
        · rw [List.nil_append]
          walk_at "d"
          refine ⟨_, rfl, by omega, fun a a0 a1 => ?_⟩
          walk_at "d"
          have hwl : ∀ x ∈ st.map wrdS, x.length ≤ 8 ∧ 1 ≤ x.length := fun x hx => by
            obtain ⟨p, hp, rfl⟩ := List.mem_map.mp hx
            have hpl := hlt p hp
            have hnm := num_len (i := (p.1 : Int)) (by omega) (by omega)
            have hd5 := dirS_len p.2
            have k1 : (tS " ").length = 1 := by decide +kernel
            unfold wrdS
            rw [len_app, len_app, k1]
            omega
          have hnl2 : ∀ x ∈ nt.map numS, x.length ≤ 2 := fun x hx => by
            obtain ⟨k, hk, rfl⟩ := List.mem_map.mp hx
            have hkl := subsN_lt n nt hnt k hk
            exact (num_len (i := (k : Int)) (by omega) (by omega)).2
          have hn0 : 1 ≤ nt.length := List.length_pos_iff.mpr hne
          have hb1 : 1 ≤ (dirS b).length := by cases b <;> decide +kernel
          have hb5 := dirS_len b
          refine ⟨dirS b, st.map wrdS, nt.map numS, by rw [List.map_map, List.map_map]; rfl, hb1, by omega, by rw [List.length_map]; omega, by rw [List.length_map]; omega, fun x hx => (by have := hwl x hx; omega), by rw [List.length_map]; omega, by rw [List.length_map]; omega, fun x hx => (by have := hnl2 x hx; omega), ?_⟩
          walk_at "d"
          have hwo : ∀ x ∈ st.map wrdS, PyData.strOk (cutS x none (some 1)) = true ∧ ∀ y ∈ badS x, y.length ≤ 20 := fun x hx => by
            obtain ⟨p, hp, rfl⟩ := List.mem_map.mp hx
            obtain ⟨q1, q2⟩ := wrd_ok p (six (by have := hlt p hp; omega))
            exact ⟨q1, fun y hy => Nat.le_of_ble_eq_true (List.all_eq_true.mp q2 y hy)⟩
          obtain ⟨p0, hp0, e0⟩ : ∃ p ∈ st, p.1 = 0 := by
            have hn : n ∈ [1, 2, 3] := by
              have : n = 1 ∨ n = 2 ∨ n = 3 := by omega
              rcases this with rfl | rfl | rfl <;> simp
            have h0 := List.all_eq_true.mp (perms_0 n hn) ps hps
            have h0 : 0 ∈ ps := by simpa using h0
            rw [← hst] at h0
            obtain ⟨p, hp, e⟩ := List.mem_map.mp h0
            exact ⟨p, hp, e⟩
          have hz0 : tS "0" ∈ (st.map wrdS).map fun w => cutS w none (some 1) := by
            refine List.mem_map.mpr ⟨wrdS p0, List.mem_map.mpr ⟨p0, hp0, rfl⟩, ?_⟩
            obtain ⟨k0, c0⟩ := p0
            have e0 : k0 = 0 := e0
            subst e0
            exact wrd_0 c0 (by cases c0 <;> simp)
          have hat : a.toNat < (st.map wrdS).length := by rw [List.length_map]; omega
          have hwa : (st.map wrdS).getD a.toNat (tS "") ∈ st.map wrdS := by
            rw [List.getD_eq_getElem?_getD, List.getElem?_eq_getElem hat]
            exact List.getElem_mem _
          refine ⟨dirS b, st.map wrdS, nt.map numS, a.toNat, by rw [List.map_map, List.map_map, show ((a.toNat : Nat) : Int) = a by omega]; rfl, by omega, hat, by rw [List.length_map]; omega, fun x hx => ⟨(hwl x hx).1, (hwl x hx).2, (hwo x hx).1⟩, .inr hz0, (hwo _ hwa).2, by rw [List.length_map]; omega, fun x hx => (by have := hnl2 x hx; omega), ?_⟩
          walk_at "d"
          have hsn := st_in hps hsm
          have han : a.toNat < n := by omega
          have hsepl : (seps11 (dirS b) (st.map wrdS) (nt.map numS)).length ≤ 100 := by
            unfold seps11
            split <;> split <;> simp
          have hstpl : (steps11 (dirS b) (st.map wrdS) (nt.map numS) a.toNat).length ≤ 100 := by
            unfold steps11 badS
            split <;> simp
          have hbad : ∀ x ∈ seps11 (dirS b) (st.map wrdS) (nt.map numS) ++ steps11 (dirS b) (st.map wrdS) (nt.map numS) a.toNat, noneL (tl11 x) = true := fun x hx => by
            rcases List.mem_append.mp hx with hx | hx
            · exact seps_ok hn1 hn3 hsn hlt hnt hne x hx
            · exact steps_ok11 hn1 hn3 hsn hlt hnt hne han x hx
          refine ⟨by rw [List.length_map, List.length_map]; omega, ?_⟩
          rw [← List.map_append]
          generalize seps11 (dirS b) (st.map wrdS) (nt.map numS) ++ steps11 (dirS b) (st.map wrdS) (nt.map numS) a.toNat = bads at hbad ⊢
          refine for_map D.str bads (fun i S => ∃ v, S = ⟨[some (PC.val D.scr), some (PC.val D.tape), some (PC.val (D.str (dirS b))), some (PC.val (D.int n)), some (PC.val (D.lst (st.map fun p => D.tup [D.int p.1, D.str (dirS p.2)]))), some (PC.val (D.int g)), some (PC.val (D.lst (nt.map fun (k : Nat) => D.int k))), some (PC.val (D.lst (st.map fun p => D.str (wrdS p)))), some (PC.val (D.lst (nt.map fun k => D.str (numS k)))), some (PC.val (D.int a)), v, none, none, none, none], { Tp := Tp1, ω := e.W.ω }⟩) ⟨_, rfl⟩ (fun i x S hx hS => ?_) (fun S hS => ?_)
          · obtain ⟨v, rfl⟩ := hS
            obtain ⟨q1, q2⟩ := none_of (hbad x (List.mem_of_getElem? hx))
            walk_at "d"
            refine ⟨x, rfl, q1, q2, ?_⟩
            walk_at "d"
            exact ⟨_, rfl⟩
          · obtain ⟨v, rfl⟩ := hS
            walk_at "d"
            refine ⟨dirS b, st.map wrdS, nt.map numS, by rw [List.map_map, List.map_map]; rfl, by omega, ⟨by rw [List.length_map]; omega, fun x hx => (by have := hwl x hx; omega)⟩, ⟨by rw [List.length_map]; omega, fun x hx => (by have := hnl2 x hx; omega)⟩, ?_⟩
            walk_at "d"
            obtain ⟨good, hjl⟩ := good_WyT (b := b) hn1 hn3 hsn hlt hnt hne
            have ew : wayD (wyOf b st nt) = D.tup [.str (dirS b), .tup (st.map fun p => D.tup [.int p.1, .str (dirS p.2)]), .tup (nt.map fun (k : Nat) => D.int k)] := by
              unfold wayD wyOf
              rw [List.map_map, List.map_map]
              rfl
            refine ⟨_, rfl, hjl, .inl ⟨_, good, ?_⟩⟩
            rw [ew]
            walk_at "d"
            refine ⟨by rw [← ew]; exact way_eq11 good.sm, wyOf b st nt, by rw [← ew], good.sm, ?_⟩
            rw [good.tx]
            walk_at "d"
end Kn
set_option synthInstance.maxHeartbeats 0
set_option synthInstance.maxSize 100000
set_option Elab.async false
set_option maxRecDepth 100000
set_option linter.all false
set_option maxHeartbeats 0
set_option pp.maxSteps 30
set_option pp.deepTerms false
set_option pp.proofs false
namespace Kn
open PySem L2
theorem all_mk {l : PySem.W.OpenLaw} {w : World} {K : PySem.W.Frag} {h : Heap} {mg : Str → Option Value} {fa : Addr} (X : K.In h) (G : h.Ns mainGlobals mg) (hfa : mg "law" = some (.ref fa))
    {f1 f2 f3 f4 f5 f6 f7 f8 f9 f10 f11 f12 f13 f14 f15 f16 f17 f18 : Addr} {od1 an1 od2 an2 od3 an3 od4 an4 od5 an5 od6 an6 od7 an7 od8 an8 od9 an9 od10 an10 od11 an11 od12 an12 od13 an13 od14 an14 od15 an15 od16 an16 od17 an17 od18 an18 : Option Addr} {sl1 sl2 sl3 sl4 sl5 sl6 sl7 sl8 sl9 sl10 sl11 sl12 sl13 sl14 sl15 sl16 sl17 sl18 : Array (Option Value)} {oc1 kV1 dc1 pm1 cd1 ct1 oc2 kV2 dc2 pm2 cd2 ct2 oc3 kV3 dc3 pm3 cd3 ct3 oc4 kV4 dc4 pm4 cd4 ct4 oc5 kV5 dc5 pm5 cd5 ct5 oc6 kV6 dc6 pm6 cd6 ct6 oc7 kV7 dc7 pm7 cd7 ct7 oc8 kV8 dc8 pm8 cd8 ct8 oc9 kV9 dc9 pm9 cd9 ct9 oc10 kV10 dc10 pm10 cd10 ct10 oc11 kV11 dc11 pm11 cd11 ct11 oc12 kV12 dc12 pm12 cd12 ct12 oc13 kV13 dc13 pm13 cd13 ct13 oc14 kV14 dc14 pm14 cd14 ct14 oc15 kV15 dc15 pm15 cd15 ct15 oc16 kV16 dc16 pm16 cd16 ct16 oc17 kV17 dc17 pm17 cd17 ct17 oc18 kV18 dc18 pm18 cd18 ct18 : Value} {u_FOUND : Value} {u_MOST_PLACES : Value} {u_TOLD : Value} {C_BadWay : Addr} {C_NotesError : Addr} {C_BadKind : Addr}
    (a1 : PySem.W.nsIn K mainGlobals "are_integers" = some (some (.ref f1))) (l1 : K.lookup f1 = some ⟨oc1, od1, .func (PySem.W.fnOf "are_integers" "are_integers" (defArgs s_are_integers) (defBody s_are_integers) (defScope s_are_integers) .none kV1 dc1 pm1 an1 cd1 ct1), sl1⟩) (c1 : PySem.W.codeIn K cd1 "are_integers" = true) (k1 : PySem.W.keepIn K (.ref f1) = true)
    (a2 : PySem.W.nsIn K mainGlobals "are_steps" = some (some (.ref f2))) (l2 : K.lookup f2 = some ⟨oc2, od2, .func (PySem.W.fnOf "are_steps" "are_steps" (defArgs s_are_steps) (defBody s_are_steps) (defScope s_are_steps) .none kV2 dc2 pm2 an2 cd2 ct2), sl2⟩) (c2 : PySem.W.codeIn K cd2 "are_steps" = true) (k2 : PySem.W.keepIn K (.ref f2) = true)
    (a3 : PySem.W.nsIn K mainGlobals "ascending" = some (some (.ref f3))) (l3 : K.lookup f3 = some ⟨oc3, od3, .func (PySem.W.fnOf "ascending" "ascending" (defArgs s_ascending) (defBody s_ascending) (defScope s_ascending) .none kV3 dc3 pm3 an3 cd3 ct3), sl3⟩) (c3 : PySem.W.codeIn K cd3 "ascending" = true) (k3 : PySem.W.keepIn K (.ref f3) = true)
    (a4 : PySem.W.nsIn K mainGlobals "is_way" = some (some (.ref f4))) (l4 : K.lookup f4 = some ⟨oc4, od4, .func (PySem.W.fnOf "is_way" "is_way" (defArgs s_is_way) (defBody s_is_way) (defScope s_is_way) .none kV4 dc4 pm4 an4 cd4 ct4), sl4⟩) (c4 : PySem.W.codeIn K cd4 "is_way" = true) (k4 : PySem.W.keepIn K (.ref f4) = true)
    (a5 : PySem.W.nsIn K mainGlobals "way" = some (some (.ref f5))) (l5 : K.lookup f5 = some ⟨oc5, od5, .func (PySem.W.fnOf "way" "way" (defArgs s_way) (defBody s_way) (defScope s_way) .none kV5 dc5 pm5 an5 cd5 ct5), sl5⟩) (c5 : PySem.W.codeIn K cd5 "way" = true) (k5 : PySem.W.keepIn K (.ref f5) = true)
    (a6 : PySem.W.nsIn K mainGlobals "way_text" = some (some (.ref f6))) (l6 : K.lookup f6 = some ⟨oc6, od6, .func (PySem.W.fnOf "way_text" "way_text" (defArgs s_way_text) (defBody s_way_text) (defScope s_way_text) .none kV6 dc6 pm6 an6 cd6 ct6), sl6⟩) (c6 : PySem.W.codeIn K cd6 "way_text" = true) (k6 : PySem.W.keepIn K (.ref f6) = true)
    (a7 : PySem.W.nsIn K mainGlobals "parse_step" = some (some (.ref f7))) (l7 : K.lookup f7 = some ⟨oc7, od7, .func (PySem.W.fnOf "parse_step" "parse_step" (defArgs s_parse_step) (defBody s_parse_step) (defScope s_parse_step) .none kV7 dc7 pm7 an7 cd7 ct7), sl7⟩) (c7 : PySem.W.codeIn K cd7 "parse_step" = true) (k7 : PySem.W.keepIn K (.ref f7) = true)
    (a8 : PySem.W.nsIn K mainGlobals "parse_place" = some (some (.ref f8))) (l8 : K.lookup f8 = some ⟨oc8, od8, .func (PySem.W.fnOf "parse_place" "parse_place" (defArgs s_parse_place) (defBody s_parse_place) (defScope s_parse_place) .none kV8 dc8 pm8 an8 cd8 ct8), sl8⟩) (c8 : PySem.W.codeIn K cd8 "parse_place" = true) (k8 : PySem.W.keepIn K (.ref f8) = true)
    (a9 : PySem.W.nsIn K mainGlobals "parse_way" = some (some (.ref f9))) (l9 : K.lookup f9 = some ⟨oc9, od9, .func (PySem.W.fnOf "parse_way" "parse_way" (defArgs s_parse_way) (defBody s_parse_way) (defScope s_parse_way) .none kV9 dc9 pm9 an9 cd9 ct9), sl9⟩) (c9 : PySem.W.codeIn K cd9 "parse_way" = true) (k9 : PySem.W.keepIn K (.ref f9) = true)
    (a10 : PySem.W.nsIn K mainGlobals "_law_cell" = some (some (.ref f10))) (l10 : K.lookup f10 = some ⟨oc10, od10, .func (PySem.W.fnOf "_law_cell" "_law_cell" (defArgs s__law_cell) (defBody s__law_cell) (defScope s__law_cell) .none kV10 dc10 pm10 an10 cd10 ct10), sl10⟩) (c10 : PySem.W.codeIn K cd10 "_law_cell" = true) (k10 : PySem.W.keepIn K (.ref f10) = true)
    (a11 : PySem.W.nsIn K mainGlobals "_law_tape" = some (some (.ref f11))) (l11 : K.lookup f11 = some ⟨oc11, od11, .func (PySem.W.fnOf "_law_tape" "_law_tape" (defArgs s__law_tape) (defBody s__law_tape) (defScope s__law_tape) .none kV11 dc11 pm11 an11 cd11 ct11), sl11⟩) (c11 : PySem.W.codeIn K cd11 "_law_tape" = true) (k11 : PySem.W.keepIn K (.ref f11) = true)
    (a12 : PySem.W.nsIn K mainGlobals "_law_take" = some (some (.ref f12))) (l12 : K.lookup f12 = some ⟨oc12, od12, .func (PySem.W.fnOf "_law_take" "_law_take" (defArgs s__law_take) (defBody s__law_take) (defScope s__law_take) .none kV12 dc12 pm12 an12 cd12 ct12), sl12⟩) (c12 : PySem.W.codeIn K cd12 "_law_take" = true) (k12 : PySem.W.keepIn K (.ref f12) = true)
    (a13 : PySem.W.nsIn K mainGlobals "_law_shuffled" = some (some (.ref f13))) (l13 : K.lookup f13 = some ⟨oc13, od13, .func (PySem.W.fnOf "_law_shuffled" "_law_shuffled" (defArgs s__law_shuffled) (defBody s__law_shuffled) (defScope s__law_shuffled) .none kV13 dc13 pm13 an13 cd13 ct13), sl13⟩) (c13 : PySem.W.codeIn K cd13 "_law_shuffled" = true) (k13 : PySem.W.keepIn K (.ref f13) = true)
    (a14 : PySem.W.nsIn K mainGlobals "_law_refused" = some (some (.ref f14))) (l14 : K.lookup f14 = some ⟨oc14, od14, .func (PySem.W.fnOf "_law_refused" "_law_refused" (defArgs s__law_refused) (defBody s__law_refused) (defScope s__law_refused) .none kV14 dc14 pm14 an14 cd14 ct14), sl14⟩) (c14 : PySem.W.codeIn K cd14 "_law_refused" = true) (k14 : PySem.W.keepIn K (.ref f14) = true)
    (a15 : PySem.W.nsIn K mainGlobals "_law_joined" = some (some (.ref f15))) (l15 : K.lookup f15 = some ⟨oc15, od15, .func (PySem.W.fnOf "_law_joined" "_law_joined" (defArgs s__law_joined) (defBody s__law_joined) (defScope s__law_joined) .none kV15 dc15 pm15 an15 cd15 ct15), sl15⟩) (c15 : PySem.W.codeIn K cd15 "_law_joined" = true) (k15 : PySem.W.keepIn K (.ref f15) = true)
    (a16 : PySem.W.nsIn K mainGlobals "_law_separators" = some (some (.ref f16))) (l16 : K.lookup f16 = some ⟨oc16, od16, .func (PySem.W.fnOf "_law_separators" "_law_separators" (defArgs s__law_separators) (defBody s__law_separators) (defScope s__law_separators) .none kV16 dc16 pm16 an16 cd16 ct16), sl16⟩) (c16 : PySem.W.codeIn K cd16 "_law_separators" = true) (k16 : PySem.W.keepIn K (.ref f16) = true)
    (a17 : PySem.W.nsIn K mainGlobals "_law_steps_changed" = some (some (.ref f17))) (l17 : K.lookup f17 = some ⟨oc17, od17, .func (PySem.W.fnOf "_law_steps_changed" "_law_steps_changed" (defArgs s__law_steps_changed) (defBody s__law_steps_changed) (defScope s__law_steps_changed) .none kV17 dc17 pm17 an17 cd17 ct17), sl17⟩) (c17 : PySem.W.codeIn K cd17 "_law_steps_changed" = true) (k17 : PySem.W.keepIn K (.ref f17) = true)
    (a18 : PySem.W.nsIn K mainGlobals "law" = some (some (.ref f18))) (l18 : K.lookup f18 = some ⟨oc18, od18, .func (PySem.W.fnOf "law" "law" (defArgs s_law) (defBody s_law) (defScope s_law) .none kV18 dc18 pm18 an18 cd18 ct18), sl18⟩) (c18 : PySem.W.codeIn K cd18 "law" = true) (k18 : PySem.W.keepIn K (.ref f18) = true)
    (q_FOUND : PySem.W.nsIn K mainGlobals "FOUND" = some (some u_FOUND)) (r_FOUND : RelV (.str "found") u_FOUND)
    (q_MOST_PLACES : PySem.W.nsIn K mainGlobals "MOST_PLACES" = some (some u_MOST_PLACES)) (r_MOST_PLACES : RelV (.int 3) u_MOST_PLACES)
    (q_TOLD : PySem.W.nsIn K mainGlobals "TOLD" = some (some u_TOLD)) (r_TOLD : RelV (.str "told") u_TOLD)
    (z_all : PySem.W.nsIn K mainGlobals "all" = some none)
    (z_bool : PySem.W.nsIn K mainGlobals "bool" = some none)
    (z_int : PySem.W.nsIn K mainGlobals "int" = some none)
    (z_isinstance : PySem.W.nsIn K mainGlobals "isinstance" = some none)
    (z_len : PySem.W.nsIn K mainGlobals "len" = some none)
    (z_list : PySem.W.nsIn K mainGlobals "list" = some none)
    (z_range : PySem.W.nsIn K mainGlobals "range" = some none)
    (z_sorted : PySem.W.nsIn K mainGlobals "sorted" = some none)
    (z_str : PySem.W.nsIn K mainGlobals "str" = some none)
    (z_tuple : PySem.W.nsIn K mainGlobals "tuple" = some none)
    (xa_BadWay : PySem.W.nsIn K mainGlobals "BadWay" = some (some (.ref C_BadWay))) (xe_BadWay : PySem.W.excIn K C_BadWay [.type "ValueError", .type "Exception", .type "BaseException", .type "object"] "ValueError.__new__" = true) (xk_BadWay : PySem.W.keepIn K (.ref C_BadWay) = true) (xb_BadWay : PySem.W.subIn K (.ref C_BadWay) (.type "BaseException") = some true) (xt_BadWay : PySem.W.typeIn K (.ref C_BadWay) = some (.type "type"))
    (xa_NotesError : PySem.W.nsIn K mainGlobals "NotesError" = some (some (.ref C_NotesError)))
    (xa_BadKind : PySem.W.nsIn K mainGlobals "BadKind" = some (some (.ref C_BadKind)))
    (y0 : PySem.W.exmOne K (.ref C_BadWay) (.ref C_NotesError) = some true)
    (y1 : PySem.W.kitOne K (.ref C_BadWay) (.ref C_BadWay) = some true)
    (y2 : PySem.W.kitOne K (.ref C_BadWay) (.ref C_BadKind) = some false)
    (y3_0 : PySem.W.findIn K (.ref C_BadWay) "__getattribute__" = some (some (.builtin "BaseException.__getattribute__")))
    (y3_1 : PySem.W.findIn K (.ref C_BadWay) "__getattr__" = some none)
    (y3_2 : PySem.W.subIn K (.ref C_BadWay) (.type "BaseException") = some true)
    (y3_3 : PySem.W.hasDictIn K C_BadWay = true)
    (y3_4 : PySem.W.findIn K (.ref C_BadWay) "__class__" = some (some (.builtin "object.__class__")))
    (y3_5 : PySem.W.specialIn K (.builtin "object.__class__") "__get__" = some (some (.builtin "getset_descriptor.__get__")))
    (y3_6 : PySem.W.takesIn K (.builtin "object.__class__") = some true)
    (y3_7 : PySem.W.mroIn K C_BadWay (.type "object") = some true) :
    ∃ fd : FuncData, (∀ (s : Shared) (v : Value), BindsTo s fd ⟨[v], []⟩ [("_law_script", v)]) ∧ ∀ base : Heap, K.In base → base.Ns mainGlobals mg → FnOk l.prog w K mg base CX0 7 fa fd ["_law_script"] (spLaw K) := by
  have e := hfa.symm.trans (PySem.W.mg_of X G a18)
  cases e
  have FL := fun_mk (st := s_law) l18 c18 k18
  have F_are_integers : Fz K mg "are_integers" s_are_integers P_are_integers := ⟨f1, _, fun_mk (st := s_are_integers) l1 c1 k1, PySem.W.mg_of X G a1, (fun_mk (st := s_are_integers) l1 c1 k1).binds (ps := P_are_integers) fun _ _ _ _ _ _ us hl => match us, hl with | [_], _ => rfl⟩
  have F_are_steps : Fz K mg "are_steps" s_are_steps P_are_steps := ⟨f2, _, fun_mk (st := s_are_steps) l2 c2 k2, PySem.W.mg_of X G a2, (fun_mk (st := s_are_steps) l2 c2 k2).binds (ps := P_are_steps) fun _ _ _ _ _ _ us hl => match us, hl with | [_], _ => rfl⟩
  have F_ascending : Fz K mg "ascending" s_ascending P_ascending := ⟨f3, _, fun_mk (st := s_ascending) l3 c3 k3, PySem.W.mg_of X G a3, (fun_mk (st := s_ascending) l3 c3 k3).binds (ps := P_ascending) fun _ _ _ _ _ _ us hl => match us, hl with | [_], _ => rfl⟩
  have F_is_way : Fz K mg "is_way" s_is_way P_is_way := ⟨f4, _, fun_mk (st := s_is_way) l4 c4 k4, PySem.W.mg_of X G a4, (fun_mk (st := s_is_way) l4 c4 k4).binds (ps := P_is_way) fun _ _ _ _ _ _ us hl => match us, hl with | [_, _, _], _ => rfl⟩
  have F_way : FzB K mg "way" s_way (wayB K) := ⟨f5, _, fun_mk (st := s_way) l5 c5 k5, PySem.W.mg_of X G a5, ⟨fun s us ws _ h1 h2 => match us, ws, h1, h2 with | [], [_, _, _], _, _ => .of_eq rfl, fun _ r => r⟩⟩
  have F_way_text : Fz K mg "way_text" s_way_text P_way_text := ⟨f6, _, fun_mk (st := s_way_text) l6 c6 k6, PySem.W.mg_of X G a6, (fun_mk (st := s_way_text) l6 c6 k6).binds (ps := P_way_text) fun _ _ _ _ _ _ us hl => match us, hl with | [_], _ => rfl⟩
  have F_parse_step : Fz K mg "parse_step" s_parse_step P_parse_step := ⟨f7, _, fun_mk (st := s_parse_step) l7 c7 k7, PySem.W.mg_of X G a7, (fun_mk (st := s_parse_step) l7 c7 k7).binds (ps := P_parse_step) fun _ _ _ _ _ _ us hl => match us, hl with | [_], _ => rfl⟩
  have F_parse_place : Fz K mg "parse_place" s_parse_place P_parse_place := ⟨f8, _, fun_mk (st := s_parse_place) l8 c8 k8, PySem.W.mg_of X G a8, (fun_mk (st := s_parse_place) l8 c8 k8).binds (ps := P_parse_place) fun _ _ _ _ _ _ us hl => match us, hl with | [_], _ => rfl⟩
  have F_parse_way : Fz K mg "parse_way" s_parse_way P_parse_way := ⟨f9, _, fun_mk (st := s_parse_way) l9 c9 k9, PySem.W.mg_of X G a9, (fun_mk (st := s_parse_way) l9 c9 k9).binds (ps := P_parse_way) fun _ _ _ _ _ _ us hl => match us, hl with | [_], _ => rfl⟩
  have F__law_cell : Fz K mg "_law_cell" s__law_cell P__law_cell := ⟨f10, _, fun_mk (st := s__law_cell) l10 c10 k10, PySem.W.mg_of X G a10, (fun_mk (st := s__law_cell) l10 c10 k10).binds (ps := P__law_cell) fun _ _ _ _ _ _ us hl => match us, hl with | [_, _], _ => rfl⟩
  have F__law_tape : Fz K mg "_law_tape" s__law_tape P__law_tape := ⟨f11, _, fun_mk (st := s__law_tape) l11 c11 k11, PySem.W.mg_of X G a11, (fun_mk (st := s__law_tape) l11 c11 k11).binds (ps := P__law_tape) fun _ _ _ _ _ _ us hl => match us, hl with | [_, _, _], _ => rfl⟩
  have F__law_take : Fz K mg "_law_take" s__law_take P__law_take := ⟨f12, _, fun_mk (st := s__law_take) l12 c12 k12, PySem.W.mg_of X G a12, (fun_mk (st := s__law_take) l12 c12 k12).binds (ps := P__law_take) fun _ _ _ _ _ _ us hl => match us, hl with | [_, _], _ => rfl⟩
  have F__law_shuffled : Fz K mg "_law_shuffled" s__law_shuffled P__law_shuffled := ⟨f13, _, fun_mk (st := s__law_shuffled) l13 c13 k13, PySem.W.mg_of X G a13, (fun_mk (st := s__law_shuffled) l13 c13 k13).binds (ps := P__law_shuffled) fun _ _ _ _ _ _ us hl => match us, hl with | [_, _], _ => rfl⟩
  have F__law_refused : Fz K mg "_law_refused" s__law_refused P__law_refused := ⟨f14, _, fun_mk (st := s__law_refused) l14 c14 k14, PySem.W.mg_of X G a14, (fun_mk (st := s__law_refused) l14 c14 k14).binds (ps := P__law_refused) fun _ _ _ _ _ _ us hl => match us, hl with | [_], _ => rfl⟩
  have F__law_joined : Fz K mg "_law_joined" s__law_joined P__law_joined := ⟨f15, _, fun_mk (st := s__law_joined) l15 c15 k15, PySem.W.mg_of X G a15, (fun_mk (st := s__law_joined) l15 c15 k15).binds (ps := P__law_joined) fun _ _ _ _ _ _ us hl => match us, hl with | [_, _, _], _ => rfl⟩
  have F__law_separators : Fz K mg "_law_separators" s__law_separators P__law_separators := ⟨f16, _, fun_mk (st := s__law_separators) l16 c16 k16, PySem.W.mg_of X G a16, (fun_mk (st := s__law_separators) l16 c16 k16).binds (ps := P__law_separators) fun _ _ _ _ _ _ us hl => match us, hl with | [_, _, _], _ => rfl⟩
  have F__law_steps_changed : Fz K mg "_law_steps_changed" s__law_steps_changed P__law_steps_changed := ⟨f17, _, fun_mk (st := s__law_steps_changed) l17 c17 k17, PySem.W.mg_of X G a17, (fun_mk (st := s__law_steps_changed) l17 c17 k17).binds (ps := P__law_steps_changed) fun _ _ _ _ _ _ us hl => match us, hl with | [_, _, _, _], _ => rfl⟩
  have cn_FOUND : ∃ u, mg "FOUND" = some u ∧ RelV (.str "found") u := ⟨u_FOUND, PySem.W.mg_of X G q_FOUND, r_FOUND⟩
  have cn_MOST_PLACES : ∃ u, mg "MOST_PLACES" = some u ∧ RelV (.int 3) u := ⟨u_MOST_PLACES, PySem.W.mg_of X G q_MOST_PLACES, r_MOST_PLACES⟩
  have cn_TOLD : ∃ u, mg "TOLD" = some u ∧ RelV (.str "told") u := ⟨u_TOLD, PySem.W.mg_of X G q_TOLD, r_TOLD⟩
  have bn_all : mg "all" = none := PySem.W.mg_none_of X G z_all
  have bn_bool : mg "bool" = none := PySem.W.mg_none_of X G z_bool
  have bn_int : mg "int" = none := PySem.W.mg_none_of X G z_int
  have bn_isinstance : mg "isinstance" = none := PySem.W.mg_none_of X G z_isinstance
  have bn_len : mg "len" = none := PySem.W.mg_none_of X G z_len
  have bn_list : mg "list" = none := PySem.W.mg_none_of X G z_list
  have bn_range : mg "range" = none := PySem.W.mg_none_of X G z_range
  have bn_sorted : mg "sorted" = none := PySem.W.mg_none_of X G z_sorted
  have bn_str : mg "str" = none := PySem.W.mg_none_of X G z_str
  have bn_tuple : mg "tuple" = none := PySem.W.mg_none_of X G z_tuple
  have en_BadWay : ExcF K mg "BadWay" := by
    have g := PySem.W.mg_of X G xa_BadWay
    have e := clsA_of g
    exact ⟨by rw [e]; exact g, by rw [e]; exact xe_BadWay, by rw [e]; exact xk_BadWay, by rw [e]; exact xb_BadWay, by rw [e]; exact xt_BadWay⟩
  have ce_BadWay : clsA mg "BadWay" = C_BadWay := clsA_of (PySem.W.mg_of X G xa_BadWay)
  have gn_BadWay : mg "BadWay" = some (.ref (clsA mg "BadWay")) := by rw [ce_BadWay]; exact PySem.W.mg_of X G xa_BadWay
  have ce_NotesError : clsA mg "NotesError" = C_NotesError := clsA_of (PySem.W.mg_of X G xa_NotesError)
  have gn_NotesError : mg "NotesError" = some (.ref (clsA mg "NotesError")) := by rw [ce_NotesError]; exact PySem.W.mg_of X G xa_NotesError
  have ce_BadKind : clsA mg "BadKind" = C_BadKind := clsA_of (PySem.W.mg_of X G xa_BadKind)
  have gn_BadKind : mg "BadKind" = some (.ref (clsA mg "BadKind")) := by rw [ce_BadKind]; exact PySem.W.mg_of X G xa_BadKind
  have rn0 : PySem.W.exmOne K (.ref (clsA mg "BadWay")) (.ref (clsA mg "NotesError")) = some true := by rw [ce_BadWay, ce_NotesError]; exact y0
  have rn1 : PySem.W.kitOne K (.ref (clsA mg "BadWay")) (.ref (clsA mg "BadWay")) = some true := by rw [ce_BadWay]; exact y1
  have rn2 : PySem.W.kitOne K (.ref (clsA mg "BadWay")) (.ref (clsA mg "BadKind")) = some false := by rw [ce_BadWay, ce_BadKind]; exact y2
  have rn3 : ExcC K (clsA mg "BadWay") := by rw [ce_BadWay]; exact ⟨y3_0, y3_1, y3_2, y3_3, y3_4, y3_5, y3_6, y3_7⟩
  have T := (⟨bn_all, bn_bool, bn_int, bn_isinstance, bn_len, bn_list, bn_range, bn_sorted, bn_str, bn_tuple, cn_FOUND, cn_MOST_PLACES, cn_TOLD, en_BadWay, gn_BadWay, gn_NotesError, gn_BadKind, rn0, rn1, rn2, rn3⟩ : Txt K mg)
  refine ⟨PySem.W.fnOf "law" "law" (defArgs s_law) (defBody s_law) (defScope s_law) .none kV18 dc18 pm18 an18 cd18 ct18, fun s v => .of_eq rfl, fun base _ _ => ?_⟩
  have G1 := okD__law_take (P := l.prog) (w := w) (base := base) F__law_take T
  have G2 := ok__law_cell (P := l.prog) (w := w) (base := base) F__law_cell T
  have G3 := okD__law_tape F__law_tape T G2
  have I1 := ok_are_integers (P := l.prog) (w := w) (base := base) F_are_integers T
  have I2 := ok_ascending (P := l.prog) (w := w) (base := base) F_ascending T
  have I3 := ok_are_steps F_are_steps T I1
  have I4 := ok_is_way F_is_way T I2
  have I5 := ok_way F_way T I1 I3 I2 I4
  have I6 := ok_way_text (P := l.prog) (w := w) (base := base) F_way_text T
  have I7 := ok_parse_step (P := l.prog) (w := w) (base := base) F_parse_step T
  have I8 := ok_parse_place (P := l.prog) (w := w) (base := base) F_parse_place T
  have I9 := ok_parse_way F_parse_way T I7 I8 I5 I6
  have J1 := ok__law_shuffled F__law_shuffled T G1
  have J2 := ok__law_refused F__law_refused T I9
  have J3 := ok__law_joined (P := l.prog) (w := w) (base := base) F__law_joined T
  have J4 := ok__law_separators F__law_separators T J3
  have J5 := ok__law_steps_changed F__law_steps_changed T J3
  exact ok_law FL T G3 G1 J1 J4 J5 J2 J3 I9 I6
theorem walk {l : PySem.W.OpenLaw} {q : Program} {loose : List Str} {XP : (Str → Option Value) → Heap → Prop} {YP : World → Heap → Prop} {d : DefRec} {K : Params → PySem.W.Frag} (hn : l.most = some 63) (hdf : d.params.defaults = [])
    (hY : ∀ (w : World) (h : Heap), YP w h → (K w.params).In h)
    (F : ∀ (w : World) (mg : Str → Option Value) (fa : Addr) (h : Heap), (K w.params).In h → h.Ns mainGlobals mg → mg d.name = some (.ref fa) →
      ∃ fd : FuncData, (∀ (s : Shared) (u : Value), BindsTo s fd ⟨[u], []⟩ [("_law_script", u)]) ∧ ∀ base : Heap, (K w.params).In base → base.Ns mainGlobals mg → FnOk l.prog w (K w.params) mg base CX0 7 fa fd ["_law_script"] (spLaw (K w.params))) :
    PySem.W.WalkO q loose XP YP l.row.toRowW d [] (fun f vs => PySem.call f vs) :=
  L2.walk_of (n := 63) (k := 7) (x := "_law_script") (CX := fun _ => CX0) (sp := fun w => spLaw (K w.params)) hn (by decide) hdf ⟨rfl, by decide, by decide⟩ hY F (fun _ _ a ns hl _ hS => ⟨a, ns, rfl, hS, hl, fun _ => rfl⟩) fun _ _ _ _ _ z => z
end Kn
set_option synthInstance.maxHeartbeats 0
set_option synthInstance.maxSize 100000
set_option Elab.async false
set_option maxRecDepth 100000
set_option linter.all false
open PySem PySem.W PyProof.Rows
set_option maxRecDepth 100000 in
set_option maxHeartbeats 0 in
theorem PySem.Challenge.cw_kindnotes_k11_only_texts_of_ways_holds : PySem.Challenge.rw_kindnotes_k11_only_texts_of_ways.Holds := by
  w_on; o_law; k_head; (case hw => w_witness2)
  k_fill
  refine Kn.walk (l := PySem.Challenge.rw_kindnotes_k11_only_texts_of_ways) rfl rfl (fun w h Y => PySem.W.kIn_of Y) ?F
  case F =>
    intro w mg fa h KX G hmg
    refine' Kn.all_mk KX G hmg ?a1 ?l1 ?c1 ?k1 ?a2 ?l2 ?c2 ?k2 ?a3 ?l3 ?c3 ?k3 ?a4 ?l4 ?c4 ?k4 ?a5 ?l5 ?c5 ?k5 ?a6 ?l6 ?c6 ?k6 ?a7 ?l7 ?c7 ?k7 ?a8 ?l8 ?c8 ?k8 ?a9 ?l9 ?c9 ?k9 ?a10 ?l10 ?c10 ?k10 ?a11 ?l11 ?c11 ?k11 ?a12 ?l12 ?c12 ?k12 ?a13 ?l13 ?c13 ?k13 ?a14 ?l14 ?c14 ?k14 ?a15 ?l15 ?c15 ?k15 ?a16 ?l16 ?c16 ?k16 ?a17 ?l17 ?c17 ?k17 ?a18 ?l18 ?c18 ?k18 ?q_FOUND ?r_FOUND ?q_MOST_PLACES ?r_MOST_PLACES ?q_TOLD ?r_TOLD ?z_all ?z_bool ?z_int ?z_isinstance ?z_len ?z_list ?z_range ?z_sorted ?z_str ?z_tuple ?xa_BadWay ?xe_BadWay ?xk_BadWay ?xb_BadWay ?xt_BadWay ?xa_NotesError ?xa_BadKind ?y0 ?y1 ?y2 ?y3_0 ?y3_1 ?y3_2 ?y3_3 ?y3_4 ?y3_5 ?y3_6 ?y3_7
    (case a1 => k_is)
    (case l1 => k_is)
    (case c1 => k_is)
    (case k1 => k_is)
    (case a2 => k_is)
    (case l2 => k_is)
    (case c2 => k_is)
    (case k2 => k_is)
    (case a3 => k_is)
    (case l3 => k_is)
    (case c3 => k_is)
    (case k3 => k_is)
    (case a4 => k_is)
    (case l4 => k_is)
    (case c4 => k_is)
    (case k4 => k_is)
    (case a5 => k_is)
    (case l5 => k_is)
    (case c5 => k_is)
    (case k5 => k_is)
    (case a6 => k_is)
    (case l6 => k_is)
    (case c6 => k_is)
    (case k6 => k_is)
    (case a7 => k_is)
    (case l7 => k_is)
    (case c7 => k_is)
    (case k7 => k_is)
    (case a8 => k_is)
    (case l8 => k_is)
    (case c8 => k_is)
    (case k8 => k_is)
    (case a9 => k_is)
    (case l9 => k_is)
    (case c9 => k_is)
    (case k9 => k_is)
    (case a10 => k_is)
    (case l10 => k_is)
    (case c10 => k_is)
    (case k10 => k_is)
    (case a11 => k_is)
    (case l11 => k_is)
    (case c11 => k_is)
    (case k11 => k_is)
    (case a12 => k_is)
    (case l12 => k_is)
    (case c12 => k_is)
    (case k12 => k_is)
    (case a13 => k_is)
    (case l13 => k_is)
    (case c13 => k_is)
    (case k13 => k_is)
    (case a14 => k_is)
    (case l14 => k_is)
    (case c14 => k_is)
    (case k14 => k_is)
    (case a15 => k_is)
    (case l15 => k_is)
    (case c15 => k_is)
    (case k15 => k_is)
    (case a16 => k_is)
    (case l16 => k_is)
    (case c16 => k_is)
    (case k16 => k_is)
    (case a17 => k_is)
    (case l17 => k_is)
    (case c17 => k_is)
    (case k17 => k_is)
    (case a18 => k_is)
    (case l18 => k_is)
    (case c18 => k_is)
    (case k18 => k_is)
    (case q_FOUND => k_is)
    (case r_FOUND => exact ⟨_, rfl⟩)
    (case q_MOST_PLACES => k_is)
    (case r_MOST_PLACES => exact ⟨_, rfl⟩)
    (case q_TOLD => k_is)
    (case r_TOLD => exact ⟨_, rfl⟩)
    (case z_all => k_is)
    (case z_bool => k_is)
    (case z_int => k_is)
    (case z_isinstance => k_is)
    (case z_len => k_is)
    (case z_list => k_is)
    (case z_range => k_is)
    (case z_sorted => k_is)
    (case z_str => k_is)
    (case z_tuple => k_is)
    (case xa_BadWay => k_is)
    (case xe_BadWay => k_exc)
    (case xk_BadWay => k_is)
    (case xb_BadWay => k_is)
    (case xt_BadWay => k_is)
    (case xa_NotesError => k_is)
    (case xa_BadKind => k_is)
    (case y0 => first | k_is | rfl | decide +kernel)
    (case y1 => first | k_is | rfl | decide +kernel)
    (case y2 => first | k_is | rfl | decide +kernel)
    (case y3_0 => k_is)
    (case y3_1 => k_is)
    (case y3_2 => k_is)
    (case y3_3 => k_is)
    (case y3_4 => k_is)
    (case y3_5 => k_is)
    (case y3_6 => k_is)
    (case y3_7 => k_is)
#print axioms PySem.Challenge.cw_kindnotes_k11_only_texts_of_ways_holds


