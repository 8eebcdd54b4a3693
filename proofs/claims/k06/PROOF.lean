import PyProof.Rows.All
import Wide.All
import OpenK.AllK
import Wide.FinOn
import HandS.ForMost
import HandS.ForExc
import HandS.TupAny
import HandS.IsInst
import HandS.Deep
import HandS.Flow
import HandS.Style
import HandS.Small
import HandS.SortInts
import HandS.Conv
import HandS.Codes
import KE.KRevSl
import HandS.FStr
import HandS.Defaults
import HandS.ExcIs
import HandS.MakeKwOnly
import HandS.Star
import HandS.Property
import HandS.CallSlots
import HandS.OwnIter
import KE.KOpsOwn
import HandS.IterVal
import KE.KxField
import KE.KExcSuper
import HandS.ExcInit
import HandS.ExcSuper
import HandS.ExcField
import HandS.TryOnly
import HandS.TryMany
import HandS.ClsMeth
import KE.KDictKeyed
import KE.KDictDisplayH
import KE.KeyNested
import HandS.Iter
import HandS.More
import KE.KEqDict
import HandS.Finally
import HandS.GenList
import PySem.Challenge.RW_kindnotes_k06_kinds_of_a_size
set_option Elab.async false
set_option maxRecDepth 100000
namespace Kn
open PySem L2
structure Fz (K : PySem.W.Frag) (mg : Str → Option Value) (x : Str) (st : Stmt) (ps : List Str) : Prop where
  ex : ∃ (f : Addr) (fd : FuncData), Fun K x x st f fd ∧ mg x = some (.ref f) ∧ Binds K fd ps []
structure Fx (P : Program) (w : World) (K : PySem.W.Frag) (mg : Str → Option Value) (base : Heap) (CX : CXT) (x : Str) (k : Nat) (ps : List Str) (sp : Sp) : Prop where
  ex : ∃ (f : Addr) (fd : FuncData), FnOk P w K mg base CX k f fd ps sp ∧ mg x = some (.ref f) ∧ PySem.W.keepIn K (.ref f) = true ∧ Binds K fd ps []
theorem Fx.mono {P : Program} {w : World} {K : PySem.W.Frag} {mg : Str → Option Value} {base : Heap} {CX : CXT} {x : Str} {j k : Nat} {ps : List Str} {sp : Sp} (F : Fx P w K mg base CX x j ps sp) (h : j ≤ k) : Fx P w K mg base CX x k ps sp :=
  let ⟨f, fd, a, b⟩ := F.ex
  ⟨f, fd, a.mono h, b⟩
theorem Fz.ok {P : Program} {w : World} {K : PySem.W.Frag} {mg : Str → Option Value} {base : Heap} {x : Str} {st : Stmt} {ps N : List Str} {k : Nat} {sp : Sp} (F : Fz K mg x st ps) (S : FnScope N ps (defScope st)) (len : ∀ vs H Q E, sp vs H Q E → vs.length = ps.length)
    (hbody : ∀ (f : Addr) (cdv : Value) (A : Around) (outer : List Env) (s : Shared) (H : Hp) (vs : List V) (Q : VK) (E : XK), Room k (A.deeper (PyProof.Rows.envOfC x (defScope st) s.heap.objs.size f cdv)) → sp vs H Q E →
      ∃ t, PSs (cxOf CX0 P w K mg base N x (defScope st) f cdv A outer s H E).nox (defBody st) t ∧ t { nx := fun _ H' => Q .non H', rt := Q } (start N vs) H) : Fx P w K mg base CX0 x (k + 1) ps sp := by
  obtain ⟨f, fd, F1, m, b⟩ := F.ex
  exact ⟨f, fd, F1.ok S len (hbody f), m, F1.kp, b⟩
theorem Fz.none {P : Program} {w : World} {K : PySem.W.Frag} {mg : Str → Option Value} {base : Heap} {CX : CXT} {x : Str} {st : Stmt} {ps : List Str} {k : Nat} {sp : Sp} (F : Fz K mg x st ps) (h : ∀ vs H Q E, ¬ sp vs H Q E) : Fx P w K mg base CX x k ps sp := by
  obtain ⟨f, fd, F1, m, b⟩ := F.ex
  exact ⟨f, fd, ⟨fun vs H Q E z => (h vs H Q E z).elim, fun A outer s H args us vs Q E _ _ _ _ z => (h vs H Q E z).elim⟩, m, F1.kp, b⟩
section
variable {X : Cx} {k : Nat} {ps : List Str} {sp : Sp} {E : XK} {x : Str} {p pos : Pos} {e : Expr} {es : List Expr} {t : TA} {CX : CXT}
theorem fcall (F : Fx X.prog X.w X.K X.mg X.base CX0 x k ps sp) (hr : Room k X.A) (hg : Gl X x) (ha : PA X (e :: es) t)
    (hdb : (x == ("__debug__" : Str)) = false := by decide) (he : starEach (e :: es) X.env = (false, eval e X.env) :: starEach es X.env := by rfl) (hpl : (backTo pos (starEach es X.env)).any (·.1) = false := by rfl) :
    PE X (.Call (.Name x p) (e :: es) [] pos) (tCall sp [] E0 t) := by
  obtain ⟨f, fd, F1, m, kp, b⟩ := F.ex
  exact pe_call F1 hr hg m kp b .nil pass0 ha hdb he hpl
theorem pglob {v : V} (hg : Gl X x) (h : ∃ u, X.mg x = some u ∧ RelV v u) (hd : (x == ("__debug__" : Str)) = false := by decide) : PE X (.Name x pos) (tC v) := by
  obtain ⟨u, hm, r⟩ := h
  exact pe_glob hg hm r hd
end
def Tape (H : Hp) (t : Addr) : Prop := ∃ ns : List Int, H t = some (.lst (ns.map V.int))
structure Dr (t : Addr) (H H' : Hp) : Prop where
  tape : Tape H' t
  keep : ∀ b o, H b = some o → b ≠ t → H' b = some o
theorem Dr.trans {t : Addr} {H H1 H2 : Hp} (a : Dr t H H1) (b : Dr t H1 H2) : Dr t H H2 := ⟨b.tape, fun c o h n => b.keep c o (a.keep c o h n) n⟩
theorem Dr.refl {t : Addr} {H : Hp} (a : Tape H t) : Dr t H H := ⟨a, fun _ _ h _ => h⟩
theorem Tape.ne {H : Hp} {t b : Addr} (h : Tape H t) (hb : H b = none) : t ≠ b := by
  obtain ⟨ns, h⟩ := h
  exact ne_of_none h hb
theorem Dr.new {t : Addr} {H : Hp} {p : Addr} {o : HO} (a : Tape H t) (hp : H p = none) : Dr t H (upd H p o) := by
  have n := a.ne hp
  refine ⟨?_, fun b u h nb => ?_⟩
  · obtain ⟨ns, h⟩ := a
    exact ⟨ns, by rw [upd_ne n]; exact h⟩
  · rw [upd_ne (ne_of_none h hp)]
    exact h
theorem Dr.put {t : Addr} {H : Hp} (ns : List Int) : Dr t H (upd H t (.lst (ns.map V.int))) := ⟨⟨ns, upd_same⟩, fun b o h n => by rw [upd_ne n]; exact h⟩
theorem Dr.upd {t : Addr} {H H1 : Hp} {l : Addr} {o : HO} (d : Dr t H H1) (n : t ≠ l) (hl : H l = none) : Dr t H (upd H1 l o) := by
  refine ⟨?_, fun b u h nb => ?_⟩
  · obtain ⟨ns, h⟩ := d.tape
    exact ⟨ns, by rw [upd_ne n]; exact h⟩
  · rw [upd_ne (ne_of_none h hl)]
    exact d.keep b u h nb
def spTake : Sp := fun vs H Q _ => ∃ (t : Addr) (m : Int), vs = [.ref t, .int m] ∧ Tape H t ∧ 0 < m ∧ ∀ (r : Int) (H' : Hp), 0 ≤ r → r < m → Dr t H H' → Q (.int r) H'
section
variable {X : Cx}
theorem ix_listK (K : PySem.W.Frag) (h : X.K = K := by rfl) : IxR X (rIxL K) := by subst h; exact ix_list
theorem ix_seqK (K : PySem.W.Frag) (h : X.K = K := by rfl) : IxR X (rIx K) := by subst h; exact ix_seq
theorem sl_listK (K : PySem.W.Frag) (h : X.K = K := by rfl) : SlR X (rSlL K) := by subst h; exact sl_list
theorem sl_tupAK (K : PySem.W.Frag) (h : X.K = K := by rfl) : SlR X (rSlA K) := by subst h; exact sl_tupA
theorem op_in_seqK (K : PySem.W.Frag) (h : X.K = K := by rfl) : OpR X (compareOp .In) (rIn K false) := by subst h; exact op_in_seq
theorem op_notIn_seqK (K : PySem.W.Frag) (h : X.K = K := by rfl) : OpR X (compareOp .NotIn) (rIn K true) := by subst h; exact op_notIn_seq
theorem op_catAK (K : PySem.W.Frag) (h : X.K = K := by rfl) : OpR X (binaryOp .Add) (rCatA K) := by subst h; exact op_catA
theorem call_isi1K (K : PySem.W.Frag) (h : X.K = K := by rfl) : CallR X (.builtin "isinstance") (rIsi K) := by subst h; exact call_isi
theorem op_eqDK (K : PySem.W.Frag) (hu : X.A.units + 64 < cLine) (h : X.K = K := by rfl) : OpR X (compareOp .Eq) (rEqD K) := by subst h; exact op_eqD hu
theorem op_neDK (K : PySem.W.Frag) (hu : X.A.units + 64 < cLine) (h : X.K = K := by rfl) : OpR X (compareOp .NotEq) (rNeD K) := by subst h; exact op_neD hu
theorem op_inDK (K : PySem.W.Frag) (hu : X.A.units + 65 < cLine) (h : X.K = K := by rfl) : OpR X (compareOp .In) (rInD K) := by subst h; exact op_inD hu
theorem op_notInDK (K : PySem.W.Frag) (hu : X.A.units + 65 < cLine) (h : X.K = K := by rfl) : OpR X (compareOp .NotIn) (rNotInD K) := by subst h; exact op_notInD hu
theorem cr_sumK (K : PySem.W.Frag) (hu : X.calm = true) (h : X.K = K := by rfl) : CallR X (.builtin "sum") (rSum K) := by subst h; exact cr_sum hu
theorem cr_allK (K : PySem.W.Frag) (hu : X.calm = true) (h : X.K = K := by rfl) : CallR X (.builtin "all") (rAll K) := by subst h; exact cr_all hu
def rLenSq (K : PySem.W.Frag) : List V → Hp → VK → Prop := fun xs H Q => ∃ p ys, xs = [.ref p] ∧ (SqL K H p ys ∨ SqT K H p ys) ∧ Q (.int ys.length) H
theorem call_len_seqK (K : PySem.W.Frag) (h : X.K = K := by rfl) : CallR X (.builtin "len") (rLenSq K) := by subst h; exact call_len_seq
variable {T : String} {name : Str} {id : String} {r : V → List V → Hp → VK → Prop} {o e : Expr} {es : List Expr} {to : TE} {t : TA} {apos cpos : Pos} {tg l : Expr} {tl : TE}
theorem pe_bmK (K : PySem.W.Frag) (pa : PlainAttrs T) (slot : Slot T name id) (hty : typeOf (.builtin id) = pure (.type "method_descriptor")) (hm : MtR X id r) (ho : PE X o to) (ha : PA X (e :: es) t) (h : X.K = K := by rfl)
    (hbase : attributeBase o name X.env (eval o X.env) = eval o X.env := by rfl)
    (hfew : ((backTo cpos (starEach (e :: es) X.env)).all (fun x => !x.1) && (backToKw cpos (keywordEach [] X.env)).all (fun x => x.1.isSome)
      && decide ((e :: es).length + ([] : List Keyword).length + (if ([] : List Keyword).isEmpty then 0 else 1) < 30)) = true := by rfl)
    (hline : (apos.endLine == cpos.line) = true := by rfl) (hs : starEach (e :: es) X.env = (false, eval e X.env) :: starEach es X.env := by rfl) (hplain : (backTo cpos (starEach es X.env)).any (·.1) = false := by rfl) :
    PE X (.Call (.Attribute o name apos) (e :: es) [] cpos) (tBM K T r to t) := by subst h; exact pe_bm pa slot hty hm ho ha hbase hfew hline hs hplain
end
end Kn
set_option Elab.async false
set_option maxRecDepth 100000
set_option linter.all false
namespace L2
open PySem
theorem Rd.same {H H' : Hp} {a : Addr} {u : HO} (e : Same H H') (h : Rd H a u) : Rd H' a u := by
  rcases h with h | ⟨o, h⟩
  · exact .inl (e _ _ h)
  · exact .inr ⟨o, e _ _ h⟩
theorem SqT.same {K : PySem.W.Frag} {H H' : Hp} {a : Addr} {xs : List V} (e : Same H H') (h : SqT K H a xs) : SqT K H' a xs := by
  rcases h with h | h
  · exact .inl (Rd.same e h)
  · exact .inr h
mutual
theorem Dp.same {K : PySem.W.Frag} {H H' : Hp} (e : Same H H') : ∀ (d : PyData) {v : V}, Dp K H v d → Dp K H' v d
  | .none, _, .non => .non
  | .bool b, _, .bl _ => .bl b
  | .int i, _, .int _ => .int i
  | .str x, _, .str _ => .str x
  | .list ds, _, .lst h a => .lst (Same.seq e h) (DpAll.same e ds a)
  | .tuple ds, _, .tup h a => .tup (SqT.same e h) (DpAll.same e ds a)
theorem DpAll.same {K : PySem.W.Frag} {H H' : Hp} (e : Same H H') : ∀ (ds : List PyData) {vs : List V}, DpAll K H vs ds → DpAll K H' vs ds
  | [], _, .nil => .nil
  | d :: ds, _, .cons h a => .cons (Dp.same e d h) (DpAll.same e ds a)
end
mutual
def nl : PyData → Bool
  | .list _ => false
  | .dict _ => false
  | .tuple ds => nlAll ds
  | _ => true
def nlAll : List PyData → Bool
  | [] => true
  | d :: ds => nl d && nlAll ds
end
def Tups (H H' : Hp) : Prop := ∀ b xs, Rd H b (.tup xs) → Rd H' b (.tup xs)
theorem Same.tups {H H' : Hp} (e : Same H H') : Tups H H' := fun _ _ h => Rd.same e h
theorem Tups.trans {H H1 H2 : Hp} (a : Tups H H1) (b : Tups H1 H2) : Tups H H2 := fun c xs h => b c xs (a c xs h)
theorem Tups.refl (H : Hp) : Tups H H := fun _ _ h => h
theorem tups_of {H H' : Hp} {t : Addr} {ys : List V} (ht : H t = some (.lst ys)) (k : ∀ b o, H b = some o → b ≠ t → H' b = some o) : Tups H H' := fun b xs h => by
  rcases h with h | ⟨o, h⟩
  · exact .inl (k _ _ h (ne_of h ht (by intro z; cases z)))
  · exact .inr ⟨o, k _ _ h (ne_of h ht (by intro z; cases z))⟩
theorem same_new {H : Hp} {t : Addr} {o : HO} (ht : H t = none) : Same H (upd H t o) := fun b u h => by rw [upd_ne (ne_of_none h ht)]; exact h
mutual
theorem Dp.tups {K : PySem.W.Frag} {H H' : Hp} (e : Tups H H') : ∀ (d : PyData) {v : V}, nl d = true → Dp K H v d → Dp K H' v d
  | .none, _, _, .non => .non
  | .bool b, _, _, .bl _ => .bl b
  | .int i, _, _, .int _ => .int i
  | .str x, _, _, .str _ => .str x
  | .list _, _, n, _ => by simp [nl] at n
  | .dict _, _, n, _ => by simp [nl] at n
  | .tuple ds, _, n, .tup h a => by
    rw [nl] at n
    refine .tup ?_ (DpAll.tups e ds n a)
    rcases h with h | h
    · exact .inl (e _ _ h)
    · exact .inr h
theorem DpAll.tups {K : PySem.W.Frag} {H H' : Hp} (e : Tups H H') : ∀ (ds : List PyData) {vs : List V}, nlAll ds = true → DpAll K H vs ds → DpAll K H' vs ds
  | [], _, _, .nil => .nil
  | d :: ds, _, n, .cons h a => by
    rw [nlAll, Bool.and_eq_true] at n
    exact .cons (Dp.tups e d n.1 h) (DpAll.tups e ds n.2 a)
end
theorem DpAll.len {K : PySem.W.Frag} {H : Hp} : ∀ {vs : List V} {ds : List PyData}, DpAll K H vs ds → vs.length = ds.length
  | _, _, .nil => rfl
  | _, _, .cons _ a => by simp [DpAll.len a]
theorem DpAll.get {K : PySem.W.Frag} {H : Hp} : ∀ {vs : List V} {ds : List PyData} {i : Nat} {v : V}, DpAll K H vs ds → vs[i]? = some v → ∃ d, ds[i]? = some d ∧ Dp K H v d
  | _, _, _, _, .nil, e => by simp at e
  | _, _, 0, _, .cons h _, e => by simp at e; subst e; exact ⟨_, rfl, h⟩
  | _, _, i + 1, v, .cons _ a, e => by
    obtain ⟨d, h1, h2⟩ := DpAll.get (i := i) (v := v) a (by simpa using e)
    exact ⟨d, by simpa using h1, h2⟩
theorem DpAll.snoc {K : PySem.W.Frag} {H : Hp} : ∀ {vs : List V} {ds : List PyData} {v : V} {d : PyData}, DpAll K H vs ds → Dp K H v d → DpAll K H (vs ++ [v]) (ds ++ [d])
  | _, _, _, _, .nil, h => .cons h .nil
  | _, _, _, _, .cons g a, h => .cons g (DpAll.snoc a h)
theorem DpAll.app {K : PySem.W.Frag} {H : Hp} : ∀ {vs ws : List V} {ds es : List PyData}, DpAll K H vs ds → DpAll K H ws es → DpAll K H (vs ++ ws) (ds ++ es)
  | _, _, _, _, .nil, h => h
  | _, _, _, _, .cons g a, h => .cons g (DpAll.app a h)
theorem DpAll.ints_inv {K : PySem.W.Frag} {H : Hp} : ∀ {ns : List Int} {vs : List V}, DpAll K H vs (ns.map PyData.int) → vs = ns.map V.int
  | [], _, .nil => rfl
  | n :: ns, _, .cons (.int _) a => by rw [DpAll.ints_inv a]; rfl
theorem DpAll.take {K : PySem.W.Frag} {H : Hp} : ∀ (n : Nat) {vs : List V} {ds : List PyData}, DpAll K H vs ds → DpAll K H (vs.take n) (ds.take n)
  | 0, _, _, _ => by simp; exact .nil
  | _ + 1, _, _, .nil => .nil
  | n + 1, _, _, .cons h a => .cons h (DpAll.take n a)
theorem DpAll.drop {K : PySem.W.Frag} {H : Hp} : ∀ (n : Nat) {vs : List V} {ds : List PyData}, DpAll K H vs ds → DpAll K H (vs.drop n) (ds.drop n)
  | 0, _, _, a => a
  | _ + 1, _, _, .nil => .nil
  | n + 1, _, _, .cons _ a => DpAll.drop n a
end L2
namespace Kn
open PySem L2
theorem Dr.tups {t : Addr} {H H' : Hp} (h : Tape H t) (d : Dr t H H') : Tups H H' := by
  obtain ⟨ns, h⟩ := h
  exact tups_of h d.keep
def tyD : PyData → String
  | .none => "NoneType"
  | .bool _ => "bool"
  | .int _ => "int"
  | .str _ => "str"
  | .list _ => "list"
  | .tuple _ => "tuple"
  | .dict _ => "dict"
theorem Dp.ty {K : PySem.W.Frag} {H : Hp} : ∀ {v : V} {d : PyData}, Dp K H v d → TyX K H v (.type (tyD d))
  | _, _, .non => .base .non
  | _, _, .bl b => .base (.bl b)
  | _, _, .int i => .base (.int i)
  | _, _, .str x => .base (.str x)
  | _, _, .lst h _ => by
    rcases h with (h | ⟨o, h⟩) | ⟨o, its, n, h, c, _⟩
    · exact .base (.lst h)
    · exact .base (.frz h)
    · exact .kList h c
  | _, _, .tup h _ => by
    rcases h with (h | ⟨o, h⟩) | ⟨o, its, n, h, c, _⟩
    · exact .base (.tup h)
    · exact .fTuple h
    · exact .kTuple h c
theorem sIx_nat {n d i : Nat} {z : Int} (e : z = (i : Int)) (h : i ≤ n) : HT.sIx n d (some z) = i := by
  subst e
  rw [show HT.sIx n d (some (i : Int)) = (if (i : Int) < 0 then ((i : Int) + (n : Int)).toNat else min (i : Int).toNat n) from rfl, if_neg (by omega)]
  omega
def Hid (A : List Addr) (H : Hp) : Hp := fun b => if b ∈ A then none else H b
theorem Hid.get {A : List Addr} {H : Hp} {b : Addr} {o : HO} (h : H b = some o) (n : b ∉ A) : Hid A H b = some o := by unfold Hid; rw [if_neg n]; exact h
theorem Hid.of {A : List Addr} {H : Hp} {b : Addr} {o : HO} (h : Hid A H b = some o) : H b = some o ∧ b ∉ A := by
  unfold Hid at h
  by_cases c : b ∈ A
  · rw [if_pos c] at h; cases h
  · rw [if_neg c] at h; exact ⟨h, c⟩
theorem Hid.sub {A : List Addr} {H : Hp} : Same (Hid A H) H := fun b o h => (Hid.of h).1
theorem Hid.keep {A : List Addr} {H H' : Hp} (k : ∀ b o, H b = some o → b ∉ A → H' b = some o) : Same (Hid A H) (Hid A H') := fun b o h => Hid.get (k b o (Hid.of h).1 (Hid.of h).2) (Hid.of h).2
theorem Hid.same {A : List Addr} {H H' : Hp} (e : Same H H') : Same (Hid A H) (Hid A H') := Hid.keep fun b o h _ => e b o h
theorem Hid.upd {A : List Addr} {H : Hp} {a : Addr} {o : HO} (ha : a ∈ A) : Same (Hid A H) (Hid A (upd H a o)) := Hid.keep fun b u h n => by
  have nb : b ≠ a := fun z => n (by rw [z]; exact ha)
  rw [upd_ne nb]; exact h
section
variable {K : PySem.W.Frag} {a : Addr} {xs : List V} {g : TG} {tt : TT} {te : TE} {vs : List Nat} {σ : St} {H1 : Hp} {D : Addr} {Qd : Hp → Prop}
end
structure Lay (n : Nat) (d : PyData) : Prop where
  can : d.canLay0 = true
  dep : d.depth ≤ n
theorem Lay.mono {m n : Nat} {d : PyData} (h : Lay m d) (k : m ≤ n) : Lay n d := ⟨h.can, Nat.le_trans h.dep k⟩
theorem Lay.non (n : Nat) : Lay n .none := ⟨by simp [PyData.canLay0], by simp [PyData.depth]⟩
theorem Lay.bl (n : Nat) (b : Bool) : Lay n (.bool b) := ⟨by simp [PyData.canLay0], by simp [PyData.depth]⟩
theorem Lay.int (n : Nat) (i : Int) : Lay n (.int i) := ⟨by simp [PyData.canLay0], by simp [PyData.depth]⟩
theorem Lay.str (n : Nat) {x : Str} (h : PyData.strOk x = true) : Lay n (.str x) := ⟨by simpa [PyData.canLay0] using h, by simp [PyData.depth]⟩
theorem lay_all {n : Nat} : ∀ {ds : List PyData}, (∀ d ∈ ds, Lay n d) → PyData.canLayAll0 ds = true ∧ PyData.depthAll ds ≤ n
  | [], _ => ⟨by simp [PyData.canLayAll0], by simp [PyData.depthAll]⟩
  | d :: ds, h => by
    obtain ⟨h1, h2⟩ := lay_all (ds := ds) fun e he => h e (by simp [he])
    have h3 := h d (by simp)
    refine ⟨by rw [PyData.canLayAll0, h3.can, h1]; rfl, ?_⟩
    rw [PyData.depthAll]
    have := h3.dep
    omega
theorem Lay.tup {n : Nat} {ds : List PyData} (h : ∀ d ∈ ds, Lay n d) : Lay (n + 1) (.tuple ds) := by
  obtain ⟨h1, h2⟩ := lay_all h
  refine ⟨by rw [PyData.canLay0]; exact h1, ?_⟩
  rw [PyData.depth]; omega
theorem Lay.lst {n : Nat} {ds : List PyData} (h : ∀ d ∈ ds, Lay n d) : Lay (n + 1) (.list ds) := by
  obtain ⟨h1, h2⟩ := lay_all h
  refine ⟨by rw [PyData.canLay0]; exact h1, ?_⟩
  rw [PyData.depth]; omega
theorem Lay.shaped {n : Nat} {d : PyData} (h : Lay n d) (k : n ≤ 64 := by decide) : SeqAt.shaped d = true := by
  have := h.dep
  unfold SeqAt.shaped
  rw [h.can, decide_eq_true (show d.depth ≤ 64 by omega)]; rfl
end Kn
set_option Elab.async false
set_option maxRecDepth 100000
set_option linter.all false
namespace Kn
open PySem L2
section
open PySem.Spec PyProof.Rows
variable {prog : Program} {w : World} {A : Around} {E : Value → Shared → Prop} {s : Shared}
end
section
open PySem.Spec
variable {X : Cx} {e k : Expr} {te : TE} {tk : TO} {pos p2 : Pos}
end
end Kn
set_option Elab.async false
set_option maxRecDepth 100000
set_option linter.all false
namespace Kn
open PySem L2
def SqS (K : PySem.W.Frag) (H : Hp) (a : Addr) (xs : List V) : Prop := SqL K H a xs ∨ SqT K H a xs
theorem SqS.same {K : PySem.W.Frag} {H H' : Hp} {a : Addr} {xs : List V} (e : Same H H') (h : SqS K H a xs) : SqS K H' a xs := by
  rcases h with h | h
  · exact .inl (Same.seq e h)
  · exact .inr (SqT.same e h)
section
variable {X : Cx} {tg l : Expr} {tl : TE}
end
section
variable {X : Cx} {CX : CXT} {k : Nat} {f : Addr} {fd : FuncData} {ps ks : List Str} {sp : Sp} {E : XK} {x : Str} {p pos : Pos} {kws : List Keyword} {tk : TA} {g : List Value → List Value → List Value} {gV : List V → List V → List V}
end
end Kn
set_option Elab.async false
set_option maxRecDepth 100000
set_option linter.all false
namespace Kn
open PySem L2
def clsA (mg : Str → Option Value) (x : Str) : Addr := match mg x with
  | some (.ref a) => a
  | _ => 0
theorem clsA_of {mg : Str → Option Value} {x : Str} {a : Addr} (h : mg x = some (.ref a)) : clsA mg x = a := by unfold clsA; rw [h]
structure ExcF (K : PySem.W.Frag) (mg : Str → Option Value) (x : Str) : Prop where
  g : mg x = some (.ref (clsA mg x))
  ex : PySem.W.excIn K (clsA mg x) [.type "ValueError", .type "Exception", .type "BaseException", .type "object"] "ValueError.__new__" = true
  k : PySem.W.keepIn K (.ref (clsA mg x)) = true
  b : PySem.W.subIn K (.ref (clsA mg x)) (.type "BaseException") = some true
  t : PySem.W.typeIn K (.ref (clsA mg x)) = some (.type "type")
theorem Fz.okX {P : Program} {w : World} {K : PySem.W.Frag} {mg : Str → Option Value} {base : Heap} {x : Str} {st : Stmt} {ps N : List Str} {k : Nat} {sp : Sp} (F : Fz K mg x st ps) (S : FnScope N ps (defScope st)) (len : ∀ vs H Q E, sp vs H Q E → vs.length = ps.length)
    (hbody : ∀ (f : Addr) (cdv : Value) (A : Around) (outer : List Env) (s : Shared) (H : Hp) (vs : List V) (Q : VK) (E : XK), Room k (A.deeper (PyProof.Rows.envOfC x (defScope st) s.heap.objs.size f cdv)) → sp vs H Q E →
      ∃ t, PSs (cxOf (L2.CX P w) P w K mg base N x (defScope st) f cdv A outer s H E) (defBody st) t ∧ t { nx := fun _ H' => Q .non H', rt := Q } (start N vs) H) : Fx P w K mg base (L2.CX P w) x (k + 1) ps sp := by
  obtain ⟨f, fd, F1, m, b⟩ := F.ex
  exact ⟨f, fd, F1.okX S len (hbody f), m, F1.kp, b⟩
structure FzB (K : PySem.W.Frag) (mg : Str → Option Value) (x : Str) (st : Stmt) (B : FuncData → Prop) : Prop where
  ex : ∃ (f : Addr) (fd : FuncData), Fun K x x st f fd ∧ mg x = some (.ref f) ∧ B fd
structure FxB (P : Program) (w : World) (K : PySem.W.Frag) (mg : Str → Option Value) (base : Heap) (CX : CXT) (x : Str) (k : Nat) (ps : List Str) (sp : Sp) (B : FuncData → Prop) : Prop where
  ex : ∃ (f : Addr) (fd : FuncData), FnOk P w K mg base CX k f fd ps sp ∧ mg x = some (.ref f) ∧ PySem.W.keepIn K (.ref f) = true ∧ B fd
theorem FzB.okX {P : Program} {w : World} {K : PySem.W.Frag} {mg : Str → Option Value} {base : Heap} {x : Str} {st : Stmt} {ps N : List Str} {k : Nat} {sp : Sp} {B : FuncData → Prop} (F : FzB K mg x st B) (S : FnScope N ps (defScope st)) (len : ∀ vs H Q E, sp vs H Q E → vs.length = ps.length)
    (hbody : ∀ (f : Addr) (cdv : Value) (A : Around) (outer : List Env) (s : Shared) (H : Hp) (vs : List V) (Q : VK) (E : XK), Room k (A.deeper (PyProof.Rows.envOfC x (defScope st) s.heap.objs.size f cdv)) → sp vs H Q E →
      ∃ t, PSs (cxOf (L2.CX P w) P w K mg base N x (defScope st) f cdv A outer s H E) (defBody st) t ∧ t { nx := fun _ H' => Q .non H', rt := Q } (start N vs) H) : FxB P w K mg base (L2.CX P w) x (k + 1) ps sp B := by
  obtain ⟨f, fd, F1, m, b⟩ := F.ex
  exact ⟨f, fd, F1.okX S len (hbody f), m, F1.kp, b⟩
section
variable {X : Cx} {k : Nat} {ps ks : List Str} {sp : Sp} {x : Str} {p pos : Pos} {kws : List Keyword} {tk : TA} {B : FuncData → Prop} {gV : List V → List V → List V} {CX : CXT} {E : XK}
end
section
variable {X : Cx} {k : Nat} {ps : List Str} {sp : Sp} {E : XK} {x : Str} {p pos : Pos} {e : Expr} {es : List Expr} {t : TA}
theorem fcallX {W : WX} (tk : Takes X W) (F : Fx X.prog X.w X.K X.mg X.base (L2.CX X.prog X.w) x k ps sp) (hr : Room k X.A) (hg : Gl X x) (ha : PA X (e :: es) t)
    (hdb : (x == ("__debug__" : Str)) = false := by decide) (he : starEach (e :: es) X.env = (false, eval e X.env) :: starEach es X.env := by rfl) (hpl : (backTo pos (starEach es X.env)).any (·.1) = false := by rfl) :
    PE X (.Call (.Name x p) (e :: es) [] pos) (tCallS sp (WE W) t) := by
  obtain ⟨f, fd, F1, m, kp, b⟩ := F.ex
  exact pe_callS F1 hr hg m kp b (fun σ => passAt tk σ) ha hdb he hpl
end
section
variable {X : Cx} {k n : Nat} {f : Addr} {fd : FuncData} {ps ks : List Str} {sp : Sp} {E : St → XK} {x : Str} {p pos : Pos} {kws : List Keyword} {tk : TA} {B : FuncData → Prop} {g : List Value → List Value → List Value} {gV : List V → List V → List V} {CX : CXT}
end
end Kn
set_option Elab.async false
set_option maxRecDepth 100000
set_option linter.all false
namespace Kn
open PySem L2
structure FxR (P : Program) (w : World) (K : PySem.W.Frag) (mg : Str → Option Value) (base : Heap) (CX : CXT) (x : Str) (k : Nat) (sp : Sp) : Prop where
  ex : ∃ f : Addr, FnR P w K mg base CX k f sp ∧ mg x = some (.ref f) ∧ PySem.W.keepIn K (.ref f) = true
structure FzS (K : PySem.W.Frag) (mg : Str → Option Value) (x : Str) (st : Stmt) (ps : List Str) (pv : Str) : Prop where
  ex : ∃ (f : Addr) (fd : FuncData), Fun K x x st f fd ∧ mg x = some (.ref f) ∧ ∀ us rest : List Value, us.length = ps.length → bindArgs fd ⟨us ++ rest, []⟩ = (newTuple rest >>= fun t => pure (ps.zip us ++ [(pv, t)]))
def starSp (n : Nat) (sp : Sp) : Sp := fun vs H Q E => ∃ ws rest, vs = ws ++ rest ∧ ws.length = n ∧ rest.length ≤ sizeLine ∧ ∀ p, H p = none → sp (ws ++ [V.ref p]) (upd H p (.tup rest)) Q E
theorem FzS.okX {P : Program} {w : World} {K : PySem.W.Frag} {mg : Str → Option Value} {base : Heap} {x pv : Str} {st : Stmt} {ps N : List Str} {k : Nat} {sp : Sp} (F : FzS K mg x st ps pv) (S : FnScope N (ps ++ [pv]) (defScope st))
    (hbody : ∀ (f : Addr) (cdv : Value) (A : Around) (outer : List Env) (s : Shared) (H : Hp) (vs : List V) (Q : VK) (E : XK), Room k (A.deeper (PyProof.Rows.envOfC x (defScope st) s.heap.objs.size f cdv)) → sp vs H Q E →
      ∃ t, PSs (cxOf (L2.CX P w) P w K mg base N x (defScope st) f cdv A outer s H E) (defBody st) t ∧ t { nx := fun _ H' => Q .non H', rt := Q } (start N vs) H) : FxR P w K mg base (L2.CX P w) x (k + 1) (starSp ps.length sp) := by
  obtain ⟨f, fd, F1, m, b⟩ := F.ex
  obtain ⟨oc, od, kV, doc, pm, an, cdv, ct, osl, rfl, lk, hcd⟩ := F1.ex
  exact ⟨f, StX.fn_star lk hcd S StX.cxUp b (hbody f cdv), m, F1.kp⟩
section
variable {X : Cx} {CX : CXT} {k : Nat} {sp : Sp} {x : Str} {p pos : Pos} {e : Expr} {es : List Expr} {t : TA}
end
end Kn
set_option Elab.async false
set_option maxRecDepth 100000
set_option linter.all false
namespace Kn
open PySem L2
def FunC (K : PySem.W.Frag) (m qual : Str) (st : Stmt) (f : Addr) (fd : FuncData) : Prop := ∃ dv kw, FunD K m qual (defArgs st) (defBody st) (defScope st) dv kw f fd
theorem FunC.okX {P : Program} {w : World} {K : PySem.W.Frag} {mg : Str → Option Value} {base : Heap} {m qual : Str} {st : Stmt} {f : Addr} {fd : FuncData} {ps N : List Str} {k : Nat} {sp : Sp} (F : FunC K m qual st f fd) (S : FnScope N ps (defScope st)) (len : ∀ vs H Q E, sp vs H Q E → vs.length = ps.length)
    (hbody : ∀ (cdv : Value) (A : Around) (outer : List Env) (s : Shared) (H : Hp) (vs : List V) (Q : VK) (E : XK), Room k (A.deeper (PyProof.Rows.envOfC qual (defScope st) s.heap.objs.size f cdv)) → sp vs H Q E →
      ∃ t, PSs (cxOf (L2.CX P w) P w K mg base N qual (defScope st) f cdv A outer s H E) (defBody st) t ∧ t { nx := fun _ H' => Q .non H', rt := Q } (start N vs) H) : FnOk P w K mg base (L2.CX P w) (k + 1) f fd ps sp := by
  obtain ⟨dv, kw, F⟩ := F
  exact F.ok S len hbody
structure Mz (K : PySem.W.Frag) (C : Addr) (m qual : Str) (st : Stmt) (ps : List Str) (dvs : List V) : Prop where
  ex : ∃ (f : Addr) (fd : FuncData) (ds : List Value), FunC K m qual st f fd ∧ Meth K C m f ∧ Binds K fd ps ds ∧ Vals dvs ds
structure Mx (P : Program) (w : World) (K : PySem.W.Frag) (mg : Str → Option Value) (base : Heap) (C : Addr) (m : Str) (k : Nat) (ps : List Str) (dvs : List V) (sp : Sp) : Prop where
  ex : ∃ (f : Addr) (fd : FuncData) (ds : List Value), FnOk P w K mg base (L2.CX P w) k f fd ps sp ∧ Meth K C m f ∧ Binds K fd ps ds ∧ Vals dvs ds
theorem Mz.okX {P : Program} {w : World} {K : PySem.W.Frag} {mg : Str → Option Value} {base : Heap} {C : Addr} {m qual : Str} {st : Stmt} {ps N : List Str} {dvs : List V} {k : Nat} {sp : Sp} (F : Mz K C m qual st ps dvs) (S : FnScope N ps (defScope st)) (len : ∀ vs H Q E, sp vs H Q E → vs.length = ps.length)
    (hbody : ∀ (f : Addr) (cdv : Value) (A : Around) (outer : List Env) (s : Shared) (H : Hp) (vs : List V) (Q : VK) (E : XK), Room k (A.deeper (PyProof.Rows.envOfC qual (defScope st) s.heap.objs.size f cdv)) → sp vs H Q E →
      ∃ t, PSs (cxOf (L2.CX P w) P w K mg base N qual (defScope st) f cdv A outer s H E) (defBody st) t ∧ t { nx := fun _ H' => Q .non H', rt := Q } (start N vs) H) : Mx P w K mg base C m (k + 1) ps dvs sp := by
  obtain ⟨f, fd, ds, F1, m, b, v⟩ := F.ex
  exact ⟨f, fd, ds, F1.okX S len (hbody f), m, b, v⟩
def tMakeX (C : Addr) (sp : Sp) (dvs : List V) (E : St → XK) (t : TA) : TE := fun σ H Q => t σ H fun vs H1 => ∀ x dx, H1 x = none → H1 dx = none → dx ≠ x →
  sp (.ref x :: (vs ++ dvs)) (upd (upd H1 dx (.own x)) x (.ins C dx [])) (fun v H2 => v = .non ∧ Q (.ref x) H2) (E σ)
section
variable {X : Cx} {k : Nat} {C : Addr} {ps : List Str} {sp : Sp} {dvs : List V} {x m : Str} {p pos apos : Pos} {e o : Expr} {es : List Expr} {ta : TE} {t : TA} {W : WX}
end
structure Kz (K : PySem.W.Frag) (C : Addr) (qual : Str) (st : Stmt) (ps : List Str) (dvs : List V) : Prop where
  ex : ∃ (f : Addr) (fd : FuncData) (ds : List Value), FunC K "__init__" qual st f fd ∧ Mk K C f ∧ Binds K fd ps ds ∧ Vals dvs ds
structure Kx (P : Program) (w : World) (K : PySem.W.Frag) (mg : Str → Option Value) (base : Heap) (C : Addr) (k : Nat) (ps : List Str) (dvs : List V) (sp : Sp) : Prop where
  ex : ∃ (f : Addr) (fd : FuncData) (ds : List Value), FnOk P w K mg base (L2.CX P w) k f fd ps sp ∧ Mk K C f ∧ Binds K fd ps ds ∧ Vals dvs ds
theorem Kz.okX {P : Program} {w : World} {K : PySem.W.Frag} {mg : Str → Option Value} {base : Heap} {C : Addr} {qual : Str} {st : Stmt} {ps N : List Str} {dvs : List V} {k : Nat} {sp : Sp} (F : Kz K C qual st ps dvs) (S : FnScope N ps (defScope st)) (len : ∀ vs H Q E, sp vs H Q E → vs.length = ps.length)
    (hbody : ∀ (f : Addr) (cdv : Value) (A : Around) (outer : List Env) (s : Shared) (H : Hp) (vs : List V) (Q : VK) (E : XK), Room k (A.deeper (PyProof.Rows.envOfC qual (defScope st) s.heap.objs.size f cdv)) → sp vs H Q E →
      ∃ t, PSs (cxOf (L2.CX P w) P w K mg base N qual (defScope st) f cdv A outer s H E) (defBody st) t ∧ t { nx := fun _ H' => Q .non H', rt := Q } (start N vs) H) : Kx P w K mg base C (k + 1) ps dvs sp := by
  obtain ⟨f, fd, ds, F1, m, b, v⟩ := F.ex
  exact ⟨f, fd, ds, F1.okX S len (hbody f), m, b, v⟩
section
variable {X : Cx} {CX : CXT} {k : Nat} {f C : Addr} {fd : FuncData} {ps : List Str} {sp : Sp} {dvs : List V} {ds : List Value} {E : St → XK} {x : Str} {p pos : Pos} {e : Expr} {es : List Expr} {t : TA} {W : WX}
theorem run_makeAt {pins : List (Addr × Obj)} {σ : St} {H : Hp} {s : Shared} {Q : VK} {us : List Value} {vs : List V} (M : Mk X.K C f) (F : FnOk X.prog X.w X.K X.mg X.base CX k f fd ps sp) (hr : Room (k + 1) X.A) (hb : Binds X.K fd ps ds) (hd : Vals dvs ds)
    (hx : PassesAt CX X σ (E σ)) (I : Inv X pins σ H s) (r : Vals vs us)
    (h : ∀ x dx, H x = none → H dx = none → dx ≠ x → sp (.ref x :: (vs ++ dvs)) (upd (upd H dx (.own x)) x (.ins C dx [])) (fun v H2 => v = .non ∧ Q (.ref x) H2) (E σ)) :
    wpAny (model X.prog X.w) X.A (call (.ref C) us) (EP X pins σ Q) X.xe s := by
  have hq := h (s.heap.objs.size + 1) s.heap.objs.size (I.hok.fresh (Nat.le_succ _)) (I.hok.fresh (Nat.le_refl _)) (Nat.ne_of_lt (Nat.lt_succ_self _))
  have I2 := Inv.made (C := C) I
  have r2 : Vals (V.ref (s.heap.objs.size + 1) :: (vs ++ dvs)) (Value.ref (s.heap.objs.size + 1) :: (us ++ ds)) := .cons rfl (r.append hd)
  have hl : (Value.ref (s.heap.objs.size + 1) :: us ++ ds).length = ps.length := (r2.length.symm.trans (F.len _ _ _ _ hq) :)
  refine wpAny_call (make_map (f := f) I.kIn M.makes M.init (beq_iff_eq.mp M.fn) (codeAny_mono (F.run _ X.stack _ _ ⟨Value.ref (s.heap.objs.size + 1) :: us, []⟩ (Value.ref (s.heap.objs.size + 1) :: (us ++ ds)) _ _ (E σ) (hr.make C us [])
    (I2.env0.make C us []) (hb _ (Value.ref (s.heap.objs.size + 1) :: us) I2.kIn hl) r2 hq) fun fl s' hq' => ?_))
  match fl, hq' with
  | .error e, hq' => exact hx pins _ _ e s' I2 hq'
  | .ok (.ret u), hq' =>
    obtain ⟨v, H', I3, rv, ev, q3⟩ := I2.after hq'
    subst ev
    exact ⟨rv, ⟨V.ref (s.heap.objs.size + 1), H', I3, rfl, q3⟩⟩
  | .ok .next, hq' => exact hq'.elim
  | .ok .brk, hq' => exact hq'.elim
  | .ok .cont, hq' => exact hq'.elim
theorem makeX (tk : Takes X W) (M : Kx X.prog X.w X.K X.mg X.base C k ps dvs sp) (hr : Room (k + 1) X.A) (hg : Gl X x) (hm : X.mg x = some (.ref C)) (ha : PA X (e :: es) t)
    (hdb : (x == ("__debug__" : Str)) = false := by decide) (he : starEach (e :: es) X.env = (false, eval e X.env) :: starEach es X.env := by rfl) (hpl : (backTo pos (starEach es X.env)).any (·.1) = false := by rfl) :
    PE X (.Call (.Name x p) (e :: es) [] pos) (tMakeX C sp dvs (WE W) t) := by
  obtain ⟨f, fd, ds, F, M, hb, hd⟩ := M.ex
  refine ⟨fun pins s σ H Q I h => ?_⟩
  refine wpAny_Call_Name_kw (ld_glob I hg hm ?_ hdb)
  refine PySem.W.callWith_K (h₀ := X.base) I.ok.mod.kin M.kp (thn (ha.run pos pins s σ H _ I h) fun us s1 ⟨vs, H1, I1, r, q⟩ => ⟨I1.kIn, ?_⟩) he hpl
  exact run_makeAt (E := WE W) M F hr hb hd (passAt tk σ) I1 r q
end
structure Fd (K : PySem.W.Frag) (C : Addr) (f : Str) : Prop where
  c : Cls K C
  n : NoAttr K C f
def tFldC (C : Addr) (f : Str) (ta : TE) : TE := fun σ H Q => ta σ H fun x H1 => ∃ a dx fs v, x = .ref a ∧ H1 a = some (.ins C dx fs) ∧ fs.lookup f = some v ∧ Q v H1
def sFldC (C : Addr) (f : Str) (ta tv : TE) : TS := fun D σ H => tv σ H fun y H1 => ta σ H1 fun x H2 => ∃ a dx fs, x = .ref a ∧ H2 a = some (.ins C dx fs) ∧ fs.length < 1000 ∧ D.nx σ (upd H2 a (.ins C dx (putF f y fs)))
section
variable {X : Cx} {C : Addr} {o e value : Expr} {f : Str} {pos pos' : Pos} {ta tv : TE}
theorem fldX (h : Fd X.K C f) (he : PE X e ta) (hb : attributeBase e f X.env (eval e X.env) = eval e X.env := by rfl) : PE X (.Attribute e f pos) (tFldC C f ta) := by
  refine ⟨fun pins s σ H Q I q => ?_⟩
  refine attr_of hb (thn (he.run pins s σ H _ I q) fun u s1 ⟨x, H1, I1, rx, a, dx, fs, v, ex, ea, l, q⟩ => ?_)
  subst ex
  obtain rfl : u = Value.ref a := rx
  exact getattr_ok I1 ea h.c h.n l fun u' s2 I2 ru => ⟨v, H1, I2, ru, q⟩
theorem setX (h : Fd X.K C f) (ha : PE X o ta) (hv : PE X value tv) (hs : swapsWith value (some (.Attribute o f pos')) pos.line X.env = pure false := by rfl) : PS X (.Assign [.Attribute o f pos'] value pos) (sFldC C f ta tv) := by
  refine ⟨fun pins s σ H D I q => ?_⟩
  refine plainObj_wpAny_Assign_Attribute (thn (hv.run pins s σ H _ I q) fun u s1 ⟨y, H1, I1, ry, q⟩ => thn (ha.run pins s1 σ H1 _ I1 q) fun ov s2 ⟨x, H2, I2, rx, a, dx, fs, ex, ea, l, q2⟩ => ?_) hs
  subst ex
  obtain rfl : ov = Value.ref a := rx
  exact setattr_ok I2 ea h.c h.n l ry fun s3 I3 => ⟨σ, _, I3, q2⟩
end
structure Pz (K : PySem.W.Frag) (C : Addr) (m qual : Str) (st : Stmt) (ps : List Str) : Prop where
  ex : ∃ (f : Addr) (fd : FuncData) (p : Addr), FunC K m qual st f fd ∧ PropOf K C m p f ∧ Binds K fd ps []
structure Pp (P : Program) (w : World) (K : PySem.W.Frag) (mg : Str → Option Value) (base : Heap) (C : Addr) (m : Str) (k : Nat) (ps : List Str) (sp : Sp) : Prop where
  ex : ∃ (f : Addr) (fd : FuncData) (p : Addr), FnOk P w K mg base (L2.CX P w) k f fd ps sp ∧ PropOf K C m p f ∧ Binds K fd ps []
theorem Pz.okX {P : Program} {w : World} {K : PySem.W.Frag} {mg : Str → Option Value} {base : Heap} {C : Addr} {m qual : Str} {st : Stmt} {ps N : List Str} {k : Nat} {sp : Sp} (F : Pz K C m qual st ps) (S : FnScope N ps (defScope st)) (len : ∀ vs H Q E, sp vs H Q E → vs.length = ps.length)
    (hbody : ∀ (f : Addr) (cdv : Value) (A : Around) (outer : List Env) (s : Shared) (H : Hp) (vs : List V) (Q : VK) (E : XK), Room k (A.deeper (PyProof.Rows.envOfC qual (defScope st) s.heap.objs.size f cdv)) → sp vs H Q E →
      ∃ t, PSs (cxOf (L2.CX P w) P w K mg base N qual (defScope st) f cdv A outer s H E) (defBody st) t ∧ t { nx := fun _ H' => Q .non H', rt := Q } (start N vs) H) : Pp P w K mg base C m (k + 1) ps sp := by
  obtain ⟨f, fd, p, F1, m, b⟩ := F.ex
  exact ⟨f, fd, p, F1.okX S len (hbody f), m, b⟩
end Kn
set_option Elab.async false
set_option maxRecDepth 100000
set_option linter.all false
namespace Kn
open PySem L2 PySem.Spec
theorem FunC.fnIn {K : PySem.W.Frag} {m qual : Str} {st : Stmt} {f : Addr} {fd : FuncData} (F : FunC K m qual st f fd) : PySem.W.fnIn K f = true := by
  obtain ⟨dv, kw, F⟩ := F
  obtain ⟨⟨_, _, _, _, _, _, _, _, _, _, e, l, _⟩, _⟩ := F
  unfold PySem.W.fnIn
  rw [l]
section
variable {X : Cx} {k : Nat} {C : Addr} {ps : List Str} {sp : Sp} {m : Str} {pos pos' : Pos} {o i value : Expr} {to ti tv : TE} {W : WX}
end
end Kn
set_option Elab.async false
set_option maxRecDepth 100000
set_option linter.all false
namespace Kn
open PySem L2 PySem.Spec
end Kn
set_option Elab.async false
set_option maxRecDepth 100000
set_option linter.all false
namespace Kn
open PySem L2 PySem.Spec
end Kn
set_option Elab.async false
set_option maxRecDepth 100000
set_option linter.all false
namespace Kn
open PySem L2 PySem.Spec PySem.Calls PyProof.Rows
section
variable {prog : Program} {w : World} {A : Around} {E : Value → Shared → Prop} {s : Shared} {K : PySem.W.Frag} {x C L f : Addr} {h₀ : Heap} {m : Str → Option Value} {ox : Obj} {od : Option Obj}
end
end Kn
set_option Elab.async false
set_option maxRecDepth 100000
set_option linter.all false
namespace Kn
open PySem L2 PySem.Spec
structure MzK (K : PySem.W.Frag) (C : Addr) (m qual : Str) (st : Stmt) (ps : List Str) (n : Nat) (ks : List Str) : Prop where
  ex : ∃ (f : Addr) (fd : FuncData), FunC K m qual st f fd ∧ Meth K C m f ∧ KBn K fd ps n ks (fun us ws => us ++ ws) (fun vs zs => vs ++ zs)
structure MxK (P : Program) (w : World) (K : PySem.W.Frag) (mg : Str → Option Value) (base : Heap) (C : Addr) (m : Str) (k : Nat) (ps : List Str) (n : Nat) (ks : List Str) (sp : Sp) : Prop where
  ex : ∃ (f : Addr) (fd : FuncData), FnOk P w K mg base (L2.CX P w) k f fd ps sp ∧ Meth K C m f ∧ KBn K fd ps n ks (fun us ws => us ++ ws) (fun vs zs => vs ++ zs)
theorem MzK.okX {P : Program} {w : World} {K : PySem.W.Frag} {mg : Str → Option Value} {base : Heap} {C : Addr} {m qual : Str} {st : Stmt} {ps N : List Str} {n : Nat} {ks : List Str} {k : Nat} {sp : Sp} (F : MzK K C m qual st ps n ks) (S : FnScope N ps (defScope st)) (len : ∀ vs H Q E, sp vs H Q E → vs.length = ps.length)
    (hbody : ∀ (f : Addr) (cdv : Value) (A : Around) (outer : List Env) (s : Shared) (H : Hp) (vs : List V) (Q : VK) (E : XK), Room k (A.deeper (PyProof.Rows.envOfC qual (defScope st) s.heap.objs.size f cdv)) → sp vs H Q E →
      ∃ t, PSs (cxOf (L2.CX P w) P w K mg base N qual (defScope st) f cdv A outer s H E) (defBody st) t ∧ t { nx := fun _ H' => Q .non H', rt := Q } (start N vs) H) : MxK P w K mg base C m (k + 1) ps n ks sp := by
  obtain ⟨f, fd, F1, m, b⟩ := F.ex
  exact ⟨f, fd, F1.okX S len (hbody f), m, b⟩
section
variable {X : Cx} {k n : Nat} {C : Addr} {ps ks : List Str} {sp : Sp} {m : Str} {pos apos : Pos} {e o : Expr} {es : List Expr} {kws : List Keyword} {ta : TE} {t tkk : TA} {W : WX}
end
end Kn
set_option Elab.async false
set_option maxRecDepth 100000
set_option linter.all false
namespace Kn
open PySem L2 PySem.Spec PySem.Calls PyProof.Rows
end Kn
set_option Elab.async false
set_option maxRecDepth 100000
set_option linter.all false
namespace Kn
open PySem L2 PySem.Spec PySem.Calls PyProof.Rows
def f12 : Builtin.Float.FormatSpec := ⟨32, 60, none, false, false, some 12, none, none, none⟩
section
variable {prog : Program} {w : World} {A : Around} {E : Value → Shared → Prop} {s : Shared} {t : Tok}
end
end Kn
set_option Elab.async false
set_option maxRecDepth 100000
set_option linter.all false
namespace Kn
open PySem L2
theorem Dr.same {t : Addr} {H H' : Hp} (tp : Tape H t) (e : Same H H') : Dr t H H' := by
  obtain ⟨ns, h⟩ := tp
  exact ⟨⟨ns, e _ _ h⟩, fun b o h _ => e b o h⟩
end Kn
set_option Elab.async false
set_option maxRecDepth 100000
set_option linter.all false
namespace Kn
open PySem L2
def LitE (K : PySem.W.Frag) (te : TE) (d : PyData) : Prop := ∀ σ H (Q : VK), (∀ v H', Same H H' → Dp K H' v d → Q v H') → te σ H Q
def LitA (K : PySem.W.Frag) (t : TA) (ds : List PyData) : Prop := ∀ σ H (Q : List V → Hp → Prop), (∀ vs H', Same H H' → DpAll K H' vs ds → Q vs H') → t σ H Q
section
variable {K : PySem.W.Frag} {te : TE} {t : TA} {d : PyData} {ds : List PyData}
theorem lit_str {x : Str} : LitE K (tC (.str x)) (.str x) := fun _ H Q k => k _ H (Same.refl _) (.str _)
theorem lit_int {x : Int} : LitE K (tC (.int x)) (.int x) := fun _ H Q k => k _ H (Same.refl _) (.int _)
theorem lit_non : LitE K (tC .non) .none := fun _ H Q k => k _ H (Same.refl _) .non
theorem lit_nil : LitA K tNil [] := fun _ H Q k => k _ H (Same.refl _) .nil
theorem lit_cons (a : LitE K te d) (b : LitA K t ds) : LitA K (tCons te t) (d :: ds) := fun σ H Q k => a σ H _ fun v H1 s1 h1 => b σ H1 _ fun vs H2 s2 h2 => k _ H2 (Same.trans s1 s2) (.cons (Dp.same s2 _ h1) h2)
theorem lit_tup (a : LitA K t ds) (hz : ds.length ≤ 1000 := by decide) : LitE K (tTup t) (.tuple ds) := fun σ H Q k => a σ H _ fun vs H1 s1 h1 => ⟨Nat.le_trans (by rw [h1.len]; exact hz) (show 1000 ≤ sizeLine by decide), fun p hp => k _ _ (Same.trans s1 (same_new hp)) (.tup (SqT.of upd_same) (DpAll.same (same_new hp) _ h1))⟩
end
theorem Dr.base {t : Addr} {H H1 H2 : Hp} (ht : H t = none) (sm : Same H H1) (d : Dr t H1 H2) : Same H H2 := fun b o h => d.keep b o (sm b o h) (ne_of_none h ht)
end Kn
set_option Elab.async false
set_option maxRecDepth 100000
set_option linter.all false
namespace Kn
open PySem L2
def FnRK (P : Program) (w : World) (K : PySem.W.Frag) (mg : Str → Option Value) (base : Heap) (CX : CXT) (k : Nat) (f : Addr) (kw : Str) (sp : Sp) : Prop :=
  ∀ (A : Around) (outer : List Env) (s : Shared) (H : Hp) (us : List Value) (u : Value) (vs : List V) (v : V) (Q : VK) (E : XK), Room k A → Env0 P w K mg base A outer s H → Vals vs us → RelV v u → sp (v :: vs) H Q E →
    codeAny (model P w) A (.call (.ref f) ⟨us, [(kw, u)]⟩) (CR CX outer P w H s Q E) s
structure FxRK (P : Program) (w : World) (K : PySem.W.Frag) (mg : Str → Option Value) (base : Heap) (CX : CXT) (x : Str) (k : Nat) (kw : Str) (sp : Sp) : Prop where
  ex : ∃ f : Addr, FnRK P w K mg base CX k f kw sp ∧ mg x = some (.ref f) ∧ PySem.W.keepIn K (.ref f) = true
structure FzSK (K : PySem.W.Frag) (mg : Str → Option Value) (x : Str) (st : Stmt) (pv kw : Str) : Prop where
  ex : ∃ (f : Addr) (fd : FuncData), Fun K x x st f fd ∧ mg x = some (.ref f) ∧ ∀ (rest : List Value) (u : Value), bindArgs fd ⟨rest, [(kw, u)]⟩ = (newTuple rest >>= fun t => pure [(kw, u), (pv, t)])
theorem FxRK.imp {P : Program} {w : World} {K : PySem.W.Frag} {mg : Str → Option Value} {base : Heap} {CX : CXT} {x : Str} {k : Nat} {kw : Str} {sp sp' : Sp} (F : FxRK P w K mg base CX x k kw sp) (h : ∀ vs H Q E, sp' vs H Q E → sp vs H Q E) : FxRK P w K mg base CX x k kw sp' :=
  let ⟨f, F1, m⟩ := F.ex
  ⟨f, fun A outer s H us u vs v Q E hr e0 r r2 hs => F1 A outer s H us u vs v Q E hr e0 r r2 (h _ _ _ _ hs), m⟩
def starKSp (sp : Sp) : Sp := fun vs H Q E => ∃ v rest, vs = v :: rest ∧ rest.length ≤ sizeLine ∧ ∀ p, H p = none → sp [v, V.ref p] (upd H p (.tup rest)) Q E
theorem FzSK.okX {P : Program} {w : World} {K : PySem.W.Frag} {mg : Str → Option Value} {base : Heap} {x pv kw : Str} {st : Stmt} {N : List Str} {k : Nat} {sp : Sp} (F : FzSK K mg x st pv kw) (S : FnScope N [kw, pv] (defScope st))
    (hbody : ∀ (f : Addr) (cdv : Value) (A : Around) (outer : List Env) (s : Shared) (H : Hp) (vs : List V) (Q : VK) (E : XK), Room k (A.deeper (PyProof.Rows.envOfC x (defScope st) s.heap.objs.size f cdv)) → sp vs H Q E →
      ∃ t, PSs (cxOf (L2.CX P w) P w K mg base N x (defScope st) f cdv A outer s H E) (defBody st) t ∧ t { nx := fun _ H' => Q .non H', rt := Q } (start N vs) H) : FxRK P w K mg base (L2.CX P w) x (k + 1) kw (starKSp sp) := by
  obtain ⟨f, fd, F1, m, hb⟩ := F.ex
  obtain ⟨oc, od, kV, doc, pm, an, cdv, ct, osl, rfl, lk, hcd⟩ := F1.ex
  refine ⟨f, ?_, m, F1.kp⟩
  intro A outer s H us u vs v Q E hr e0 r ru hsp
  obtain ⟨v, rest, ev, hz, hq⟩ := hsp
  cases ev
  have hn : H s.heap.objs.size = none := e0.hok.fresh (Nat.le_refl _)
  have hl2 : us.length ≤ sizeLine := by rw [← r.length]; exact hz
  refine StX.run_bnd lk hcd S hr e0 (G := fun xs H2 => ∃ p, H p = none ∧ xs = [v, V.ref p] ∧ H2 = upd H p (.tup vs)) (fun A' Ex Q' h => ?_) fun s2 H2 xs ⟨p, hp, ex, eH⟩ hr' => ?_
  · rw [hb us u]
    refine wpAny_bind (wpAny_newTuple (wpAny_pure ?_) hl2)
    have new : ObjOk P w (upd H s.heap.objs.size (.tup vs)) (s.heap.push ({ cls := .type "tuple", data := .seq us.toArray } : Obj)) s.heap.objs.size (.tup vs) := ⟨hz, us, r, ⟨_, Heap.get?_push_size _ rfl, rfl, _, rfl⟩⟩
    have un := StX.un_laid (fs := frs outer) (s := s) (o := ({ cls := .type "tuple", data := .seq us.toArray } : Obj)) (u := .tup vs) hn
    exact h _ _ [v, V.ref s.heap.objs.size] [u, Value.ref s.heap.objs.size] (StX.env0_laid e0 new) un rfl (fun e s' => StX.cxUp outer s H _ _ E e s' un (fun b o q => Heap.get?_push_of_some _ q) rfl) (.cons ru (.cons rfl .nil)) rfl ⟨_, hn, rfl, rfl⟩
  · subst ex eH
    exact hbody f cdv A outer s2 _ _ Q E hr' (hq p hp)
section
variable {X : Cx} {CX : CXT} {k : Nat} {sp : Sp} {x kw : Str} {p pos : Pos} {e : Expr} {es : List Expr} {t tk : TA} {kws : List Keyword}
end
end Kn
set_option Elab.async false
set_option maxRecDepth 100000
set_option linter.all false
namespace Kn
open PySem L2 PySem.Spec
section
variable {M : Model} {A : Around} {E : Value → Shared → Prop} {s : Shared} {Z : Obj → Prop} {B : Heap} {env : Env} {outer : List Env} {L L' x : Addr}
end
section
variable {X : Cx} {E : XK}
end
end Kn
set_option Elab.async false
set_option maxRecDepth 100000
set_option linter.all false
namespace Kn
open PySem L2 PySem.Spec
end Kn
namespace Kn
open PySem L2 PySem.Spec
end Kn
set_option Elab.async false
set_option maxRecDepth 100000
set_option linter.all false
namespace Kn
open PySem L2 PySem.Spec
section
variable {prog : Program} {w : World} {A : Around} {E : Value → Shared → Prop} {s : Shared} {K : PySem.W.Frag} {x D : Addr} {ox : Obj} {od : Option Obj}
end
end Kn
set_option Elab.async false
set_option maxRecDepth 100000
set_option linter.all false
namespace Kn
open PySem L2 PySem.Spec
structure Cz (K : PySem.W.Frag) (C : Addr) (qual : Str) (st : Stmt) (ps : List Str) (dvs : List V) : Prop where
  ex : ∃ (f : Addr) (fd : FuncData) (ds : List Value), FunC K "__call__" qual st f fd ∧ Meth K C "__call__" f ∧ Binds K fd ps ds ∧ Vals dvs ds
structure Cq (P : Program) (w : World) (K : PySem.W.Frag) (mg : Str → Option Value) (base : Heap) (C : Addr) (k : Nat) (ps : List Str) (dvs : List V) (sp : Sp) : Prop where
  ex : ∃ (f : Addr) (fd : FuncData) (ds : List Value), FnOk P w K mg base (L2.CX P w) k f fd ps sp ∧ StX.CallO K C f ∧ Binds K fd ps ds ∧ Vals dvs ds
theorem Cz.okX {P : Program} {w : World} {K : PySem.W.Frag} {mg : Str → Option Value} {base : Heap} {C : Addr} {qual : Str} {st : Stmt} {ps N : List Str} {dvs : List V} {k : Nat} {sp : Sp} (F : Cz K C qual st ps dvs) (S : FnScope N ps (defScope st)) (len : ∀ vs H Q E, sp vs H Q E → vs.length = ps.length)
    (hbody : ∀ (f : Addr) (cdv : Value) (A : Around) (outer : List Env) (s : Shared) (H : Hp) (vs : List V) (Q : VK) (E : XK), Room k (A.deeper (PyProof.Rows.envOfC qual (defScope st) s.heap.objs.size f cdv)) → sp vs H Q E →
      ∃ t, PSs (cxOf (L2.CX P w) P w K mg base N qual (defScope st) f cdv A outer s H E) (defBody st) t ∧ t { nx := fun _ H' => Q .non H', rt := Q } (start N vs) H) : Cq P w K mg base C (k + 1) ps dvs sp := by
  obtain ⟨f, fd, ds, F1, m, b, v⟩ := F.ex
  exact ⟨f, fd, ds, F1.okX S len (hbody f), ⟨m.at_, m.fn, F1.fnIn⟩, b, v⟩
section
variable {X : Cx} {k : Nat} {C : Addr} {ps : List Str} {sp : Sp} {dvs : List V} {pos : Pos} {e fe : Expr} {es : List Expr} {tf : TE} {t : TA} {W : WX}
end
end Kn
set_option Elab.async false
set_option maxRecDepth 100000
set_option linter.all false
namespace Kn
open PySem L2 PySem.Spec
end Kn
set_option Elab.async false
set_option maxRecDepth 100000
set_option linter.all false
namespace Kn
open PySem L2
abbrev NK := NestedKey
def ndE (w : World) (x : NK × Addr × Value) : DictEntry := ⟨x.1.hash w, .ref x.2.1, x.2.2⟩
abbrev XR (p : NK × Addr × V) (q : NK × Addr × Value) : Prop := p.1 = q.1 ∧ p.2.1 = q.2.1 ∧ RelV p.2.2 q.2.2
def NdOk (w : World) (a : Addr) (o : Obj) (xs : List (NK × Addr × V)) (h : Heap) : Prop :=
  (a == sysModules) = false ∧ xs.length ≤ sizeLine ∧ h.get? a = some o ∧ o.ExactDict ∧ ∃ (es : Array DictEntry) (ep : Nat) (ys : List (NK × Addr × Value)), o.data = .dict es ep ∧ Paired XR xs ys ∧ es.toList = ys.map (ndE w) ∧ (ys.map (·.1)).Nodup
def ndO (w : World) (a : Addr) (o : Obj) (xs : List (NK × Addr × V)) : HO := .ext (NdOk w a o xs)
def atN (xs : List (NK × Addr × V)) (k : NK) : Option V := (xs.find? fun x => decide (x.1 = k)).map (·.2.2)
def stN (xs : List (NK × Addr × V)) (k : NK) (b : Addr) (v : V) : List (NK × Addr × V) :=
  if (atN xs k).isSome then xs.map fun x => if x.1 = k then (x.1, x.2.1, v) else x else xs ++ [(k, b, v)]
theorem XR.at_ {k : NK} : ∀ {xs : List (NK × Addr × V)} {ys : List (NK × Addr × Value)}, Paired XR xs ys → RelO (atN xs k) ((atKey ys k).map (·.2))
  | _, _, .nil => True.intro
  | x :: xs, y :: ys, .cons h t => by
    have h : XR x y := h
    by_cases c : x.1 = k
    · have c2 : y.1 = k := h.1 ▸ c
      unfold atN atKey
      rw [List.find?_cons_of_pos (by simpa using c), List.find?_cons_of_pos (by simpa using c2)]
      exact h.2.2
    · have c2 : ¬ y.1 = k := h.1 ▸ c
      unfold atN atKey
      rw [List.find?_cons_of_neg (by simpa using c), List.find?_cons_of_neg (by simpa using c2)]
      exact XR.at_ t
theorem XR.some_ {k : NK} {xs : List (NK × Addr × V)} {ys : List (NK × Addr × Value)} (h : Paired XR xs ys) : (atN xs k).isSome = (atKey ys k).isSome := by
  have q := XR.at_ (k := k) h
  have e := q.isSome_eq
  rw [Option.isSome_map] at e
  exact e
theorem XR.map_ {k : NK} {v : V} {u : Value} (r : RelV v u) : ∀ {xs : List (NK × Addr × V)} {ys : List (NK × Addr × Value)}, Paired XR xs ys → Paired XR (xs.map fun x => if x.1 = k then (x.1, x.2.1, v) else x) (ys.map (putAt k u))
  | _, _, .nil => .nil
  | x :: xs, y :: ys, .cons h t => by
    rw [List.map_cons, List.map_cons]
    refine .cons ?_ (XR.map_ r t)
    have h : XR x y := h
    show XR (if x.1 = k then (x.1, x.2.1, v) else x) (putAt k u y)
    unfold putAt
    by_cases c : x.1 = k
    · have c2 : y.1 = k := h.1 ▸ c
      rw [if_pos c, if_pos c2]
      exact ⟨h.1, h.2.1, r⟩
    · have c2 : ¬ y.1 = k := h.1 ▸ c
      rw [if_neg c, if_neg c2]
      exact h
theorem XR.app {x : NK × Addr × V} {y : NK × Addr × Value} (r : XR x y) : ∀ {xs : List (NK × Addr × V)} {ys : List (NK × Addr × Value)}, Paired XR xs ys → Paired XR (xs ++ [x]) (ys ++ [y])
  | _, _, .nil => .cons r .nil
  | _, _, .cons h t => .cons h (XR.app r t)
theorem XR.put {k : NK} {b : Addr} {v : V} {u : Value} {xs : List (NK × Addr × V)} {ys : List (NK × Addr × Value)} (h : Paired XR xs ys) (r : RelV v u) : Paired XR (stN xs k b v) (storedH ys k b u) := by
  unfold stN storedH
  rw [XR.some_ h]
  split
  · exact XR.map_ r h
  · exact XR.app ⟨rfl, rfl, r⟩ h
section
variable {X : Cx} {pins : List (Addr × Obj)} {σ : St} {H : Hp} {s : Shared} {a : Addr} {o : Obj} {xs : List (NK × Addr × V)}
end
section
variable {X : Cx} {o i e value : Expr} {pos pos' tpos : Pos} {td ty tv : TE} {K : PySem.W.Frag} {w : World} {n : Nat}
end
section
variable {X : Cx} {pos : Pos} {n : Nat}
end
theorem XR.get {xs : List (NK × Addr × V)} {ys : List (NK × Addr × Value)} (h : Paired XR xs ys) {i : Nat} {y : NK × Addr × Value} (e : ys[i]? = some y) : ∃ v, xs[i]? = some (y.1, y.2.1, v) := by
  induction h generalizing i with
  | nil => simp at e
  | @cons x y' xs ys r t ih =>
    have r : XR x y' := r
    cases i with
    | zero =>
      simp only [List.getElem?_cons_zero, Option.some.injEq] at e
      subst e
      exact ⟨x.2.2, by rw [← r.1, ← r.2.1]; rfl⟩
    | succ j =>
      simp only [List.getElem?_cons_succ] at e ⊢
      exact ih e
end Kn
set_option Elab.async false
set_option maxRecDepth 100000
set_option linter.all false
namespace Kn
open PySem L2
def repS (x : Str) (n : Nat) : Str := ⟨((List.replicate n x.cps.toList).flatten).toArray⟩
theorem foldl_app (l : List (Array Nat)) : ∀ a : Array Nat, (l.foldl (· ++ ·) a).toList = a.toList ++ (l.map Array.toList).flatten := by
  induction l with
  | nil => intro a; simp
  | cons b l ih => intro a; rw [List.foldl_cons, ih]; simp
theorem repS_fold (x : Str) (n : Nat) : (⟨(List.replicate n x.cps).foldl (· ++ ·) #[]⟩ : Str) = repS x n := by
  unfold repS
  congr 1
  apply Array.ext'
  rw [foldl_app, List.map_replicate]
  simp
def rMulS : V → V → Hp → VK → Prop := fun x y H Q => ∃ (z : Str) (n : Nat), x = .str z ∧ y = .int (n : Int) ∧ z.length ≤ 1000 ∧ n ≤ 1000 ∧ Q (.str (repS z n)) H
theorem op_mul_str {X : Cx} : OpR X (binaryOp .Mult) rMulS := by
  intro pins s σ H x y v u Q I rx ry h
  obtain ⟨z, n, rfl, rfl, h1, h2, q⟩ := h
  obtain ⟨t, rfl⟩ := rx
  obtain ⟨t', rfl⟩ := ry
  have hz : z.length * n ≤ 1000 * 1000 := Nat.mul_le_mul h1 h2
  refine PySem.P.mul_str ?_ ?_ ?_ ?_
  · rw [decide_eq_false (by omega), decide_eq_false (by omega)]; rfl
  · intro c _
    have c : 1 ≤ n := by omega
    have : (1 : Int) ≤ n := by omega
    have h3 : (1000 : Int) ≤ (2 ^ 63 - 1) / n := by
      rw [Int.le_ediv_iff_mul_le (by omega)]
      omega
    omega
  · intro _ _
    show decide (z.length * ((n : Int)).toNat > sizeLine) = false
    rw [Int.toNat_natCast, decide_eq_false]
    have : (1000000 : Nat) ≤ sizeLine := by decide
    omega
  · have fin : ∀ t, EP X pins σ Q (.str (repS z n) t) { s with toks := s.toks + 1 } := fun t => ⟨.str (repS z n), H, I.tok _, ⟨_, rfl⟩, q⟩
    by_cases c : (n : Int) < 1
    · have e : n = 0 := by omega
      subst e
      rw [if_pos c]
      exact ⟨by decide, fin _⟩
    · rw [if_neg c]
      by_cases c2 : ((n : Int) == 1 || z.length == 0) = true
      · rw [if_pos c2]
        have e : repS z n = z := by
          rw [Bool.or_eq_true] at c2
          rcases c2 with c2 | c2
          · have e : n = 1 := by have := beq_iff_eq.mp c2; omega
            subst e
            unfold repS
            simp
          · have e : z.length = 0 := beq_iff_eq.mp c2
            obtain ⟨arr⟩ := z
            have e : arr.size = 0 := e
            have e : arr = #[] := Array.size_eq_zero_iff.mp e
            subst e
            unfold repS
            simp
        rw [e] at q
        exact ⟨.str z, H, I, ⟨_, rfl⟩, q⟩
      · rw [if_neg c2, Int.toNat_natCast, repS_fold]
        have sz : (repS z n).length = n * z.length := by
          show ((List.replicate n z.cps.toList).flatten).toArray.size = _
          rw [List.size_toArray, List.length_flatten, List.map_replicate, List.sum_replicate_nat]
          rfl
        refine ⟨?_, fin _⟩
        rw [sz, Nat.mul_comm]
        have : (1000000 : Nat) ≤ sizeLine := by decide
        omega
end Kn
set_option Elab.async false
set_option maxRecDepth 100000
set_option linter.all false
namespace Kn
open PySem L2
inductive D where
  | non | bl (b : Bool) | int (i : Int) | str (x : Str) | ty (n : String)
  | tup (ds : List D) | lst (ds : List D) | dct (ks : List (Key × D)) | obj (C : Addr) (fs : List (Str × D))
  | ref (a : Addr) | tape | scr | exc (a C : Addr) (d : Option Addr) (fs : List (Str × D))
mutual
inductive Dv (K : PySem.W.Frag) (Tp : Addr → Prop) (H : Hp) : V → D → Prop
  | non : Dv K Tp H .non .non
  | bl (b : Bool) : Dv K Tp H (.bl b) (.bl b)
  | int (i : Int) : Dv K Tp H (.int i) (.int i)
  | str (x : Str) : Dv K Tp H (.str x) (.str x)
  | ty (n : String) : Dv K Tp H (.ty n) (.ty n)
  | tup {a : Addr} {xs : List V} {ds : List D} (h : SqT K H a xs) (t : DvL K Tp H xs ds) : Dv K Tp H (.ref a) (.tup ds)
  | lst {a : Addr} {xs : List V} {ds : List D} (h : H a = some (.lst xs)) (t : DvL K Tp H xs ds) : Dv K Tp H (.ref a) (.lst ds)
  | dct {a : Addr} {xs : List (Key × V)} {ks : List (Key × D)} (h : Rd H a (.dK xs)) (t : DvK K Tp H xs ks) : Dv K Tp H (.ref a) (.dct ks)
  | obj {a C dx : Addr} {xs : List (Str × V)} {fs : List (Str × D)} (h : H a = some (.ins C dx xs)) (t : DvF K Tp H xs fs) : Dv K Tp H (.ref a) (.obj C fs)
  | ref (a : Addr) : Dv K Tp H (.ref a) (.ref a)
  | tape {t : Addr} (h : Tp t) : Dv K Tp H (.ref t) .tape
  | scr {a : Addr} {ns : List Int} (h : SqL K H a (ns.map V.int)) (hl : ns.length ≤ 63) : Dv K Tp H (.ref a) .scr
  | exc0 (a C : Addr) : Dv K Tp H (.ref a) (.exc a C none [])
  | exc1 {a C b : Addr} {vs : List (Str × V)} {fs : List (Str × D)} (h : H b = some (.xd vs)) (t : DvF K Tp H vs fs) : Dv K Tp H (.ref a) (.exc a C (some b) fs)
inductive DvL (K : PySem.W.Frag) (Tp : Addr → Prop) (H : Hp) : List V → List D → Prop
  | nil : DvL K Tp H [] []
  | cons {v : V} {d : D} {vs : List V} {ds : List D} (h : Dv K Tp H v d) (t : DvL K Tp H vs ds) : DvL K Tp H (v :: vs) (d :: ds)
inductive DvK (K : PySem.W.Frag) (Tp : Addr → Prop) (H : Hp) : List (Key × V) → List (Key × D) → Prop
  | nil : DvK K Tp H [] []
  | cons {k : Key} {v : V} {d : D} {vs : List (Key × V)} {ds : List (Key × D)} (h : Dv K Tp H v d) (t : DvK K Tp H vs ds) : DvK K Tp H ((k, v) :: vs) ((k, d) :: ds)
inductive DvF (K : PySem.W.Frag) (Tp : Addr → Prop) (H : Hp) : List (Str × V) → List (Str × D) → Prop
  | nil : DvF K Tp H [] []
  | cons {k : Str} {v : V} {d : D} {vs : List (Str × V)} {ds : List (Str × D)} (h : Dv K Tp H v d) (t : DvF K Tp H vs ds) : DvF K Tp H ((k, v) :: vs) ((k, d) :: ds)
end
def Lq (H H' : Hp) : Prop := ∀ b o, H b = some o → H' b = some o ∨ ∃ kvs, (o = .dK kvs ∨ ∃ od, o = .frz od (.dK kvs)) ∧ Rd H' b (.dK kvs)
theorem Same.lq {H H' : Hp} (e : Same H H') : Lq H H' := fun b o h => .inl (e b o h)
theorem Lq.refl (H : Hp) : Lq H H := fun b o h => .inl h
theorem Lq.tup {H H' : Hp} (e : Lq H H') {a : Addr} {xs : List V} (h : Rd H a (.tup xs)) : Rd H' a (.tup xs) := by
  rcases h with h | ⟨o, h⟩
  · rcases e _ _ h with h | ⟨k, h | ⟨_, h⟩, _⟩
    · exact .inl h
    · cases h
    · cases h
  · rcases e _ _ h with h | ⟨k, h | ⟨_, h⟩, _⟩
    · exact .inr ⟨o, h⟩
    · cases h
    · cases h
theorem Lq.dct {H H' : Hp} (e : Lq H H') {a : Addr} {xs : List (Key × V)} (h : Rd H a (.dK xs)) : Rd H' a (.dK xs) := by
  rcases h with h | ⟨o, h⟩
  · rcases e _ _ h with h | ⟨k, h | ⟨_, h⟩, r⟩
    · exact .inl h
    · cases h; exact r
    · cases h
  · rcases e _ _ h with h | ⟨k, h | ⟨_, h⟩, r⟩
    · exact .inr ⟨o, h⟩
    · cases h
    · cases h; exact r
theorem Lq.lst {H H' : Hp} (e : Lq H H') {a : Addr} {xs : List V} (h : H a = some (.lst xs)) : H' a = some (.lst xs) := by
  rcases e _ _ h with h | ⟨k, h | ⟨_, h⟩, r⟩
  · exact h
  · cases h
  · cases h
theorem Lq.lstR {H H' : Hp} (e : Lq H H') {a : Addr} {xs : List V} (h : Rd H a (.lst xs)) : Rd H' a (.lst xs) := by
  rcases h with h | ⟨o, h⟩
  · rcases e _ _ h with h | ⟨k, h | ⟨_, h⟩, _⟩
    · exact .inl h
    · cases h
    · cases h
  · rcases e _ _ h with h | ⟨k, h | ⟨_, h⟩, _⟩
    · exact .inr ⟨o, h⟩
    · cases h
    · cases h
theorem Lq.ins {H H' : Hp} (e : Lq H H') {a C dx : Addr} {xs : List (Str × V)} (h : H a = some (.ins C dx xs)) : H' a = some (.ins C dx xs) := by
  rcases e _ _ h with h | ⟨k, h | ⟨_, h⟩, r⟩
  · exact h
  · cases h
  · cases h
theorem Lq.xd {H H' : Hp} (e : Lq H H') {a : Addr} {xs : List (Str × V)} (h : H a = some (.xd xs)) : H' a = some (.xd xs) := by
  rcases e _ _ h with h | ⟨k, h | ⟨_, h⟩, r⟩
  · exact h
  · cases h
  · cases h
section
variable {K : PySem.W.Frag} {Tp Tp' : Addr → Prop} {H H' : Hp}
mutual
theorem Dv.le (e : Lq H H') (et : ∀ t, Tp t → Tp' t) : ∀ {v : V} {d : D}, Dv K Tp H v d → Dv K Tp' H' v d
  | _, _, .non => .non
  | _, _, .bl b => .bl b
  | _, _, .int i => .int i
  | _, _, .str x => .str x
  | _, _, .ty n => .ty n
  | _, _, .tup h t => .tup (match h with | .inl h => .inl (e.tup h) | .inr h => .inr h) (DvL.le e et t)
  | _, _, .lst h t => .lst (e.lst h) (DvL.le e et t)
  | _, _, .dct h t => .dct (e.dct h) (DvK.le e et t)
  | _, _, .obj h t => .obj (e.ins h) (DvF.le e et t)
  | _, _, .ref a => .ref a
  | _, _, .tape h => .tape (et _ h)
  | _, _, .scr h hl => .scr (match h with | .inl h => .inl (e.lstR h) | .inr h => .inr h) hl
  | _, _, .exc0 a C => .exc0 a C
  | _, _, .exc1 h t => .exc1 (e.xd h) (DvF.le e et t)
theorem DvL.le (e : Lq H H') (et : ∀ t, Tp t → Tp' t) : ∀ {v : List V} {d : List D}, DvL K Tp H v d → DvL K Tp' H' v d
  | _, _, .nil => .nil
  | _, _, .cons h t => .cons (Dv.le e et h) (DvL.le e et t)
theorem DvK.le (e : Lq H H') (et : ∀ t, Tp t → Tp' t) : ∀ {v : List (Key × V)} {d : List (Key × D)}, DvK K Tp H v d → DvK K Tp' H' v d
  | _, _, .nil => .nil
  | _, _, .cons h t => .cons (Dv.le e et h) (DvK.le e et t)
theorem DvF.le (e : Lq H H') (et : ∀ t, Tp t → Tp' t) : ∀ {v : List (Str × V)} {d : List (Str × D)}, DvF K Tp H v d → DvF K Tp' H' v d
  | _, _, .nil => .nil
  | _, _, .cons h t => .cons (Dv.le e et h) (DvF.le e et t)
end
theorem DvL.len : ∀ {vs : List V} {ds : List D}, DvL K Tp H vs ds → vs.length = ds.length
  | _, _, .nil => rfl
  | _, _, .cons _ t => by simp [DvL.len t]
theorem DvK.len : ∀ {vs : List (Key × V)} {ds : List (Key × D)}, DvK K Tp H vs ds → vs.length = ds.length
  | _, _, .nil => rfl
  | _, _, .cons _ t => by simp [DvK.len t]
theorem DvF.len : ∀ {vs : List (Str × V)} {ds : List (Str × D)}, DvF K Tp H vs ds → vs.length = ds.length
  | _, _, .nil => rfl
  | _, _, .cons _ t => by simp [DvF.len t]
theorem DvL.get : ∀ {vs : List V} {ds : List D} {i : Nat} {d : D}, DvL K Tp H vs ds → ds[i]? = some d → ∃ v, vs[i]? = some v ∧ Dv K Tp H v d
  | _, _, _, _, .nil, e => by simp at e
  | _, _, 0, _, .cons h _, e => by simp at e; subst e; exact ⟨_, rfl, h⟩
  | _, _, i + 1, d, .cons _ a, e => by
    obtain ⟨v, h1, h2⟩ := DvL.get (i := i) (d := d) a (by simpa using e)
    exact ⟨v, by simpa using h1, h2⟩
theorem DvL.app : ∀ {vs ws : List V} {ds es : List D}, DvL K Tp H vs ds → DvL K Tp H ws es → DvL K Tp H (vs ++ ws) (ds ++ es)
  | _, _, _, _, .nil, h => h
  | _, _, _, _, .cons g a, h => .cons g (DvL.app a h)
theorem DvL.take : ∀ (n : Nat) {vs : List V} {ds : List D}, DvL K Tp H vs ds → DvL K Tp H (vs.take n) (ds.take n)
  | 0, _, _, _ => by simp; exact .nil
  | _ + 1, _, _, .nil => .nil
  | n + 1, _, _, .cons h a => .cons h (DvL.take n a)
theorem DvL.drop : ∀ (n : Nat) {vs : List V} {ds : List D}, DvL K Tp H vs ds → DvL K Tp H (vs.drop n) (ds.drop n)
  | 0, _, _, a => a
  | _ + 1, _, _, .nil => .nil
  | n + 1, _, _, .cons _ a => DvL.drop n a
theorem DvL.ints_inv : ∀ {ns : List Int} {vs : List V}, DvL K Tp H vs (ns.map D.int) → vs = ns.map V.int
  | [], _, .nil => rfl
  | n :: ns, _, .cons (.int _) a => by rw [DvL.ints_inv a]; rfl
theorem DvL.bls_inv : ∀ {ns : List Bool} {vs : List V}, DvL K Tp H vs (ns.map D.bl) → vs = ns.map V.bl
  | [], _, .nil => rfl
  | n :: ns, _, .cons (.bl _) a => by rw [DvL.bls_inv a]; rfl
def look {κ : Type} [DecidableEq κ] : List (κ × D) → κ → Option D
  | [], _ => none
  | p :: l, k => if p.1 = k then some p.2 else look l k
theorem DvK.look_some : ∀ {vs : List (Key × V)} {ds : List (Key × D)} {k : Key} {d : D}, DvK K Tp H vs ds → look ds k = some d → ∃ v, valV vs k = some v ∧ Dv K Tp H v d
  | _, _, _, _, .nil, e => by simp [look] at e
  | (k', v) :: vs, _, k, d, .cons h a, e => by
    by_cases c : k' = k
    · rw [look, if_pos c] at e; cases e
      exact ⟨v, valV_pos (p := (k', v)) c, h⟩
    · rw [look, if_neg c] at e
      obtain ⟨w, h1, h2⟩ := DvK.look_some a e
      exact ⟨w, by rw [valV_neg (p := (k', v)) c]; exact h1, h2⟩
theorem DvK.look_none : ∀ {vs : List (Key × V)} {ds : List (Key × D)} {k : Key}, DvK K Tp H vs ds → look ds k = none → valV vs k = none
  | _, _, _, .nil, e => rfl
  | (k', v) :: vs, _, k, .cons h a, e => by
    by_cases c : k' = k
    · rw [look, if_pos c] at e; cases e
    · rw [look, if_neg c] at e
      rw [valV_neg (p := (k', v)) c]; exact DvK.look_none a e
def put (ks : List (Key × D)) (k : Key) (x : D) : List (Key × D) := if (ks.any fun p => decide (p.1 = k)) = true then ks.map fun p => if p.1 = k then (p.1, x) else p else ks ++ [(k, x)]
theorem DvK.any : ∀ {vs : List (Key × V)} {ds : List (Key × D)} (k : Key), DvK K Tp H vs ds → (vs.any fun p => decide (p.1 = k)) = ds.any fun p => decide (p.1 = k)
  | _, _, _, .nil => rfl
  | _, _, k, .cons _ a => by rw [List.any_cons, List.any_cons, DvK.any k a]
theorem DvK.mapPut : ∀ {vs : List (Key × V)} {ds : List (Key × D)} {k : Key} {v : V} {d : D}, DvK K Tp H vs ds → Dv K Tp H v d → DvK K Tp H (vs.map fun p => if p.1 = k then (p.1, v) else p) (ds.map fun p => if p.1 = k then (p.1, d) else p)
  | _, _, _, _, _, .nil, _ => .nil
  | (k', v') :: vs, (_, d') :: ds, k, v, d, .cons h a, g => by
    rw [List.map_cons, List.map_cons]
    by_cases c : k' = k
    · rw [if_pos c, if_pos c]; exact .cons g (DvK.mapPut a g)
    · rw [if_neg c, if_neg c]; exact .cons h (DvK.mapPut a g)
theorem DvK.snoc : ∀ {vs : List (Key × V)} {ds : List (Key × D)} {k : Key} {v : V} {d : D}, DvK K Tp H vs ds → Dv K Tp H v d → DvK K Tp H (vs ++ [(k, v)]) (ds ++ [(k, d)])
  | _, _, _, _, _, .nil, g => .cons g .nil
  | _, _, _, _, _, .cons h a, g => .cons h (DvK.snoc a g)
theorem DvK.put {vs : List (Key × V)} {ds : List (Key × D)} {k : Key} {v : V} {d : D} (a : DvK K Tp H vs ds) (g : Dv K Tp H v d) : DvK K Tp H (putK vs k v) (put ds k d) := by
  unfold putK Kn.put
  rw [a.any k]
  split
  · exact a.mapPut g
  · exact a.snoc g
def putFd (f : Str) (x : D) : List (Str × D) → List (Str × D)
  | [] => [(f, x)]
  | p :: r => if p.1 = f then (p.1, x) :: r else p :: putFd f x r
theorem DvF.put {f : Str} {v : V} {d : D} (g : Dv K Tp H v d) : ∀ {vs : List (Str × V)} {ds : List (Str × D)}, DvF K Tp H vs ds → DvF K Tp H (putF f v vs) (putFd f d ds)
  | _, _, .nil => .cons g .nil
  | (k, x) :: vs, _, .cons (d := y) (ds := es) h a => by
    show DvF K Tp H (if k = f then (k, v) :: vs else (k, x) :: putF f v vs) (if k = f then (k, d) :: es else (k, y) :: putFd f d es)
    by_cases c : k = f
    · rw [if_pos c, if_pos c]; exact .cons g a
    · rw [if_neg c, if_neg c]; exact .cons h (DvF.put g a)
theorem valV_look : ∀ {vs : List (Key × V)} {ds : List (Key × D)} {k : Key}, DvK K Tp H vs ds → (valV vs k).isSome = (look ds k).isSome
  | vs, ds, k, h => by
    cases e : look ds k with
    | none => rw [DvK.look_none h e]; rfl
    | some d => obtain ⟨v, h1, _⟩ := DvK.look_some h e; rw [h1]; rfl
theorem DvF.look_some : ∀ {vs : List (Str × V)} {ds : List (Str × D)} {k : Str} {d : D}, DvF K Tp H vs ds → look ds k = some d → ∃ v, vs.lookup k = some v ∧ Dv K Tp H v d
  | _, _, _, _, .nil, e => by simp [look] at e
  | (k', v) :: vs, _, k, d, .cons h a, e => by
    by_cases c : k' = k
    · rw [look, if_pos c] at e; cases e
      subst c
      exact ⟨v, by rw [List.lookup_cons_self], h⟩
    · rw [look, if_neg c] at e
      obtain ⟨w, h1, h2⟩ := DvF.look_some a e
      refine ⟨w, ?_, h2⟩
      rw [List.lookup_cons, beq_eq_false_iff_ne.mpr (fun z => c z.symm)]; exact h1
theorem DvF.look_none : ∀ {vs : List (Str × V)} {ds : List (Str × D)} {k : Str}, DvF K Tp H vs ds → look ds k = none → vs.lookup k = none
  | _, _, _, .nil, e => rfl
  | (k', v) :: vs, _, k, .cons h a, e => by
    by_cases c : k' = k
    · rw [look, if_pos c] at e; cases e
    · rw [look, if_neg c] at e
      rw [List.lookup_cons, beq_eq_false_iff_ne.mpr (fun z => c z.symm)]; exact DvF.look_none a e
end
end Kn
set_option Elab.async false
set_option maxRecDepth 100000
set_option linter.all false
set_option autoImplicit false
namespace Kn
open PySem L2
open Classical in
noncomputable def Hd (U : Addr → Prop) (H : Hp) : Hp := fun b => if U b then none else H b
theorem Hd.get {U : Addr → Prop} {H : Hp} {b : Addr} {o : HO} (h : H b = some o) (n : ¬ U b) : Hd U H b = some o := by unfold Hd; rw [if_neg n]; exact h
theorem Hd.of {U : Addr → Prop} {H : Hp} {b : Addr} {o : HO} (h : Hd U H b = some o) : H b = some o ∧ ¬ U b := by
  unfold Hd at h
  by_cases c : U b
  · rw [if_pos c] at h; cases h
  · rw [if_neg c] at h; exact ⟨h, c⟩
theorem Hd.sub {U : Addr → Prop} {H : Hp} : Same (Hd U H) H := fun b o h => (Hd.of h).1
mutual
def kD : NK → D
  | .none => .non
  | .num i => .int i
  | .text x => .str x
  | .tup ks => .tup (kDs ks)
def kDs : List NK → List D
  | [] => []
  | k :: ks => kD k :: kDs ks
end
inductive DvN (K : PySem.W.Frag) (Tp : Addr → Prop) (H : Hp) : List (NK × Addr × V) → List (NK × D) → Prop
  | nil : DvN K Tp H [] []
  | cons {k : NK} {q : Addr} {v : V} {d : D} {xs : List (NK × Addr × V)} {ks : List (NK × D)} (hk : Dv K Tp H (.ref q) (kD k)) (hd : k.depth ≤ 8) (h : Dv K Tp H v d) (t : DvN K Tp H xs ks) : DvN K Tp H ((k, q, v) :: xs) ((k, d) :: ks)
theorem DvN.le {K : PySem.W.Frag} {Tp Tp' : Addr → Prop} {H H' : Hp} (e : Lq H H') (et : ∀ t, Tp t → Tp' t) : ∀ {xs : List (NK × Addr × V)} {ks : List (NK × D)}, DvN K Tp H xs ks → DvN K Tp' H' xs ks
  | _, _, .nil => .nil
  | _, _, .cons hk hd h t => .cons (Dv.le e et hk) hd (Dv.le e et h) (DvN.le e et t)
inductive Cell where
  | ins (C : Addr) (fs : List (Str × D)) | lst (ds : List D) | dct (ks : List (Key × D)) | lk (od : Obj) (vs : List (Key × V)) (ks : List (Key × D))
  | dtn (w : World) (o : Obj) (ks : List (NK × D))
structure Wd where
  Tp : Addr → Prop
  ω : Addr → Option Cell
def Cell.isMut : Cell → Prop
  | .lk _ _ _ => False
  | _ => True
def Wd.mt (W : Wd) (b : Addr) : Prop := W.Tp b ∨ ∃ c, W.ω b = some c ∧ c.isMut
def CellOk (K : PySem.W.Frag) (Tp U : Addr → Prop) (H : Hp) (a : Addr) : Cell → Prop
  | .ins C fs => ∃ dx vs, H a = some (.ins C dx vs) ∧ DvF K Tp (Hd U H) vs fs
  | .lst ds => ∃ vs, H a = some (.lst vs) ∧ DvL K Tp (Hd U H) vs ds
  | .dct ks => ∃ vs, H a = some (.dK vs) ∧ DvK K Tp (Hd U H) vs ks
  | .lk od vs ks => H a = some (.frz od (.dK vs)) ∧ DvK K Tp (Hd U H) vs ks
  | .dtn w o ks => ∃ xs, H a = some (ndO w a o xs) ∧ DvN K Tp (Hd U H) xs ks
structure Rw (K : PySem.W.Frag) (U : Addr → Prop) (W : Wd) (H : Hp) : Prop where
  dom : ∀ b, U b → H b ≠ none
  tape : ∀ t, W.Tp t → U t ∧ Tape H t ∧ W.ω t = none
  cell : ∀ a c, W.ω a = some c → U a ∧ CellOk K W.Tp U H a c
structure Ent where
  U : Addr → Prop
  W : Wd
  H : Hp
def Kp (U : Addr → Prop) (b : Addr) (o : HO) (x : Option HO) : Prop := x = some o ∨ (¬ U b ∧ ∃ kvs od, o = .dK kvs ∧ x = some (.frz od (.dK kvs)))
theorem Kp.hid {U : Addr → Prop} {b : Addr} {o : HO} {x : Option HO} (h : Kp U b o x) (u : U b) : x = some o := h.resolve_right fun z => z.1 u
theorem Kp.frz {U : Addr → Prop} {b : Addr} {od : Obj} {w : HO} {x : Option HO} (h : Kp U b (.frz od w) x) : x = some (.frz od w) := h.resolve_right fun ⟨_, _, _, z, _⟩ => by cases z
structure Fr (e : Ent) (U : Addr → Prop) (W : Wd) (H : Hp) : Prop where
  keep : ∀ b o, e.H b = some o → ¬ e.W.mt b → Kp e.U b o (H b)
  up : ∀ b, e.U b → U b
  new : ∀ b, U b → e.U b ∨ e.H b = none
  wnew : ∀ b, W.Tp b ∨ (∃ c, W.ω b = some c) → (e.W.Tp b ∨ ∃ c, e.W.ω b = some c) ∨ e.H b = none
  tp : ∀ b, e.W.Tp b → W.Tp b
  there : ∀ b, e.H b ≠ none → H b ≠ none
  lk : ∀ b c, e.W.ω b = some c → ¬ c.isMut → W.ω b = some c
theorem Wd.mt_w {W : Wd} {b : Addr} (h : W.mt b) : W.Tp b ∨ ∃ c, W.ω b = some c := by
  rcases h with h | ⟨c, h, _⟩
  · exact .inl h
  · exact .inr ⟨c, h⟩
theorem Rw.hid {K : PySem.W.Frag} {U : Addr → Prop} {W : Wd} {H : Hp} (r : Rw K U W H) {b : Addr} (h : W.Tp b ∨ ∃ c, W.ω b = some c) : U b := by
  rcases h with h | ⟨c, h⟩
  · exact (r.tape b h).1
  · exact (r.cell b c h).1
theorem Fr.refl (U : Addr → Prop) (W : Wd) (H : Hp) : Fr ⟨U, W, H⟩ U W H := ⟨fun _ _ h _ => .inl h, fun _ h => h, fun _ h => .inl h, fun _ h => .inl h, fun _ h => h, fun _ h => h, fun _ _ h _ => h⟩
theorem Fr.lq {K : PySem.W.Frag} {U U' : Addr → Prop} {W W' : Wd} {H H' : Hp} (r : Rw K U W H) (f : Fr ⟨U, W, H⟩ U' W' H') : Lq (Hd U H) (Hd U' H') := fun b o h => by
  obtain ⟨h, n⟩ := Hd.of h
  have nu : ¬ U' b := fun u => by
    rcases f.new b u with z | z
    · exact n z
    · have z : H b = none := z
      rw [h] at z; cases z
  rcases f.keep b o h fun m => n (r.hid (Wd.mt_w m)) with q | ⟨_, kvs, od, rfl, q⟩
  · exact .inl (Hd.get q nu)
  · exact .inr ⟨kvs, .inl rfl, .inr ⟨od, Hd.get q nu⟩⟩
theorem Fr.trans {K : PySem.W.Frag} {e : Ent} {U U' : Addr → Prop} {W W' : Wd} {H H' : Hp} (f : Fr e U W H) (g : Fr ⟨U, W, H⟩ U' W' H') (r : Rw K U W H) : Fr e U' W' H' where
  keep := fun b o h n => by
    have nm : ¬ W.mt b := fun m => by
      rcases f.wnew b (Wd.mt_w m) with z | z
      · rcases z with z | ⟨c, z⟩
        · exact n (.inl z)
        · by_cases q : c.isMut
          · exact n (.inr ⟨c, z, q⟩)
          · have := f.lk b c z q
            rcases m with m | ⟨c', m, q'⟩
            · rw [(r.tape b m).2.2] at this; cases this
            · rw [this] at m; cases m; exact q q'
      · rw [h] at z; cases z
    rcases f.keep b o h n with q | ⟨nu, kvs, od, rfl, q⟩
    · rcases g.keep b o q nm with z | ⟨nu, z⟩
      · exact .inl z
      · exact .inr ⟨fun u => nu (f.up b u), z⟩
    · exact .inr ⟨nu, kvs, od, rfl, (g.keep b _ q nm).frz⟩
  up := fun b h => g.up b (f.up b h)
  new := fun b h => by
    rcases g.new b h with z | z
    · exact f.new b z
    · refine .inr ?_
      cases e1 : e.H b with
      | none => rfl
      | some o => exact absurd z (f.there b (by rw [e1]; intro q; cases q))
  wnew := fun b h => by
    rcases g.wnew b h with z | z
    · exact f.wnew b z
    · refine .inr ?_
      cases e1 : e.H b with
      | none => rfl
      | some o => exact absurd z (f.there b (by rw [e1]; intro q; cases q))
  tp := fun b h => g.tp b (f.tp b h)
  there := fun b h => g.there b (f.there b h)
  lk := fun b c h n => g.lk b c (f.lk b c h n) n
inductive PC where
  | val (d : D) | ownL (ds : List D) | ownD (ks : List (Key × D))
structure PSt where
  ρ : List (Option PC)
  W : Wd
inductive Rv where
  | d (d : D) | own (j : Nat)
inductive Tm where
  | v (v : V) (r : Rv) | pin (b : Addr) (o : Obj) (w : HO) | nw (l : Addr) (ds : List D)
structure Ow (e : Ent) (U : Addr → Prop) (W : Wd) (l : Addr) : Prop where
  u : U l
  e0 : e.H l = none
  tp : ¬ W.Tp l
  w : W.ω l = none
def SlotOk (K : PySem.W.Frag) (e : Ent) (U : Addr → Prop) (W : Wd) (H : Hp) (v : V) : PC → Prop
  | .val d => Dv K W.Tp (Hd U H) v d
  | .ownL ds => ∃ l vs, v = .ref l ∧ Ow e U W l ∧ H l = some (.lst vs) ∧ DvL K W.Tp (Hd U H) vs ds
  | .ownD ks => ∃ l vs, v = .ref l ∧ Ow e U W l ∧ H l = some (.dK vs) ∧ DvK K W.Tp (Hd U H) vs ks
def PC.isOwn : PC → Prop
  | .val _ => False
  | _ => True
def NoSlot (σ : St) (S : PSt) (l : Addr) : Prop := ∀ (i : Nat) (c : PC), S.ρ[i]? = some (some c) → c.isOwn → σ[i]? ≠ some (some (.ref l))
def NoTm (T : List Tm) (l : Addr) : Prop := ∀ ds, Tm.nw l ds ∉ T
def TmOk (K : PySem.W.Frag) (e : Ent) (U : Addr → Prop) (S : PSt) (H : Hp) (σ : St) : Tm → Prop
  | .v v (.d d) => Dv K S.W.Tp (Hd U H) v d
  | .v v (.own j) => σ[j]? = some (some v)
  | .pin b o w => ¬ U b ∧ H b = some (.frz o w)
  | .nw l ds => Ow e U S.W l ∧ NoSlot σ S l ∧ ∃ vs, H l = some (.lst vs) ∧ DvL K S.W.Tp (Hd U H) vs ds
structure RU (K : PySem.W.Frag) (e : Ent) (σ : St) (H : Hp) (S : PSt) (T : List Tm) (U : Addr → Prop) : Prop where
  wo : Rw K U S.W H
  fr : Fr e U S.W H
  ed : ∀ b, e.U b → e.H b ≠ none
  len : σ.length = S.ρ.length
  slot : ∀ (i : Nat) (c : PC), S.ρ[i]? = some (some c) → ∃ v, σ[i]? = some (some v) ∧ SlotOk K e U S.W H v c
  sep : ∀ (i j : Nat) (c c' : PC) (l : Addr), i ≠ j → S.ρ[i]? = some (some c) → c.isOwn → S.ρ[j]? = some (some c') → c'.isOwn → σ[i]? = some (some (.ref l)) → σ[j]? = some (some (.ref l)) → False
  tmp : ∀ p ∈ T, TmOk K e U S H σ p
def R (K : PySem.W.Frag) (e : Ent) (σ : St) (H : Hp) (S : PSt) (T : List Tm) : Prop := ∃ U, RU K e σ H S T U
section
variable {K : PySem.W.Frag} {e : Ent} {σ : St} {H H' : Hp} {S : PSt} {T : List Tm} {U U' : Addr → Prop} {W' : Wd}
theorem Ow.to (g : Fr ⟨U, S.W, H⟩ U' W' H') {l : Addr} {u : HO} (o : Ow e U S.W l) (h2 : H l = some u) : Ow e U' W' l ∧ H' l = some u := by
  have nm : ¬ S.W.mt l := fun m => by
    rcases m with m | ⟨c, m, _⟩
    · exact o.tp m
    · rw [o.w] at m; cases m
  have nw : ¬ (W'.Tp l ∨ ∃ c, W'.ω l = some c) := fun m => by
    rcases g.wnew l m with z | z
    · rcases z with z | ⟨c, z⟩
      · exact o.tp z
      · have z : S.W.ω l = some c := z
        rw [o.w] at z; cases z
    · have z : H l = none := z
      rw [h2] at z; cases z
  refine ⟨⟨g.up l o.u, o.e0, fun z => nw (.inl z), ?_⟩, (g.keep l _ h2 nm).hid o.u⟩
  cases q : W'.ω l with
  | none => rfl
  | some c => exact (nw (.inr ⟨c, q⟩)).elim
theorem SlotOk.to (r : Rw K U S.W H) (g : Fr ⟨U, S.W, H⟩ U' W' H') {v : V} : ∀ {c : PC}, SlotOk K e U S.W H v c → SlotOk K e U' W' H' v c
  | .val d, h => Dv.le (g.lq r) g.tp h
  | .ownL ds, ⟨l, vs, h1, o, h2, h3⟩ => let ⟨a, b⟩ := Ow.to g o h2; ⟨l, vs, h1, a, b, DvL.le (g.lq r) g.tp h3⟩
  | .ownD ks, ⟨l, vs, h1, o, h2, h3⟩ => let ⟨a, b⟩ := Ow.to g o h2; ⟨l, vs, h1, a, b, DvK.le (g.lq r) g.tp h3⟩
theorem TmOk.to (r : Rw K U S.W H) (g : Fr ⟨U, S.W, H⟩ U' W' H') : ∀ {p : Tm}, TmOk K e U S H σ p → TmOk K e U' ⟨S.ρ, W'⟩ H' σ p
  | .v v (.d d), h => Dv.le (g.lq r) g.tp h
  | .v v (.own j), h => h
  | .pin b o w, ⟨n, h⟩ => by
      refine ⟨fun u => ?_, (g.keep b _ h fun m => n (r.hid (Wd.mt_w m))).frz⟩
      rcases g.new b u with z | z
      · exact n z
      · have z : H b = none := z
        rw [h] at z; cases z
  | .nw l ds, ⟨o, ns, vs, h2, h3⟩ => let ⟨a, b⟩ := Ow.to g o h2; ⟨a, ns, vs, b, DvL.le (g.lq r) g.tp h3⟩
theorem RU.to (x : RU K e σ H S T U) (r' : Rw K U' W' H') (g : Fr ⟨U, S.W, H⟩ U' W' H') : RU K e σ H' ⟨S.ρ, W'⟩ T U' where
  wo := r'
  fr := x.fr.trans g x.wo
  ed := x.ed
  len := x.len
  slot := fun i c h => let ⟨v, h1, h2⟩ := x.slot i c h; ⟨v, h1, h2.to x.wo g⟩
  sep := x.sep
  tmp := fun p hp => (x.tmp p hp).to x.wo g
theorem RU.less {T' : List Tm} (x : RU K e σ H S T U) (h : ∀ p ∈ T', p ∈ T) : RU K e σ H S T' U := { x with tmp := fun p hp => x.tmp p (h p hp) }
theorem R.less {T' : List Tm} (x : R K e σ H S T) (h : ∀ p ∈ T', p ∈ T) : R K e σ H S T' := let ⟨U, x⟩ := x; ⟨U, x.less h⟩
theorem R.pop {p : Tm} (x : R K e σ H S (p :: T)) : R K e σ H S T := x.less fun _ h => List.mem_cons_of_mem _ h
theorem RU.push (x : RU K e σ H S T U) {p : Tm} (h : TmOk K e U S H σ p) : RU K e σ H S (p :: T) U := by
  refine { x with tmp := fun q hq => ?_ }
  rcases List.mem_cons.mp hq with rfl | hq
  · exact h
  · exact x.tmp q hq
theorem same_upd {U : Addr → Prop} {H : Hp} {p : Addr} {o : HO} (hp : H p = none) : Same (Hd U H) (Hd U (upd H p o)) := fun b u h => by
  obtain ⟨h, n⟩ := Hd.of h
  exact Hd.get (by rw [upd_ne (ne_of_none h hp)]; exact h) n
theorem CellOk.le {Tp Tp' : Addr → Prop} {a : Addr} (e1 : Lq (Hd U H) (Hd U' H')) (et : ∀ t, Tp t → Tp' t) (ha : ∀ o, H a = some o → H' a = some o) : ∀ {c : Cell}, CellOk K Tp U H a c → CellOk K Tp' U' H' a c
  | .ins C fs, ⟨dx, vs, h1, h2⟩ => ⟨dx, vs, ha _ h1, DvF.le e1 et h2⟩
  | .lst ds, ⟨vs, h1, h2⟩ => ⟨vs, ha _ h1, DvL.le e1 et h2⟩
  | .dct ks, ⟨vs, h1, h2⟩ => ⟨vs, ha _ h1, DvK.le e1 et h2⟩
  | .lk od vs ks, ⟨h1, h2⟩ => ⟨ha _ h1, DvK.le e1 et h2⟩
  | .dtn w o ks, ⟨xs, h1, h2⟩ => ⟨xs, ha _ h1, DvN.le e1 et h2⟩
theorem Tape.le {t : Addr} (ha : ∀ o, H t = some o → H' t = some o) (h : Tape H t) : Tape H' t := let ⟨ns, h⟩ := h; ⟨ns, ha _ h⟩
theorem Rw.alloc {W : Wd} {p : Addr} {o : HO} (r : Rw K U W H) (hp : H p = none) : Rw K U W (upd H p o) where
  dom := fun b u => by
    by_cases c : b = p
    · subst c; exact absurd hp (r.dom b u)
    · rw [upd_ne c]; exact r.dom b u
  tape := fun t h => let ⟨a, b, c⟩ := r.tape t h; ⟨a, b.le fun o q => by rw [upd_ne (ne_of_none q hp)]; exact q, c⟩
  cell := fun a c h => let ⟨u, q⟩ := r.cell a c h; ⟨u, q.le (Same.lq (same_upd hp)) (fun _ z => z) fun o q => by rw [upd_ne (ne_of_none q hp)]; exact q⟩
theorem Fr.alloc {W : Wd} {p : Addr} {o : HO} (hp : H p = none) : Fr ⟨U, W, H⟩ U W (upd H p o) where
  keep := fun b u h _ => by rw [upd_ne (ne_of_none h hp)]; exact .inl h
  up := fun _ h => h
  new := fun _ h => .inl h
  wnew := fun _ h => .inl h
  tp := fun _ h => h
  there := fun b h => by
    by_cases c : b = p
    · subst c; exact absurd hp h
    · rw [upd_ne c]; exact h
  lk := fun _ _ h _ => h
theorem RU.alloc (x : RU K e σ H S T U) {p : Addr} {o : HO} (hp : H p = none) : RU K e σ (upd H p o) S T U := x.to (x.wo.alloc hp) (Fr.alloc hp)
theorem RU.fresh (x : RU K e σ H S T U) {p : Addr} (hp : H p = none) : ¬ U p := fun u => x.wo.dom p u hp
theorem RU.free0 (x : RU K e σ H S T U) {p : Addr} (hp : H p = none) : e.H p = none := by
  cases q : e.H p with
  | none => rfl
  | some o => exact absurd hp (x.fr.there p (by rw [q]; intro z; cases z))
theorem RU.setVal (x : RU K e σ H S T U) {i : Nat} {v : V} {d : D} (h : Dv K S.W.Tp (Hd U H) v d) (ht : ∀ p ∈ T, ∀ w, p ≠ .v w (.own i)) : RU K e (σ.set i (some v)) H ⟨S.ρ.set i (some (.val d)), S.W⟩ T U where
  wo := x.wo
  fr := x.fr
  ed := x.ed
  len := by simp [x.len]
  slot := fun j c hj => by
    rw [List.getElem?_set] at hj ⊢
    by_cases q : i = j
    · subst q
      rw [if_pos rfl] at hj ⊢
      by_cases z : i < S.ρ.length
      · rw [if_pos z] at hj
        cases hj
        rw [if_pos (by rw [x.len]; exact z)]
        exact ⟨v, rfl, h⟩
      · rw [if_neg z] at hj; cases hj
    · rw [if_neg q] at hj ⊢
      exact x.slot j c hj
  sep := fun j k c c' l n hj oj hk ok sj sk => by
    rw [List.getElem?_set] at hj hk sj sk
    by_cases q : i = j
    · subst q
      rw [if_pos rfl] at hj
      split at hj
      · cases hj; exact oj
      · cases hj
    · by_cases q2 : i = k
      · subst q2
        rw [if_pos rfl] at hk
        split at hk
        · cases hk; exact ok
        · cases hk
      · rw [if_neg q] at hj sj
        rw [if_neg q2] at hk sk
        exact x.sep j k c c' l n hj oj hk ok sj sk
  tmp := fun p hp => by
    have := x.tmp p hp
    match p, this, ht p hp with
    | .v w (.d d), h, _ => exact h
    | .v w (.own j), h, n =>
      show (σ.set i (some v))[j]? = some (some w)
      have z : i ≠ j := fun z => n w (by rw [z])
      rw [List.getElem?_set, if_neg z]; exact h
    | .pin b o w, h, _ => exact h
    | .nw l ds, ⟨o, ns, h⟩, _ =>
      refine ⟨o, fun j c hj oc => ?_, h⟩
      have hj : (S.ρ.set i (some (.val d)))[j]? = some (some c) := hj
      show (σ.set i (some v))[j]? ≠ _
      rw [List.getElem?_set] at hj ⊢
      by_cases q : i = j
      · rw [if_pos q] at hj
        split at hj
        · cases hj; exact oc.elim
        · cases hj
      · rw [if_neg q] at hj ⊢
        exact ns j c hj oc
theorem Hd.lock {a : Addr} {od : Obj} {xs : List (Key × V)} (h : H a = some (.dK xs)) (n : ¬ U a) : Lq (Hd U H) (Hd U (upd H a (.frz od (.dK xs)))) := fun b o q => by
  obtain ⟨q, nb⟩ := Hd.of q
  by_cases c : b = a
  · subst c
    rw [h] at q; cases q
    exact .inr ⟨xs, .inl rfl, .inr ⟨od, Hd.get upd_same nb⟩⟩
  · exact .inl (Hd.get (by rw [upd_ne c]; exact q) nb)
theorem Rw.lock {W : Wd} {a : Addr} {od : Obj} {xs : List (Key × V)} (r : Rw K U W H) (h : H a = some (.dK xs)) (n : ¬ U a) : Rw K U W (upd H a (.frz od (.dK xs))) where
  dom := fun b u => by
    by_cases c : b = a
    · subst c; rw [upd_same]; intro z; cases z
    · rw [upd_ne c]; exact r.dom b u
  tape := fun t ht => let ⟨a1, b, c⟩ := r.tape t ht; ⟨a1, b.le fun o q => by rw [upd_ne (show t ≠ a from fun z => n (z ▸ a1))]; exact q, c⟩
  cell := fun b c hc => let ⟨u, q⟩ := r.cell b c hc; ⟨u, q.le (Hd.lock h n) (fun _ z => z) fun o q => by rw [upd_ne (show b ≠ a from fun z => n (z ▸ u))]; exact q⟩
theorem Fr.lock {W : Wd} {a : Addr} {od : Obj} {xs : List (Key × V)} (h : H a = some (.dK xs)) (n : ¬ U a) : Fr ⟨U, W, H⟩ U W (upd H a (.frz od (.dK xs))) where
  keep := fun b o q _ => by
    by_cases c : b = a
    · subst c
      have q : H b = some o := q
      rw [h] at q; cases q
      exact .inr ⟨n, xs, od, rfl, upd_same⟩
    · exact .inl (by rw [upd_ne c]; exact q)
  up := fun _ h => h
  new := fun _ h => .inl h
  wnew := fun _ h => .inl h
  tp := fun _ h => h
  there := fun b q => by
    by_cases c : b = a
    · subst c; rw [upd_same]; intro z; cases z
    · rw [upd_ne c]; exact q
  lk := fun _ _ h _ => h
theorem RU.lock (x : RU K e σ H S T U) {a : Addr} {od : Obj} {xs : List (Key × V)} (h : H a = some (.dK xs)) (n : ¬ U a) : RU K e σ (upd H a (.frz od (.dK xs))) S (.pin a od (.dK xs) :: T) U := (x.to (x.wo.lock h n) (Fr.lock h n)).push ⟨n, upd_same⟩
end
end Kn
set_option Elab.async false
set_option maxRecDepth 100000
set_option linter.all false
set_option autoImplicit false
namespace Kn
open PySem L2
section
variable {K : PySem.W.Frag} {e : Ent} {σ : St} {H H' : Hp} {S : PSt} {T : List Tm} {U U' : Addr → Prop} {W' : Wd}
theorem Hd.less {l : Addr} : Same (Hd U H) (Hd (fun b => U b ∧ b ≠ l) H) := fun b o h => by
  obtain ⟨h, n⟩ := Hd.of h
  exact Hd.get h fun z => n z.1
theorem Rw.less {W : Wd} {l : Addr} (r : Rw K U W H) (tp : ¬ W.Tp l) (w : W.ω l = none) : Rw K (fun b => U b ∧ b ≠ l) W H where
  dom := fun b u => r.dom b u.1
  tape := fun t h => let ⟨a, b, c⟩ := r.tape t h; ⟨⟨a, fun z => tp (z ▸ h)⟩, b, c⟩
  cell := fun a c h => let ⟨u, q⟩ := r.cell a c h; ⟨⟨u, fun z => by rw [z, w] at h; cases h⟩, q.le (Same.lq Hd.less) (fun _ z => z) fun o q => q⟩
theorem SlotOk.less {W : Wd} {l : Addr} {v : V} : ∀ {c : PC}, (c.isOwn → v ≠ .ref l) → SlotOk K e U W H v c → SlotOk K e (fun b => U b ∧ b ≠ l) W H v c
  | .val d, _, h => Dv.le (Same.lq Hd.less) (fun _ z => z) h
  | .ownL ds, n, ⟨m, vs, h1, o, h2, h3⟩ => ⟨m, vs, h1, ⟨⟨o.u, fun z => n trivial (by rw [h1, z])⟩, o.e0, o.tp, o.w⟩, h2, DvL.le (Same.lq Hd.less) (fun _ z => z) h3⟩
  | .ownD ds, n, ⟨m, vs, h1, o, h2, h3⟩ => ⟨m, vs, h1, ⟨⟨o.u, fun z => n trivial (by rw [h1, z])⟩, o.e0, o.tp, o.w⟩, h2, DvK.le (Same.lq Hd.less) (fun _ z => z) h3⟩
theorem TmOk.less {l : Addr} : ∀ {p : Tm}, (∀ ds, p ≠ .nw l ds) → TmOk K e U S H σ p → TmOk K e (fun b => U b ∧ b ≠ l) S H σ p
  | .v v (.d d), _, h => Dv.le (Same.lq Hd.less) (fun _ z => z) h
  | .v v (.own j), _, h => h
  | .pin b o w, _, ⟨n, h⟩ => ⟨fun z => n z.1, h⟩
  | .nw m ds, n, ⟨o, ns, vs, h, h2⟩ => ⟨⟨⟨o.u, fun z => n ds (by rw [z])⟩, o.e0, o.tp, o.w⟩, ns, vs, h, DvL.le (Same.lq Hd.less) (fun _ z => z) h2⟩
theorem NoTm.ne {l : Addr} (h : NoTm T l) : ∀ p ∈ T, ∀ ds, p ≠ .nw l ds := fun p hp ds z => h ds (z ▸ hp)
theorem RU.thaw (x : RU K e σ H S T U) {l : Addr} (o : Ow e U S.W l) (ns : NoSlot σ S l) (nt : NoTm T l) : RU K e σ H S T (fun b => U b ∧ b ≠ l) where
  wo := x.wo.less o.tp o.w
  fr := { x.fr with
    up := fun b h => ⟨x.fr.up b h, fun z => x.ed b h (z ▸ o.e0)⟩
    new := fun b h => x.fr.new b h.1 }
  ed := x.ed
  len := x.len
  slot := fun i c h => by
    obtain ⟨v, h1, h2⟩ := x.slot i c h
    exact ⟨v, h1, h2.less fun q z => ns i c h q (by rw [h1, z])⟩
  sep := x.sep
  tmp := fun p hp => (x.tmp p hp).less (nt.ne p hp)
structure RN (K : PySem.W.Frag) (e : Ent) (σ : St) (H : Hp) (S : PSt) (T : List Tm) (l : Addr) (ds : List D) : Prop where
  ex : ∃ U vs, RU K e σ H S T U ∧ Ow e U S.W l ∧ NoSlot σ S l ∧ NoTm T l ∧ H l = some (.lst vs) ∧ DvL K S.W.Tp (Hd U H) vs ds
structure RNd (K : PySem.W.Frag) (e : Ent) (σ : St) (H : Hp) (S : PSt) (T : List Tm) (l : Addr) (ks : List (Key × D)) : Prop where
  ex : ∃ U vs, RU K e σ H S T U ∧ Ow e U S.W l ∧ NoSlot σ S l ∧ NoTm T l ∧ H l = some (.dK vs) ∧ DvK K S.W.Tp (Hd U H) vs ks
theorem RN.frozen {l : Addr} {ds : List D} (x : RN K e σ H S T l ds) : R K e σ H S (.v (.ref l) (.d (.lst ds)) :: T) := by
  obtain ⟨U, vs, x, o, ns, nt, h, hv⟩ := x.ex
  exact ⟨_, (x.thaw o ns nt).push (.lst (Hd.get h fun z => z.2 rfl) (DvL.le (Same.lq Hd.less) (fun _ z => z) hv))⟩
theorem RNd.frozen {l : Addr} {ks : List (Key × D)} (x : RNd K e σ H S T l ks) : R K e σ H S (.v (.ref l) (.d (.dct ks)) :: T) := by
  obtain ⟨U, vs, x, o, ns, nt, h, hv⟩ := x.ex
  exact ⟨_, (x.thaw o ns nt).push (.dct (.inl (Hd.get h fun z => z.2 rfl)) (DvK.le (Same.lq Hd.less) (fun _ z => z) hv))⟩
theorem Hd.more {p : Addr} {o : HO} (hp : H p = none) : Same (Hd U H) (Hd (fun b => U b ∨ b = p) (upd H p o)) := fun b u h => by
  obtain ⟨h, n⟩ := Hd.of h
  have nb := ne_of_none h hp
  exact Hd.get (by rw [upd_ne nb]; exact h) fun z => z.elim n nb
theorem Rw.more {W : Wd} {p : Addr} {o : HO} (r : Rw K U W H) (hp : H p = none) : Rw K (fun b => U b ∨ b = p) W (upd H p o) where
  dom := fun b u => by
    by_cases c : b = p
    · subst c; rw [upd_same]; intro z; cases z
    · rw [upd_ne c]; exact r.dom b (u.resolve_right c)
  tape := fun t h => let ⟨a, b, c⟩ := r.tape t h; ⟨.inl a, b.le fun o q => by rw [upd_ne (ne_of_none q hp)]; exact q, c⟩
  cell := fun a c h => let ⟨u, q⟩ := r.cell a c h; ⟨.inl u, q.le (Same.lq (Hd.more hp)) (fun _ z => z) fun o q => by rw [upd_ne (ne_of_none q hp)]; exact q⟩
theorem Fr.more {W : Wd} {p : Addr} {o : HO} (hp : H p = none) : Fr ⟨U, W, H⟩ (fun b => U b ∨ b = p) W (upd H p o) where
  keep := fun b u h _ => by rw [upd_ne (ne_of_none h hp)]; exact .inl h
  up := fun _ h => .inl h
  new := fun b h => h.elim .inl fun z => .inr (z ▸ hp)
  wnew := fun _ h => .inl h
  tp := fun _ h => h
  there := fun b h => by
    by_cases c : b = p
    · subst c; exact absurd hp h
    · rw [upd_ne c]; exact h
  lk := fun _ _ h _ => h
theorem RU.moreU (x : RU K e σ H S T U) {p : Addr} {o : HO} (hp : H p = none) : RU K e σ (upd H p o) S T (fun b => U b ∨ b = p) ∧ Ow e (fun b => U b ∨ b = p) S.W p ∧ NoSlot σ S p ∧ NoTm T p := by
  have nU := x.fresh hp
  have ntp : ¬ S.W.Tp p := fun h => nU (x.wo.hid (.inl h))
  have nw : S.W.ω p = none := by
    cases q : S.W.ω p with
    | none => rfl
    | some c => exact (nU (x.wo.hid (.inr ⟨c, q⟩))).elim
  refine ⟨x.to (x.wo.more hp) (Fr.more hp), ⟨.inr rfl, x.free0 hp, ntp, nw⟩, fun i c h oc z => ?_, fun ds hm => ?_⟩
  rotate_left
  · obtain ⟨o, _⟩ := x.tmp _ hm
    exact nU o.u
  obtain ⟨v, h1, h2⟩ := x.slot i c h
  rw [h1] at z; cases z
  match c, oc, h2 with
  | .ownL ds, _, ⟨l, vs, e1, o1, _⟩ => cases e1; exact nU o1.u
  | .ownD ds, _, ⟨l, vs, e1, o1, _⟩ => cases e1; exact nU o1.u
theorem RU.newL (x : RU K e σ H S T U) {p : Addr} {vs : List V} {ds : List D} (hp : H p = none) (hv : DvL K S.W.Tp (Hd U H) vs ds) : RN K e σ (upd H p (.lst vs)) S T p ds := by
  obtain ⟨a, b, c, f⟩ := x.moreU (o := .lst vs) hp
  exact ⟨_, vs, a, b, c, f, upd_same, DvL.le (Same.lq (Hd.more hp)) (fun _ z => z) hv⟩
theorem RU.newD (x : RU K e σ H S T U) {p : Addr} {vs : List (Key × V)} {ks : List (Key × D)} (hp : H p = none) (hv : DvK K S.W.Tp (Hd U H) vs ks) : RNd K e σ (upd H p (.dK vs)) S T p ks := by
  obtain ⟨a, b, c, f⟩ := x.moreU (o := .dK vs) hp
  exact ⟨_, vs, a, b, c, f, upd_same, DvK.le (Same.lq (Hd.more hp)) (fun _ z => z) hv⟩
def NoOwn (T : List Tm) : Prop := ∀ p ∈ T, ∀ w j, p ≠ .v w (.own j)
theorem RU.setOwn (x : RU K e σ H S T U) {i : Nat} {l : Addr} {c : PC} (h : SlotOk K e U S.W H (.ref l) c) (ns : NoSlot σ S l) (nt : NoTm T l) (ht : NoOwn T) : RU K e (σ.set i (some (.ref l))) H ⟨S.ρ.set i (some c), S.W⟩ T U where
  wo := x.wo
  fr := x.fr
  ed := x.ed
  len := by simp [x.len]
  slot := fun j c' hj => by
    rw [List.getElem?_set] at hj ⊢
    by_cases q : i = j
    · subst q
      rw [if_pos rfl] at hj ⊢
      by_cases z : i < S.ρ.length
      · rw [if_pos z] at hj
        cases hj
        rw [if_pos (by rw [x.len]; exact z)]
        exact ⟨_, rfl, h⟩
      · rw [if_neg z] at hj; cases hj
    · rw [if_neg q] at hj ⊢
      exact x.slot j c' hj
  sep := fun j k c1 c2 m n hj oj hk ok sj sk => by
    rw [List.getElem?_set] at hj hk sj sk
    by_cases q : i = j
    · subst q
      rw [if_neg n] at hk sk
      rw [if_pos rfl] at sj
      split at sj
      · cases sj; exact ns k c2 hk ok sk
      · cases sj
    · rw [if_neg q] at hj sj
      by_cases q2 : i = k
      · subst q2
        rw [if_pos rfl] at sk
        split at sk
        · cases sk; exact ns j c1 hj oj sj
        · cases sk
      · rw [if_neg q2] at hk sk
        exact x.sep j k c1 c2 m n hj oj hk ok sj sk
  tmp := fun p hp => by
    have := x.tmp p hp
    match p, this, ht p hp with
    | .v w (.d d), h, _ => exact h
    | .v w (.own j), h, n => exact (n w j rfl).elim
    | .pin b o w, h, _ => exact h
    | .nw m ds, ⟨o, ms, h⟩, _ =>
      refine ⟨o, fun j c' hj oc => ?_, h⟩
      have hj : (S.ρ.set i (some c))[j]? = some (some c') := hj
      show (σ.set i (some (.ref l)))[j]? ≠ _
      rw [List.getElem?_set] at hj ⊢
      by_cases q : i = j
      · rw [if_pos q]
        split
        · intro z; cases z; exact nt ds hp
        · intro z; cases z
      · rw [if_neg q] at hj ⊢
        exact ms j c' hj oc
theorem RN.slot {l : Addr} {ds : List D} (x : RN K e σ H S T l ds) (i : Nat) (ht : NoOwn T) : R K e (σ.set i (some (.ref l))) H ⟨S.ρ.set i (some (.ownL ds)), S.W⟩ T := by
  obtain ⟨U, vs, x, o, ns, nt, h, hv⟩ := x.ex
  exact ⟨U, x.setOwn ⟨l, vs, rfl, o, h, hv⟩ ns nt ht⟩
theorem RNd.slot {l : Addr} {ks : List (Key × D)} (x : RNd K e σ H S T l ks) (i : Nat) (ht : NoOwn T) : R K e (σ.set i (some (.ref l))) H ⟨S.ρ.set i (some (.ownD ks)), S.W⟩ T := by
  obtain ⟨U, vs, x, o, ns, nt, h, hv⟩ := x.ex
  exact ⟨U, x.setOwn ⟨l, vs, rfl, o, h, hv⟩ ns nt ht⟩
theorem RU.freeze (x : RU K e σ H S T U) {j : Nat} {l : Addr} {c : PC} (hc : S.ρ[j]? = some (some c)) (oc : c.isOwn) (hs : σ[j]? = some (some (.ref l))) (o : Ow e U S.W l) {d : D} (hd : Dv K S.W.Tp (Hd (fun b => U b ∧ b ≠ l) H) (.ref l) d) :
    RU K e σ H ⟨S.ρ.set j (some (.val d)), S.W⟩ T (fun b => U b ∧ b ≠ l) where
  wo := x.wo.less o.tp o.w
  fr := { x.fr with
    up := fun b h => ⟨x.fr.up b h, fun z => x.ed b h (z ▸ o.e0)⟩
    new := fun b h => x.fr.new b h.1 }
  ed := x.ed
  len := by simp [x.len]
  slot := fun i c' h => by
    rw [List.getElem?_set] at h
    by_cases q : j = i
    · subst q
      rw [if_pos rfl] at h
      split at h
      · cases h; exact ⟨_, hs, hd⟩
      · cases h
    · rw [if_neg q] at h
      obtain ⟨v, h1, h2⟩ := x.slot i c' h
      exact ⟨v, h1, h2.less fun oc' z => x.sep j i c c' l q hc oc h oc' hs (by rw [h1, z])⟩
  sep := fun i k c1 c2 m n hi oi hk ok si sk => by
    rw [List.getElem?_set] at hi hk
    by_cases q : j = i
    · rw [if_pos q] at hi
      split at hi
      · cases hi; exact oi
      · cases hi
    · rw [if_neg q] at hi
      by_cases q2 : j = k
      · rw [if_pos q2] at hk
        split at hk
        · cases hk; exact ok
        · cases hk
      · rw [if_neg q2] at hk
        exact x.sep i k c1 c2 m n hi oi hk ok si sk
  tmp := fun p hp => by
    have h := x.tmp p hp
    have n : ∀ ds, p ≠ .nw l ds := fun ds z => by
      subst z
      exact h.2.1 j c hc oc hs
    have h := h.less n
    match p, h with
    | .v v (.d d), h => exact h
    | .v v (.own j), h => exact h
    | .pin b o w, h => exact h
    | .nw m ds, ⟨o, ms, h⟩ =>
      refine ⟨o, fun i c' hi oc' => ?_, h⟩
      have hi : (S.ρ.set j (some (.val d)))[i]? = some (some c') := hi
      rw [List.getElem?_set] at hi
      by_cases q : j = i
      · rw [if_pos q] at hi
        split at hi
        · cases hi; exact oc'.elim
        · cases hi
      · rw [if_neg q] at hi
        exact ms i c' hi oc'
end
end Kn
set_option Elab.async false
set_option maxRecDepth 100000
set_option linter.all false
set_option autoImplicit false
namespace Kn
open PySem L2
section
variable {K : PySem.W.Frag} {e : Ent} {σ : St} {H H' : Hp} {S : PSt} {T : List Tm} {U U' : Addr → Prop} {W' : Wd}
theorem Hd.upd {l : Addr} {o : HO} (u : U l) : Same (Hd U H) (Hd U (L2.upd H l o)) := fun b q h => by
  obtain ⟨h, n⟩ := Hd.of h
  exact Hd.get (by rw [upd_ne (show b ≠ _ from fun z => n (z ▸ u))]; exact h) n
theorem Rw.upd {W : Wd} {l : Addr} {o : HO} (r : Rw K U W H) (u : U l) (tp : ¬ W.Tp l) (w : W.ω l = none) : Rw K U W (L2.upd H l o) where
  dom := fun b h => by
    by_cases c : b = l
    · subst c; rw [upd_same]; intro z; cases z
    · rw [upd_ne c]; exact r.dom b h
  tape := fun t h => let ⟨a, b, c⟩ := r.tape t h; ⟨a, b.le fun o q => by rw [upd_ne (show t ≠ l from fun z => tp (z ▸ h))]; exact q, c⟩
  cell := fun a c h => let ⟨u', q⟩ := r.cell a c h; ⟨u', q.le (Same.lq (Hd.upd u)) (fun _ z => z) fun o q => by rw [upd_ne (show a ≠ l from fun z => by rw [z, w] at h; cases h)]; exact q⟩
theorem Fr.upd (x : Fr e U S.W H) {l : Addr} {o : HO} (h0 : e.H l = none ∨ e.W.mt l) : Fr e U S.W (L2.upd H l o) := { x with
  keep := fun b q h n => by
    have nb : b ≠ l := fun z => by
      rcases h0 with h0 | h0
      · rw [z, h0] at h; cases h
      · exact n (z ▸ h0)
    rw [upd_ne nb]; exact x.keep b q h n
  there := fun b h => by
    by_cases c : b = l
    · subst c; rw [upd_same]; intro z; cases z
    · rw [upd_ne c]; exact x.there b h }
theorem SlotOk.upd {W : Wd} {l : Addr} {o : HO} {v : V} (u : U l) : ∀ {c : PC}, (c.isOwn → v ≠ .ref l) → SlotOk K e U W H v c → SlotOk K e U W (L2.upd H l o) v c
  | .val d, _, h => Dv.le (Same.lq (Hd.upd u)) (fun _ z => z) h
  | .ownL ds, n, ⟨m, vs, h1, ow, h2, h3⟩ => ⟨m, vs, h1, ow, by rw [upd_ne (show m ≠ l from fun z => n trivial (by rw [h1, z]))]; exact h2, DvL.le (Same.lq (Hd.upd u)) (fun _ z => z) h3⟩
  | .ownD ds, n, ⟨m, vs, h1, ow, h2, h3⟩ => ⟨m, vs, h1, ow, by rw [upd_ne (show m ≠ l from fun z => n trivial (by rw [h1, z]))]; exact h2, DvK.le (Same.lq (Hd.upd u)) (fun _ z => z) h3⟩
theorem TmOk.upd {l : Addr} {o : HO} (u : U l) : ∀ {p : Tm}, (∀ ds, p ≠ .nw l ds) → TmOk K e U S H σ p → TmOk K e U S (L2.upd H l o) σ p
  | .v v (.d d), _, h => Dv.le (Same.lq (Hd.upd u)) (fun _ z => z) h
  | .v v (.own j), _, h => h
  | .nw m ds, n, ⟨ow, ns, vs, h, h2⟩ => ⟨ow, ns, vs, by rw [upd_ne (show m ≠ l from fun z => n ds (by rw [z]))]; exact h, DvL.le (Same.lq (Hd.upd u)) (fun _ z => z) h2⟩
  | .pin b o w, _, ⟨n, h⟩ => ⟨n, by rw [upd_ne (show b ≠ _ from fun z => n (z ▸ u))]; exact h⟩
theorem RU.updN (x : RU K e σ H S T U) {l : Addr} {o : HO} (ow : Ow e U S.W l) (ns : NoSlot σ S l) (nt : NoTm T l) : RU K e σ (L2.upd H l o) S T U where
  wo := x.wo.upd ow.u ow.tp ow.w
  fr := x.fr.upd (.inl ow.e0)
  ed := x.ed
  len := x.len
  slot := fun i c h => let ⟨v, h1, h2⟩ := x.slot i c h; ⟨v, h1, h2.upd ow.u fun q z => ns i c h q (by rw [h1, z])⟩
  sep := x.sep
  tmp := fun p hp => (x.tmp p hp).upd ow.u (nt.ne p hp)
theorem RN.tail {T1 : List Tm} {l : Addr} {ds : List D} (x : RN K e σ H S (T1 ++ T) l ds) : RN K e σ H S T l ds := by
  obtain ⟨U, vs, x, ow, ns, nt, h, hv⟩ := x.ex
  exact ⟨U, vs, x.less fun p hp => List.mem_append_right _ hp, ow, ns, fun ds hm => nt ds (List.mem_append_right _ hm), h, hv⟩
theorem RN.app {l : Addr} {ds : List D} {v : V} {d : D} (x : RN K e σ H S (.v v (.d d) :: T) l ds) : ∃ vs, H l = some (.lst vs) ∧ vs.length = ds.length ∧ RN K e σ (L2.upd H l (.lst (vs ++ [v]))) S T l (ds ++ [d]) := by
  obtain ⟨U, vs, x, ow, ns, nt, h, hv⟩ := x.ex
  have nt' : NoTm T l := fun ds hm => nt ds (List.mem_cons_of_mem _ hm)
  refine ⟨vs, h, hv.len, U, vs ++ [v], (x.less fun p hp => List.mem_cons_of_mem _ hp).updN ow ns nt', ow, ns, nt', upd_same, ?_⟩
  refine DvL.le (Same.lq (Hd.upd ow.u)) (fun _ z => z) (hv.app (.cons ?_ .nil))
  exact x.tmp (.v v (.d d)) (by simp)
theorem RU.updO (x : RU K e σ H S T U) {j : Nat} {l : Addr} {o : HO} {c c' : PC} (hc : S.ρ[j]? = some (some c)) (oc : c.isOwn) (oc' : c'.isOwn) (hs : σ[j]? = some (some (.ref l))) (ow : Ow e U S.W l) (hn : SlotOk K e U S.W (L2.upd H l o) (.ref l) c') :
    RU K e σ (L2.upd H l o) ⟨S.ρ.set j (some c'), S.W⟩ T U where
  wo := x.wo.upd ow.u ow.tp ow.w
  fr := x.fr.upd (.inl ow.e0)
  ed := x.ed
  len := by simp [x.len]
  slot := fun i k h => by
    rw [List.getElem?_set] at h
    by_cases q : j = i
    · subst q
      rw [if_pos rfl] at h
      split at h
      · cases h; exact ⟨_, hs, hn⟩
      · cases h
    · rw [if_neg q] at h
      obtain ⟨v, h1, h2⟩ := x.slot i k h
      exact ⟨v, h1, h2.upd ow.u fun ok z => x.sep j i c k l q hc oc h ok hs (by rw [h1, z])⟩
  sep := fun i k c1 c2 m n hi oi hk ok si sk => by
    rw [List.getElem?_set] at hi hk
    by_cases q : j = i
    · subst q
      rw [if_neg n] at hk
      exact x.sep j k c c2 m n hc oc hk ok si sk
    · rw [if_neg q] at hi
      by_cases q2 : j = k
      · subst q2
        exact x.sep i j c1 c m n hi oi hc oc si sk
      · rw [if_neg q2] at hk
        exact x.sep i k c1 c2 m n hi oi hk ok si sk
  tmp := fun p hp => by
    have h := x.tmp p hp
    have n : ∀ ds, p ≠ .nw l ds := fun ds z => by
      subst z
      exact h.2.1 j c hc oc hs
    have h := h.upd (o := o) ow.u n
    match p, h with
    | .v v (.d d), h => exact h
    | .v v (.own j), h => exact h
    | .pin b o w, h => exact h
    | .nw m ds, ⟨om, ms, h⟩ =>
      refine ⟨om, fun i c1 hi oc1 => ?_, h⟩
      have hi : (S.ρ.set j (some c'))[i]? = some (some c1) := hi
      rw [List.getElem?_set] at hi
      by_cases q : j = i
      · subst q
        exact ms j c hc oc
      · rw [if_neg q] at hi
        exact ms i c1 hi oc1
theorem RU.ownL (x : RU K e σ H S T U) {j : Nat} {ds : List D} (hc : S.ρ[j]? = some (some (.ownL ds))) : ∃ l vs, σ[j]? = some (some (.ref l)) ∧ Ow e U S.W l ∧ H l = some (.lst vs) ∧ DvL K S.W.Tp (Hd U H) vs ds := by
  obtain ⟨v, h1, l, vs, rfl, h2⟩ := x.slot j _ hc
  exact ⟨l, vs, h1, h2⟩
theorem RU.ownD (x : RU K e σ H S T U) {j : Nat} {ds : List (Key × D)} (hc : S.ρ[j]? = some (some (.ownD ds))) : ∃ l vs, σ[j]? = some (some (.ref l)) ∧ Ow e U S.W l ∧ H l = some (.dK vs) ∧ DvK K S.W.Tp (Hd U H) vs ds := by
  obtain ⟨v, h1, l, vs, rfl, h2⟩ := x.slot j _ hc
  exact ⟨l, vs, h1, h2⟩
open Classical in
noncomputable def Wd.put (W : Wd) (a : Addr) (c : Cell) : Wd := ⟨W.Tp, fun b => if b = a then some c else W.ω b⟩
theorem Wd.put_same {W : Wd} {a : Addr} {c : Cell} : (W.put a c).ω a = some c := by unfold Wd.put; simp
theorem Wd.put_ne {W : Wd} {a b : Addr} {c : Cell} (h : b ≠ a) : (W.put a c).ω b = W.ω b := by unfold Wd.put; simp [h]
theorem RU.updC (x : RU K e σ H S T U) {a : Addr} {o : HO} {c c' : Cell} (hc : S.W.ω a = some c) (mc : c.isMut) (hn : CellOk K S.W.Tp U (L2.upd H a o) a c') : RU K e σ (L2.upd H a o) ⟨S.ρ, S.W.put a c'⟩ T U := by
  have u := (x.wo.cell a c hc).1
  have h0 : e.H a = none ∨ e.W.mt a := by
    rcases x.fr.wnew a (.inr ⟨c, hc⟩) with (z | ⟨c0, z⟩) | z
    · exact .inr (.inl z)
    · by_cases q : c0.isMut
      · exact .inr (.inr ⟨c0, z, q⟩)
      · have := x.fr.lk a c0 z q
        rw [hc] at this; cases this; exact (q mc).elim
    · exact .inl z
  have f1 : Fr e U (S.W.put a c') (L2.upd H a o) := by
    have f := x.fr.upd (o := o) h0
    exact { f with
      wnew := fun b h => by
        by_cases q : b = a
        · subst q; exact x.fr.wnew b (.inr ⟨c, hc⟩)
        · refine x.fr.wnew b ?_
          rcases h with h | ⟨c1, h⟩
          · exact .inl h
          · rw [Wd.put_ne q] at h; exact .inr ⟨c1, h⟩
      lk := fun b c1 h n => by
        by_cases q : b = a
        · subst q
          have := x.fr.lk b c1 h n
          rw [hc] at this; cases this; exact (n mc).elim
        · rw [Wd.put_ne q]; exact x.fr.lk b c1 h n }
  exact {
    wo := {
      dom := fun b h => by
        by_cases q : b = a
        · subst q; rw [upd_same]; intro z; cases z
        · rw [upd_ne q]; exact x.wo.dom b h
      tape := fun t h => by
        obtain ⟨a1, b1, c1⟩ := x.wo.tape t h
        have nt : t ≠ a := fun z => by rw [z, hc] at c1; cases c1
        exact ⟨a1, b1.le fun o q => by rw [upd_ne nt]; exact q, by rw [Wd.put_ne nt]; exact c1⟩
      cell := fun b c1 h => by
        by_cases q : b = a
        · subst q
          rw [Wd.put_same] at h; cases h
          exact ⟨u, hn⟩
        · rw [Wd.put_ne q] at h
          obtain ⟨u', k⟩ := x.wo.cell b c1 h
          exact ⟨u', k.le (Same.lq (Hd.upd u)) (fun _ z => z) fun o k => by rw [upd_ne q]; exact k⟩ }
    fr := f1
    ed := x.ed
    len := x.len
    slot := fun i c1 h => by
      obtain ⟨v, h1, h2⟩ := x.slot i c1 h
      refine ⟨v, h1, ?_⟩
      have nv : ∀ m, Ow e U S.W m → m ≠ a := fun m ow z => by rw [← z, ow.w] at hc; cases hc
      match c1, h2 with
      | .val d, h2 => exact Dv.le (Same.lq (Hd.upd u)) (fun _ z => z) h2
      | .ownL ds, ⟨m, vs, e1, ow, e2, e3⟩ => exact ⟨m, vs, e1, ⟨ow.u, ow.e0, ow.tp, by rw [Wd.put_ne (nv m ow)]; exact ow.w⟩, by rw [upd_ne (nv m ow)]; exact e2, DvL.le (Same.lq (Hd.upd u)) (fun _ z => z) e3⟩
      | .ownD ds, ⟨m, vs, e1, ow, e2, e3⟩ => exact ⟨m, vs, e1, ⟨ow.u, ow.e0, ow.tp, by rw [Wd.put_ne (nv m ow)]; exact ow.w⟩, by rw [upd_ne (nv m ow)]; exact e2, DvK.le (Same.lq (Hd.upd u)) (fun _ z => z) e3⟩
    sep := x.sep
    tmp := fun p hp => by
      have := x.tmp p hp
      match p, this with
      | .v v (.d d), h => exact Dv.le (Same.lq (Hd.upd u)) (fun _ z => z) h
      | .v v (.own j), h => exact h
      | .nw m ds, ⟨om, ms, vs, h, h2⟩ =>
        have nv : m ≠ a := fun z => by rw [← z, om.w] at hc; cases hc
        exact ⟨⟨om.u, om.e0, om.tp, by rw [Wd.put_ne nv]; exact om.w⟩, ms, vs, by rw [upd_ne nv]; exact h, DvL.le (Same.lq (Hd.upd u)) (fun _ z => z) h2⟩
      | .pin b o w, ⟨n, h⟩ => exact ⟨n, by rw [upd_ne (show b ≠ _ from fun z => n (z ▸ u))]; exact h⟩ }
end
end Kn
set_option Elab.async false
set_option maxRecDepth 100000
set_option linter.all false
set_option autoImplicit false
namespace Kn
open PySem L2
mutual
def beqD : D → D → Bool
  | .non, .non => true
  | .bl a, .bl b => decide (a = b)
  | .int a, .int b => decide (a = b)
  | .str a, .str b => decide (a = b)
  | .ty a, .ty b => decide (a = b)
  | .tup a, .tup b => beqL a b
  | .lst a, .lst b => beqL a b
  | .dct a, .dct b => beqK a b
  | .obj c a, .obj d b => decide (c = d) && beqF a b
  | .ref a, .ref b => decide (a = b)
  | .tape, .tape => true
  | .scr, .scr => true
  | .exc a C d fs, .exc a' C' d' fs' => decide (a = a') && decide (C = C') && decide (d = d') && beqF fs fs'
  | _, _ => false
def beqL : List D → List D → Bool
  | [], [] => true
  | a :: as, b :: bs => beqD a b && beqL as bs
  | _, _ => false
def beqK : List (Key × D) → List (Key × D) → Bool
  | [], [] => true
  | (k, a) :: as, (l, b) :: bs => decide (k = l) && beqD a b && beqK as bs
  | _, _ => false
def beqF : List (Str × D) → List (Str × D) → Bool
  | [], [] => true
  | (k, a) :: as, (l, b) :: bs => decide (k = l) && beqD a b && beqF as bs
  | _, _ => false
end
mutual
theorem beqD_iff : ∀ a b : D, beqD a b = true ↔ a = b
  | .non, b => by cases b <;> simp [beqD]
  | .bl a, b => by cases b <;> simp [beqD]
  | .int a, b => by cases b <;> simp [beqD]
  | .str a, b => by cases b <;> simp [beqD]
  | .ty a, b => by cases b <;> simp [beqD]
  | .tup a, b => by cases b <;> simp [beqD, beqL_iff a]
  | .lst a, b => by cases b <;> simp [beqD, beqL_iff a]
  | .dct a, b => by cases b <;> simp [beqD, beqK_iff a]
  | .obj c a, b => by cases b <;> simp [beqD, beqF_iff a]
  | .ref a, b => by cases b <;> simp [beqD]
  | .tape, b => by cases b <;> simp [beqD]
  | .scr, b => by cases b <;> simp [beqD]
  | .exc a C d fs, b => by cases b <;> simp [beqD, beqF_iff fs, and_assoc]
theorem beqL_iff : ∀ a b : List D, beqL a b = true ↔ a = b
  | [], b => by cases b <;> simp [beqL]
  | a :: as, b => by cases b <;> simp [beqL, beqD_iff a, beqL_iff as]
theorem beqK_iff : ∀ a b : List (Key × D), beqK a b = true ↔ a = b
  | [], b => by cases b <;> simp [beqK]
  | (k, a) :: as, b => by
    cases b with
    | nil => simp [beqK]
    | cons p bs => obtain ⟨l, b⟩ := p; simp [beqK, beqD_iff a, beqK_iff as, and_assoc]
theorem beqF_iff : ∀ a b : List (Str × D), beqF a b = true ↔ a = b
  | [], b => by cases b <;> simp [beqF]
  | (k, a) :: as, b => by
    cases b with
    | nil => simp [beqF]
    | cons p bs => obtain ⟨l, b⟩ := p; simp [beqF, beqD_iff a, beqF_iff as, and_assoc]
end
instance : DecidableEq D := fun a b => decidable_of_iff _ (beqD_iff a b)
mutual
def toP : D → PyData
  | .non => .none
  | .int i => .int i
  | .str x => .str x
  | .bl b => .bool b
  | .tup ds => .tuple (toPs ds)
  | .lst ds => .list (toPs ds)
  | _ => .none
def toPs : List D → List PyData
  | [] => []
  | d :: ds => toP d :: toPs ds
end
mutual
def okD (b : Bool) : D → Bool
  | .non => true
  | .int _ => !b
  | .bl _ => b
  | .str x => PyData.strOk x
  | .tup ds => okL b ds
  | .lst ds => okL b ds
  | _ => false
def okL (b : Bool) : List D → Bool
  | [] => true
  | d :: ds => okD b d && okL b ds
end
mutual
def dpD : D → Nat
  | .tup ds => dpL ds + 1
  | .lst ds => dpL ds + 1
  | _ => 0
def dpL : List D → Nat
  | [] => 0
  | d :: ds => max (dpD d) (dpL ds)
end
section
variable {K : PySem.W.Frag} {Tp : Addr → Prop} {H H' : Hp} {b : Bool}
mutual
theorem Dv.dp (e : Same H H') : ∀ {v : V} {d : D}, Dv K Tp H v d → okD b d = true → Dp K H' v (toP d)
  | _, _, .non, _ => by rw [toP]; exact .non
  | _, _, .bl b, _ => by rw [toP]; exact .bl b
  | _, _, .int i, _ => by rw [toP]; exact .int i
  | _, _, .str x, _ => by rw [toP]; exact .str x
  | _, _, .ty n, h => by simp [okD] at h
  | _, _, .tup h t, g => by rw [okD] at g; rw [toP]; exact .tup (SqT.same e h) (DvL.dp e t g)
  | _, _, .lst h t, g => by rw [okD] at g; rw [toP]; exact .lst (SqL.of (e _ _ h)) (DvL.dp e t g)
  | _, _, .dct h t, g => by simp [okD] at g
  | _, _, .obj h t, g => by simp [okD] at g
  | _, _, .ref a, g => by simp [okD] at g
  | _, _, .tape h, g => by simp [okD] at g
  | _, _, .scr h _, g => by simp [okD] at g
  | _, _, .exc0 a C, g => by simp [okD] at g
  | _, _, .exc1 h t, g => by simp [okD] at g
theorem DvL.dp (e : Same H H') : ∀ {v : List V} {d : List D}, DvL K Tp H v d → okL b d = true → DpAll K H' v (toPs d)
  | _, _, .nil, _ => by rw [toPs]; exact .nil
  | _, _, .cons h t, g => by
    rw [okL, Bool.and_eq_true] at g
    rw [toPs]
    exact .cons (Dv.dp e h g.1) (DvL.dp e t g.2)
end
mutual
theorem toP_lay : ∀ d : D, okD b d = true → (toP d).canLay0 = true
  | .non, _ => by simp [toP, PyData.canLay0]
  | .bl _, _ => by simp [toP, PyData.canLay0]
  | .int _, _ => by simp [toP, PyData.canLay0]
  | .str x, h => by rw [okD] at h; rw [toP, PyData.canLay0]; exact h
  | .ty _, h => by simp [okD] at h
  | .tup ds, h => by rw [okD] at h; rw [toP, PyData.canLay0]; exact toPs_lay ds h
  | .lst ds, h => by rw [okD] at h; rw [toP, PyData.canLay0]; exact toPs_lay ds h
  | .dct _, h => by simp [okD] at h
  | .obj _ _, h => by simp [okD] at h
  | .ref _, h => by simp [okD] at h
  | .tape, h => by simp [okD] at h
  | .scr, h => by simp [okD] at h
  | .exc _ _ _ _, h => by simp [okD] at h
theorem toPs_lay : ∀ d : List D, okL b d = true → PyData.canLayAll0 (toPs d) = true
  | [], _ => by simp [toPs, PyData.canLayAll0]
  | d :: ds, h => by
    rw [okL, Bool.and_eq_true] at h
    rw [toPs, PyData.canLayAll0, toP_lay d h.1, toPs_lay ds h.2]; rfl
end
mutual
theorem toP_depth : ∀ d : D, (toP d).depth ≤ dpD d
  | .non => by simp [toP, PyData.depth]
  | .bl _ => by simp [toP, PyData.depth]
  | .int _ => by simp [toP, PyData.depth]
  | .str x => by simp [toP, PyData.depth]
  | .ty _ => by simp [toP, PyData.depth]
  | .tup ds => by rw [toP, dpD, PyData.depth]; have := toPs_depth ds; omega
  | .lst ds => by rw [toP, dpD, PyData.depth]; have := toPs_depth ds; omega
  | .dct _ => by simp [toP, PyData.depth]
  | .obj _ _ => by simp [toP, PyData.depth]
  | .ref _ => by simp [toP, PyData.depth]
  | .tape => by simp [toP, PyData.depth]
  | .scr => by simp [toP, PyData.depth]
  | .exc _ _ _ _ => by simp [toP, PyData.depth]
theorem toPs_depth : ∀ d : List D, PyData.depthAll (toPs d) ≤ dpL d
  | [] => by simp [toPs, PyData.depthAll]
  | d :: ds => by
    rw [toPs, PyData.depthAll, dpL]
    have := toP_depth d
    have := toPs_depth ds
    omega
end
theorem toP_shaped {d : D} (h : okD b d = true) (hd : dpD d ≤ 64) : SeqAt.shaped (toP d) = true := by
  unfold SeqAt.shaped
  rw [toP_lay d h, decide_eq_true (Nat.le_trans (toP_depth d) hd)]; rfl
mutual
theorem eqv_toP : ∀ a c : D, okD b a = true → okD b c = true → PyData.eqv (toP a) (toP c) = beqD a c
  | .non, c, _, h => by cases c <;> simp [okD] at h <;> simp [toP, PyData.eqv, beqD]
  | .bl x, c, g, h => by cases c <;> simp [okD] at g h <;> simp_all [toP, PyData.eqv, beqD] <;> rfl
  | .int x, c, g, h => by cases c <;> simp [okD] at g h <;> simp_all [toP, PyData.eqv, beqD] <;> rfl
  | .str x, c, g, h => by cases c <;> simp [okD] at g h <;> simp_all [toP, PyData.eqv, beqD] <;> rfl
  | .ty x, c, g, h => by simp [okD] at g
  | .tup x, c, g, h => by cases c <;> simp [okD] at g h <;> simp [toP, PyData.eqv, beqD] <;> exact eqv_toPs x _ g h
  | .lst x, c, g, h => by cases c <;> simp [okD] at g h <;> simp [toP, PyData.eqv, beqD] <;> exact eqv_toPs x _ g h
  | .dct _, c, g, h => by simp [okD] at g
  | .obj _ _, c, g, h => by simp [okD] at g
  | .ref _, c, g, h => by simp [okD] at g
  | .tape, c, g, h => by simp [okD] at g
  | .scr, c, g, h => by simp [okD] at g
  | .exc _ _ _ _, c, g, h => by simp [okD] at g
theorem eqv_toPs : ∀ a c : List D, okL b a = true → okL b c = true → PyData.eqvAll (toPs a) (toPs c) = beqL a c
  | [], [], _, _ => by simp [toPs, PyData.eqvAll, beqL]
  | [], c :: cs, _, _ => by simp [toPs, PyData.eqvAll, beqL]
  | a :: as, [], _, _ => by simp [toPs, PyData.eqvAll, beqL]
  | a :: as, c :: cs, g, h => by
    rw [okL, Bool.and_eq_true] at g h
    rw [toPs, toPs, PyData.eqvAll, beqL, eqv_toP a c g.1 h.1, eqv_toPs as cs g.2 h.2]
end
theorem beqD_dec (a c : D) : beqD a c = decide (a = c) := by
  by_cases h : a = c
  · rw [decide_eq_true h]; exact (beqD_iff a c).mpr h
  · rw [decide_eq_false h]
    cases q : beqD a c with
    | false => rfl
    | true => exact absurd ((beqD_iff a c).mp q) h
end
end Kn
set_option Elab.async false
set_option maxRecDepth 100000
set_option linter.all false
set_option autoImplicit false
namespace Kn
open PySem L2
section
variable {X : Cx}
theorem OpR.or {f : Value → Value → Sem Value} {r r' : R2} (h : OpR X f r) (h' : OpR X f r') : OpR X f (fun x y H Q => r x y H Q ∨ r' x y H Q) := by
  intro pins s σ H x y v u Q I rx ry q
  rcases q with q | q
  · exact h pins s σ H x y v u Q I rx ry q
  · exact h' pins s σ H x y v u Q I rx ry q
theorem CallR.or {f : Value} {r r' : List V → Hp → VK → Prop} (h : CallR X f r) (h' : CallR X f r') : CallR X f (fun xs H Q => r xs H Q ∨ r' xs H Q) := by
  intro pins s σ H xs us Q I rx q
  rcases q with q | q
  · exact h pins s σ H xs us Q I rx q
  · exact h' pins s σ H xs us Q I rx q
theorem SlR.or {r r' : V → Option Int → Option Int → Hp → VK → Prop} (h : SlR X r) (h' : SlR X r') : SlR X (fun x l u H Q => r x l u H Q ∨ r' x l u H Q) := by
  intro pins s σ H x v vl vu lo hi sl Q I rx hs pl pu q
  rcases q with q | q
  · exact h pins s σ H x v vl vu lo hi sl Q I rx hs pl pu q
  · exact h' pins s σ H x v vl vu lo hi sl Q I rx hs pl pu q
def rAddS : R2 := fun x y H Q => ∃ i j, x = .str i ∧ y = .str j ∧ i.length + j.length ≤ sizeLine ∧ Q (.str (i ++ j)) H
def rAddU (K : PySem.W.Frag) : R2 := fun x y H Q => rI0 (fun i j => .int (i + j)) x y H Q ∨ rAddS x y H Q ∨ rCat x y H Q ∨ rCatA K x y H Q
theorem op_addU (K : PySem.W.Frag) (h : X.K = K := by rfl) : OpR X (binaryOp .Add) (rAddU K) := OpR.or op_add (OpR.or op_add_str (OpR.or op_cat (op_catAK K h)))
def rMulU : R2 := fun x y H Q => rI CMul (fun i j => .int (i * j)) x y H Q ∨ rMulS x y H Q ∨ rRep x y H Q
theorem op_mulU : OpR X (binaryOp .Mult) rMulU := OpR.or op_mul (OpR.or op_mul_str op_rep)
def rEqU (K : PySem.W.Frag) : R2 := fun x y H Q => rEq x y H Q ∨ rEqD K x y H Q
def rNeU (K : PySem.W.Frag) : R2 := fun x y H Q => rNe x y H Q ∨ rNeD K x y H Q
theorem op_eqU (K : PySem.W.Frag) (hu : X.A.units + 64 < cLine) (h : X.K = K := by rfl) : OpR X (compareOp .Eq) (rEqU K) := OpR.or op_eq (op_eqDK K hu h)
theorem op_neU (K : PySem.W.Frag) (hu : X.A.units + 64 < cLine) (h : X.K = K := by rfl) : OpR X (compareOp .NotEq) (rNeU K) := OpR.or op_ne (op_neDK K hu h)
def rDIn (neg : Bool) : R2 := fun y x H Q => ∃ a o, x = .ref a ∧ DGet H a y o ∧ Q (.bl (if neg then !o.isSome else o.isSome)) H
theorem op_dIn (hu : X.A.units + 1 < cLine) : OpR X (compareOp .In) (rDIn false) := by
  intro pins s σ H x y v u Q I rx ry h
  obtain ⟨a, o, rfl, g, q⟩ := h
  cases ry
  exact d_in hu I g rx fun s' I' => ⟨.bl o.isSome, H, I', rfl, q⟩
theorem op_dNotIn (hu : X.A.units + 1 < cLine) : OpR X (compareOp .NotIn) (rDIn true) := by
  intro pins s σ H x y v u Q I rx ry h
  obtain ⟨a, o, rfl, g, q⟩ := h
  cases ry
  exact d_notIn hu I g rx fun s' I' => ⟨.bl (!o.isSome), H, I', rfl, q⟩
def rInS (neg : Bool) : R2 := fun x y H Q => ∃ i j, x = .str i ∧ y = .str j ∧ Q (.bl (if neg then !!(Builtin.Str.occurrences j i 0 j.length 1).isEmpty else !(Builtin.Str.occurrences j i 0 j.length 1).isEmpty)) H
def rInU (K : PySem.W.Frag) : R2 := fun x y H Q => rIn K false x y H Q ∨ rInS false x y H Q ∨ rDIn false x y H Q ∨ rInD K x y H Q
def rNotInU (K : PySem.W.Frag) : R2 := fun x y H Q => rIn K true x y H Q ∨ rInS true x y H Q ∨ rDIn true x y H Q ∨ rNotInD K x y H Q
theorem op_inU (K : PySem.W.Frag) (hu : X.A.units + 65 < cLine) (h : X.K = K := by rfl) : OpR X (compareOp .In) (rInU K) :=
  OpR.or (op_in_seqK K h) (OpR.or op_in_str (OpR.or (op_dIn (by omega)) (op_inDK K hu h)))
theorem op_notInU (K : PySem.W.Frag) (hu : X.A.units + 65 < cLine) (h : X.K = K := by rfl) : OpR X (compareOp .NotIn) (rNotInU K) :=
  OpR.or (op_notIn_seqK K h) (OpR.or op_notin_str (OpR.or (op_dNotIn (by omega)) (op_notInDK K hu h)))
def rNotN : R2 := fun x y H Q => y = .non ∧ Q (.bl (!decide (x = .non))) H
theorem op_notNU : OpR X (compareOp .IsNot) rNotN := op_notN
def rIxDc : R2 := fun x y H Q => ∃ a v, x = .ref a ∧ DGet H a y (some v) ∧ Q v H
theorem ix_dict (hu : X.A.units + 1 < cLine) : IxR X rIxDc := by
  intro value slice pins s σ H x y v u Q I rx ry h hs
  obtain ⟨a, z, rfl, g, q⟩ := h
  cases rx
  exact PyProof.Rows.tail_any (ops := [.ref a, u]) (dict_typeIs I g) PySem.F.slot_dict_getitem.lookup (d_getItem hu I g ry fun w' s' I' rw' => ⟨z, H, I', rw', q⟩) hs
def rIxU (K : PySem.W.Frag) : R2 := fun x y H Q => rIx K x y H Q ∨ rIxDc x y H Q
theorem ix_U (K : PySem.W.Frag) (hu : X.A.units + 1 < cLine) (h : X.K = K := by rfl) : IxR X (rIxU K) := IxR.or (ix_seqK K h) (ix_dict hu)
def rSlU (K : PySem.W.Frag) : V → Option Int → Option Int → Hp → VK → Prop := fun x lo hi H Q => rSlL K x lo hi H Q ∨ rSlA K x lo hi H Q ∨ rSlS x lo hi H Q
theorem sl_U (K : PySem.W.Frag) (h : X.K = K := by rfl) : SlR X (rSlU K) := SlR.or (sl_listK K h) (SlR.or (sl_tupAK K h) sl_str)
def rLenD : List V → Hp → VK → Prop := fun xs H Q => ∃ a kvs, xs = [V.ref a] ∧ Rd H a (.dK kvs) ∧ Q (.int kvs.length) H
theorem call_lenDR : CallR X (.builtin "len") rLenD := by
  intro pins s σ H xs us Q I r h
  obtain ⟨a, kvs, rfl, ha, q⟩ := h
  obtain ⟨u, rfl, ru⟩ := vals1 r
  cases ru
  exact d_len I ha fun t s' I' => ⟨.int kvs.length, H, I', ⟨t, rfl⟩, q⟩
def rLenS : List V → Hp → VK → Prop := fun xs H Q => ∃ z, xs = [.str z] ∧ z.length ≤ sizeLine ∧ Q (.int z.length) H
def rLenU (K : PySem.W.Frag) : List V → Hp → VK → Prop := fun xs H Q => rLenSq K xs H Q ∨ rLenS xs H Q ∨ rLenD xs H Q
theorem call_lenU (K : PySem.W.Frag) (h : X.K = K := by rfl) : CallR X (.builtin "len") (rLenU K) := CallR.or (call_len_seqK K h) (CallR.or call_len_str call_lenDR)
end
end Kn
set_option Elab.async false
set_option maxRecDepth 100000
set_option linter.all false
set_option autoImplicit false
namespace Kn
open PySem L2
abbrev TDE := PSt → (Rv → PSt → Prop) → Prop
abbrev TDT := PSt → (Bool → PSt → Prop) → Prop
abbrev TDA := PSt → (List Rv → PSt → Prop) → Prop
abbrev TDN := PSt → (List D → PSt → Prop) → Prop
abbrev TDK := PSt → (List (Key × D) → PSt → Prop) → Prop
structure DEnds where
  nx : PSt → Prop
  rt : D → Wd → Prop
  bk : PSt → Prop := fun _ => False
  ct : PSt → Prop := fun _ => False
  rn : List D → Wd → Prop := fun _ _ => False
abbrev TDS := DEnds → PSt → Prop
abbrev TDG := D → PSt → (PSt → Prop) → Prop
def tms : List V → List Rv → List Tm
  | v :: vs, r :: rs => .v v r :: tms vs rs
  | _, _ => []
structure Lnk (K : PySem.W.Frag) (e : Ent) (T : List Tm) (Ed : DEnds) (E : Ends) : Prop where
  nx : ∀ S σ H, Ed.nx S → R K e σ H S T → E.nx σ H
  rt : ∀ d S σ v H, Ed.rt d S.W → R K e σ H S (.v v (.d d) :: T) → E.rt v H
  bk : ∀ S σ H, Ed.bk S → R K e σ H S T → E.bk σ H
  ct : ∀ S σ H, Ed.ct S → R K e σ H S T → E.ct σ H
  rn : ∀ ds S σ l H, Ed.rn ds S.W → RN K e σ H S T l ds → E.rt (.ref l) H
class SimE (K : PySem.W.Frag) (e : Ent) (te : TE) (t : outParam TDE) : Prop where
  run : ∀ (σ : St) (H : Hp) (S : PSt) (T : List Tm) (Qd : Rv → PSt → Prop) (Q : VK), R K e σ H S T → t S Qd → (∀ r S' v H', Qd r S' → R K e σ H' S' (.v v r :: T) → Q v H') → te σ H Q
class SimT (K : PySem.W.Frag) (e : Ent) (te : TT) (t : outParam TDT) : Prop where
  run : ∀ (σ : St) (H : Hp) (S : PSt) (T : List Tm) (Qd : Bool → PSt → Prop) (Q : Bool → Hp → Prop), R K e σ H S T → t S Qd → (∀ b S' H', Qd b S' → R K e σ H' S' T → Q b H') → te σ H Q
class SimA (K : PySem.W.Frag) (e : Ent) (ta : TA) (t : outParam TDA) : Prop where
  run : ∀ (σ : St) (H : Hp) (S : PSt) (T : List Tm) (Qd : List Rv → PSt → Prop) (Q : List V → Hp → Prop), R K e σ H S T → t S Qd → (∀ rs S' vs H', Qd rs S' → vs.length = rs.length → R K e σ H' S' (tms vs rs ++ T) → Q vs H') → ta σ H Q
class SimN (K : PySem.W.Frag) (e : Ent) (te : TE) (t : outParam TDN) : Prop where
  run : ∀ (σ : St) (H : Hp) (S : PSt) (T : List Tm) (Qd : List D → PSt → Prop) (Q : VK), R K e σ H S T → t S Qd → (∀ ds S' l H', Qd ds S' → RN K e σ H' S' T l ds → Q (.ref l) H') → te σ H Q
class SimK (K : PySem.W.Frag) (e : Ent) (te : TE) (t : outParam TDK) : Prop where
  run : ∀ (σ : St) (H : Hp) (S : PSt) (T : List Tm) (Qd : List (Key × D) → PSt → Prop) (Q : VK), R K e σ H S T → t S Qd → (∀ ds S' l H', Qd ds S' → RNd K e σ H' S' T l ds → Q (.ref l) H') → te σ H Q
class SimS (K : PySem.W.Frag) (e : Ent) (ts : TS) (t : outParam TDS) : Prop where
  run : ∀ (σ : St) (H : Hp) (S : PSt) (T : List Tm) (Ed : DEnds) (E : Ends), NoOwn T → R K e σ H S T → t Ed S → Lnk K e T Ed E → ts E σ H
class SimG (K : PySem.W.Frag) (e : Ent) (g : TG) (t : outParam TDG) : Prop where
  run : ∀ (v : V) (d : D) (σ : St) (H : Hp) (S : PSt) (T : List Tm) (Qd : PSt → Prop) (Q : St → Hp → Prop), NoOwn T → R K e σ H S (.v v (.d d) :: T) → t d S Qd → (∀ S' σ' H', Qd S' → R K e σ' H' S' T → Q σ' H') → g v σ H Q
class SimO (K : PySem.W.Frag) (e : Ent) (r : R2) (o : outParam (PSt → Rv → Rv → (D → PSt → Prop) → Prop)) : Prop where
  run : ∀ (σ : St) (H : Hp) (S : PSt) (T : List Tm) (x y : V) (rx ry : Rv) (Qd : D → PSt → Prop) (Q : VK), R K e σ H S (.v y ry :: .v x rx :: T) → o S rx ry Qd → (∀ d S' v H', Qd d S' → R K e σ H' S' (.v v (.d d) :: T) → Q v H') → r x y H Q
class SimC (K : PySem.W.Frag) (e : Ent) (r : List V → Hp → VK → Prop) (o : outParam (PSt → List Rv → (D → PSt → Prop) → Prop)) : Prop where
  run : ∀ (σ : St) (H : Hp) (S : PSt) (T : List Tm) (vs : List V) (rs : List Rv) (Qd : D → PSt → Prop) (Q : VK), vs.length = rs.length → R K e σ H S (tms vs rs ++ T) → o S rs Qd → (∀ d S' v H', Qd d S' → R K e σ H' S' (.v v (.d d) :: T) → Q v H') → r vs H Q
def PSt.set (S : PSt) (i : Nat) (c : PC) : PSt := ⟨S.ρ.set i (some c), S.W⟩
def derefD (S : PSt) : Rv → Option D
  | .d (.ref a) => match S.W.ω a with
    | some (.lst ds) => some (.lst ds)
    | some (.dct ks) => some (.dct ks)
    | some (.lk _ _ ks) => some (.dct ks)
    | some (.ins C fs) => some (.obj C fs)
    | some (.dtn _ _ _) => some (.ref a)
    | none => some (.ref a)
  | .d d => some d
  | .own j => match S.ρ[j]? with
    | some (some (.val (.ref _))) => none
    | some (some (.val d)) => some d
    | some (some (.ownL ds)) => some (.lst ds)
    | some (some (.ownD ks)) => some (.dct ks)
    | _ => none
def Vw (K : PySem.W.Frag) (Tp U : Addr → Prop) (H : Hp) (v : V) : D → Prop
  | .tup ds => ∃ a xs, v = .ref a ∧ SqT K (Hd U H) a xs ∧ DvL K Tp (Hd U H) xs ds
  | .lst ds => ∃ a xs, v = .ref a ∧ H a = some (.lst xs) ∧ DvL K Tp (Hd U H) xs ds
  | .dct ks => ∃ a xs, v = .ref a ∧ Rd H a (.dK xs) ∧ DvK K Tp (Hd U H) xs ks
  | .obj C fs => ∃ a dx xs, v = .ref a ∧ H a = some (.ins C dx xs) ∧ DvF K Tp (Hd U H) xs fs
  | d => Dv K Tp (Hd U H) v d
section
variable {K : PySem.W.Frag} {e : Ent} {σ : St} {H H' : Hp} {S : PSt} {T : List Tm} {U U' : Addr → Prop} {W' : Wd}
theorem Dv.vw {Tp : Addr → Prop} {v : V} : ∀ {d : D}, Dv K Tp (Hd U H) v d → Vw K Tp U H v d
  | .non, h => h
  | .bl _, h => h
  | .int _, h => h
  | .str _, h => h
  | .ty _, h => h
  | .tup _, .tup h t => ⟨_, _, rfl, h, t⟩
  | .lst _, .lst h t => ⟨_, _, rfl, Hd.sub _ _ h, t⟩
  | .dct _, .dct h t => ⟨_, _, rfl, Rd.same Hd.sub h, t⟩
  | .obj _ _, .obj h t => ⟨_, _, _, rfl, Hd.sub _ _ h, t⟩
  | .ref _, h => h
  | .tape, h => h
  | .scr, h => h
  | .exc _ _ _ _, h => h
theorem RU.vw (x : RU K e σ H S T U) {v : V} {r : Rv} {d : D} (h : TmOk K e U S H σ (.v v r)) (hd : derefD S r = some d) : Vw K S.W.Tp U H v d := by
  match r, h, hd with
  | .d (.ref a), h, hd =>
    have h : Dv K S.W.Tp (Hd U H) v (.ref a) := h
    cases h
    rw [derefD] at hd
    cases q : S.W.ω a with
    | none => rw [q] at hd; cases hd; exact .ref a
    | some c =>
      rw [q] at hd
      obtain ⟨_, k⟩ := x.wo.cell a c q
      match c, k, hd with
      | .lst ds, ⟨vs, h1, h2⟩, hd => cases hd; exact ⟨a, vs, rfl, h1, h2⟩
      | .dct ds, ⟨vs, h1, h2⟩, hd => cases hd; exact ⟨a, vs, rfl, .inl h1, h2⟩
      | .lk od vs ds, ⟨h1, h2⟩, hd => cases hd; exact ⟨a, vs, rfl, .inr ⟨od, h1⟩, h2⟩
      | .ins C fs, ⟨dx, vs, h1, h2⟩, hd => cases hd; exact ⟨a, dx, vs, rfl, h1, h2⟩
      | .dtn _ _ _, _, hd => cases hd; exact .ref a
  | .d .non, h, hd => cases hd; exact Dv.vw h
  | .d (.bl _), h, hd => cases hd; exact Dv.vw h
  | .d (.int _), h, hd => cases hd; exact Dv.vw h
  | .d (.str _), h, hd => cases hd; exact Dv.vw h
  | .d (.ty _), h, hd => cases hd; exact Dv.vw h
  | .d (.tup _), h, hd => cases hd; exact Dv.vw h
  | .d (.lst _), h, hd => cases hd; exact Dv.vw h
  | .d (.dct _), h, hd => cases hd; exact Dv.vw h
  | .d (.obj _ _), h, hd => cases hd; exact Dv.vw h
  | .d .tape, h, hd => cases hd; exact Dv.vw h
  | .d .scr, h, hd => cases hd; exact Dv.vw h
  | .d (.exc _ _ _ _), h, hd => cases hd; exact Dv.vw h
  | .own j, h, hd =>
    have h : σ[j]? = some (some v) := h
    rw [derefD] at hd
    cases q : S.ρ[j]? with
    | none => rw [q] at hd; cases hd
    | some c =>
      cases c with
      | none => rw [q] at hd; cases hd
      | some c =>
        obtain ⟨v', h1, h2⟩ := x.slot j c q
        rw [h] at h1; cases h1
        rw [q] at hd
        match c, h2, hd with
        | .val d', h2, hd =>
          have e1 : d = d' := by
            cases d' <;> simp at hd <;> first | exact hd.symm | exact absurd hd (by intro z; cases z)
          subst e1
          exact Dv.vw h2
        | .ownL ds, ⟨l, vs, e1, _, h1, h2⟩, hd => cases hd; exact ⟨l, vs, e1, h1, h2⟩
        | .ownD ds, ⟨l, vs, e1, _, h1, h2⟩, hd => cases hd; exact ⟨l, vs, e1, .inl h1, h2⟩
def frc : Rv → PSt → (D → PSt → Prop) → Prop
  | .d d, S, Q => Q d S
  | .own j, S, Q => match S.ρ[j]? with
    | some (some (.val d)) => Q d S
    | some (some (.ownL ds)) => Q (.lst ds) (S.set j (.val (.lst ds)))
    | some (some (.ownD ks)) => Q (.dct ks) (S.set j (.val (.dct ks)))
    | _ => False
def frcL : List Rv → PSt → (List D → PSt → Prop) → Prop
  | [], S, Q => Q [] S
  | r :: rs, S, Q => frc r S fun d S1 => frcL rs S1 fun ds S2 => Q (d :: ds) S2
theorem R.frc {v : V} {r : Rv} {Qd : D → PSt → Prop} {C : Prop} (x : R K e σ H S (.v v r :: T)) (h : Kn.frc r S Qd) (k : ∀ d S', Qd d S' → R K e σ H S' (.v v (.d d) :: T) → C) : C := by
  match r, x, h with
  | .d d, x, h => exact k d S h x
  | .own j, ⟨U, x⟩, h =>
    have hs : σ[j]? = some (some v) := x.tmp (.v v (.own j)) (by simp)
    have xt := x.less (T' := T) fun p hp => List.mem_cons_of_mem _ hp
    rw [Kn.frc] at h
    cases q : S.ρ[j]? with
    | none => rw [q] at h; exact h.elim
    | some c =>
      cases c with
      | none => rw [q] at h; exact h.elim
      | some c =>
        obtain ⟨v', h1, h2⟩ := x.slot j c q
        rw [hs] at h1; cases h1
        rw [q] at h
        match c, h2, h with
        | .val d, h2, h => exact k d S h ⟨U, xt.push h2⟩
        | .ownL ds, ⟨l, vs, e1, ow, h1, h3⟩, h =>
          subst e1
          have hd : Dv K S.W.Tp (Hd (fun b => U b ∧ b ≠ l) H) (.ref l) (.lst ds) := .lst (Hd.get h1 fun z => z.2 rfl) (DvL.le (Same.lq Hd.less) (fun _ z => z) h3)
          exact k _ _ h ⟨_, (xt.freeze q trivial hs ow hd).push hd⟩
        | .ownD ds, ⟨l, vs, e1, ow, h1, h3⟩, h =>
          subst e1
          have hd : Dv K S.W.Tp (Hd (fun b => U b ∧ b ≠ l) H) (.ref l) (.dct ds) := .dct (.inl (Hd.get h1 fun z => z.2 rfl)) (DvK.le (Same.lq Hd.less) (fun _ z => z) h3)
          exact k _ _ h ⟨_, (xt.freeze q trivial hs ow hd).push hd⟩
theorem R.frcL : ∀ {vs : List V} {rs : List Rv} {S : PSt} {T : List Tm} {Qd : List D → PSt → Prop} {C : Prop}, vs.length = rs.length → R K e σ H S (tms vs rs ++ T) → Kn.frcL rs S Qd → (∀ ds S', Qd ds S' → vs.length = ds.length → R K e σ H S' (tms vs (ds.map .d) ++ T) → C) → C
  | [], [], S, T, Qd, C, _, x, h, k => k [] S h rfl x
  | v :: vs, r :: rs, S, T, Qd, C, hl, x, h, k => by
    refine R.frc (v := v) (r := r) (T := tms vs rs ++ T) x h fun d S1 h1 x1 => ?_
    have x1' : R K e σ H S1 (tms vs rs ++ (.v v (.d d) :: T)) := x1.less fun p hp => by
      rcases List.mem_append.mp hp with hp | hp
      · exact List.mem_cons_of_mem _ (List.mem_append_left _ hp)
      · rcases List.mem_cons.mp hp with rfl | hp
        · exact List.mem_cons_self
        · exact List.mem_cons_of_mem _ (List.mem_append_right _ hp)
    refine R.frcL (by simpa using hl) x1' h1 fun ds S2 h2 hl2 x2 => k (d :: ds) S2 h2 (by simp [hl2]) (x2.less fun p hp => ?_)
    rcases List.mem_cons.mp hp with rfl | hp
    · exact List.mem_append_right _ List.mem_cons_self
    · rcases List.mem_append.mp hp with hp | hp
      · exact List.mem_append_left _ hp
      · exact List.mem_append_right _ (List.mem_cons_of_mem _ hp)
theorem RU.tms : ∀ {vs : List V} {ds : List D}, vs.length = ds.length → RU K e σ H S (Kn.tms vs (ds.map .d) ++ T) U → DvL K S.W.Tp (Hd U H) vs ds
  | [], [], _, _ => .nil
  | v :: vs, d :: ds, h, x => .cons (x.tmp (.v v (.d d)) (by simp [Kn.tms])) (RU.tms (by simpa using h) (x.less fun p hp => List.mem_cons_of_mem _ hp))
theorem R.tail {T1 : List Tm} (x : R K e σ H S (T1 ++ T)) : R K e σ H S T := x.less fun _ h => List.mem_append_right _ h
end
end Kn
set_option Elab.async false
set_option maxRecDepth 100000
set_option linter.all false
set_option autoImplicit false
namespace Kn
open PySem L2
section
variable {K : PySem.W.Frag} {e : Ent}
theorem big_of {n : Nat} (h : n ≤ 1000000) : n ≤ sizeLine := Nat.le_trans h (by decide)
theorem bigl_of {n : Nat} (h : n ≤ 1000000) : n < sizeLine := Nat.lt_of_le_of_lt h (by decide)
def tdVar (i : Nat) : TDE := fun S Q => match S.ρ[i]? with
  | some (some (.val d)) => Q (.d d) S
  | some (some (.ownL _)) => Q (.own i) S
  | some (some (.ownD _)) => Q (.own i) S
  | _ => False
instance simVar {i : Nat} : SimE K e (tVar i) (tdVar i) := ⟨fun σ H S T Qd Q ⟨U, x⟩ h k => by
  unfold tdVar at h
  cases q : S.ρ[i]? with
  | none => rw [q] at h; exact h.elim
  | some c =>
    cases c with
    | none => rw [q] at h; exact h.elim
    | some c =>
      obtain ⟨v, h1, h2⟩ := x.slot i c q
      rw [q] at h
      refine ⟨v, h1, ?_⟩
      match c, h2, h with
      | .val d, h2, h => exact k _ _ _ _ h ⟨U, x.push h2⟩
      | .ownL ds, h2, h => exact k _ _ _ _ h ⟨U, x.push h1⟩
      | .ownD ds, h2, h => exact k _ _ _ _ h ⟨U, x.push h1⟩⟩
def tdC (d : D) : TDE := fun S Q => Q (.d d) S
theorem simC_ {v : V} {d : D} (hv : ∀ (Tp : Addr → Prop) (H : Hp), Dv K Tp H v d) : SimE K e (tC v) (tdC d) := ⟨fun σ H S T Qd Q ⟨U, x⟩ h k => k _ _ _ _ h ⟨U, x.push (hv _ _)⟩⟩
instance simNon : SimE K e (tC .non) (tdC .non) := simC_ fun _ _ => .non
instance simBl {b : Bool} : SimE K e (tC (.bl b)) (tdC (.bl b)) := simC_ fun _ _ => .bl b
instance simInt {i : Int} : SimE K e (tC (.int i)) (tdC (.int i)) := simC_ fun _ _ => .int i
instance simStr {x : Str} : SimE K e (tC (.str x)) (tdC (.str x)) := simC_ fun _ _ => .str x
instance simTy {x : String} : SimE K e (tC (.ty x)) (tdC (.ty x)) := simC_ fun _ _ => .ty x
def tdOp (o : PSt → Rv → Rv → (D → PSt → Prop) → Prop) (ta tb : TDE) : TDE := fun S Q => ta S fun x S1 => tb S1 fun y S2 => o S2 x y fun d S3 => Q (.d d) S3
instance simOp {r : R2} {o : PSt → Rv → Rv → (D → PSt → Prop) → Prop} {ta tb : TE} {ta' tb' : TDE} [ha : SimE K e ta ta'] [hb : SimE K e tb tb'] [ho : SimO K e r o] : SimE K e (tOp r ta tb) (tdOp o ta' tb') := ⟨fun σ H S T Qd Q x h k => by
  refine ha.run σ H S T _ _ x h fun r1 S1 v1 H1 h1 x1 => ?_
  refine hb.run σ H1 S1 _ _ _ x1 h1 fun r2 S2 v2 H2 h2 x2 => ?_
  exact ho.run σ H2 S2 T v1 v2 r1 r2 _ _ x2 h2 fun d S3 v H3 h3 x3 => k _ _ _ _ h3 x3⟩
def tdNil : TDA := fun S Q => Q [] S
def tdCons (ta : TDE) (tr : TDA) : TDA := fun S Q => ta S fun r S1 => tr S1 fun rs S2 => Q (r :: rs) S2
instance simNil : SimA K e tNil tdNil := ⟨fun σ H S T Qd Q x h k => k _ _ _ _ h rfl x⟩
instance simCons {ta : TE} {tr : TA} {ta' : TDE} {tr' : TDA} [ha : SimE K e ta ta'] [hb : SimA K e tr tr'] : SimA K e (tCons ta tr) (tdCons ta' tr') := ⟨fun σ H S T Qd Q x h k => by
  refine ha.run σ H S T _ _ x h fun r1 S1 v1 H1 h1 x1 => ?_
  refine hb.run σ H1 S1 _ _ _ x1 h1 fun rs S2 vs H2 h2 hl x2 => ?_
  refine k _ _ _ _ h2 (by simp [hl]) (x2.less fun p hp => ?_)
  rcases List.mem_cons.mp hp with rfl | hp
  · exact List.mem_append_right _ List.mem_cons_self
  · rcases List.mem_append.mp hp with hp | hp
    · exact List.mem_append_left _ hp
    · exact List.mem_append_right _ (List.mem_cons_of_mem _ hp)⟩
theorem RU.newT {σ : St} {H : Hp} {S : PSt} {T : List Tm} {U : Addr → Prop} (x : RU K e σ H S T U) {p : Addr} {vs : List V} {ds : List D} (hp : H p = none) (hv : DvL K S.W.Tp (Hd U H) vs ds) : R K e σ (upd H p (.tup vs)) S (.v (.ref p) (.d (.tup ds)) :: T) :=
  ⟨U, (x.alloc hp).push (.tup (SqT.of (Hd.get upd_same (x.fresh hp))) (DvL.le (Same.lq (same_upd hp)) (fun _ z => z) hv))⟩
def tdTup (ta : TDA) : TDE := fun S Q => ta S fun rs S1 => frcL rs S1 fun ds S2 => ds.length ≤ 1000000 ∧ Q (.d (.tup ds)) S2
instance simTup {ta : TA} {ta' : TDA} [ha : SimA K e ta ta'] : SimE K e (tTup ta) (tdTup ta') := ⟨fun σ H S T Qd Q x h k => by
  refine ha.run σ H S T _ _ x h fun rs S1 vs H1 h1 hl x1 => ?_
  refine R.frcL hl x1 h1 fun ds S2 h2 hl2 x2 => ?_
  obtain ⟨U, x2⟩ := x2
  refine ⟨big_of (by rw [hl2]; exact h2.1), fun p hp => k _ _ _ _ h2.2 ?_⟩
  exact (x2.less fun q hq => List.mem_append_right _ hq).newT hp (RU.tms hl2 x2)⟩
def tnLst (ta : TDA) : TDN := fun S Q => ta S fun rs S1 => frcL rs S1 fun ds S2 => ds.length ≤ 1000000 ∧ Q ds S2
instance simLst {ta : TA} {ta' : TDA} [ha : SimA K e ta ta'] : SimN K e (tLst ta) (tnLst ta') := ⟨fun σ H S T Qd Q x h k => by
  refine ha.run σ H S T _ _ x h fun rs S1 vs H1 h1 hl x1 => ?_
  refine R.frcL hl x1 h1 fun ds S2 h2 hl2 x2 => ?_
  obtain ⟨U, x2⟩ := x2
  refine ⟨big_of (by rw [hl2]; exact h2.1), fun p hp => k _ _ _ _ h2.2 ?_⟩
  exact (x2.less fun q hq => List.mem_append_right _ hq).newL hp (RU.tms hl2 x2)⟩
def tdFrz (t : TDN) : TDE := fun S Q => t S fun ds S1 => Q (.d (.lst ds)) S1
instance (priority := low) simFrz {te : TE} {t : TDN} [h : SimN K e te t] : SimE K e te (tdFrz t) := ⟨fun σ H S T Qd Q x ht k => h.run σ H S T _ _ x ht fun ds S1 l H1 h1 x1 => k _ _ _ _ h1 x1.frozen⟩
def tdFrzK (t : TDK) : TDE := fun S Q => t S fun ds S1 => Q (.d (.dct ds)) S1
instance (priority := low) simFrzK {te : TE} {t : TDK} [h : SimK K e te t] : SimE K e te (tdFrzK t) := ⟨fun σ H S T Qd Q x ht k => h.run σ H S T _ _ x ht fun ds S1 l H1 h1 x1 => k _ _ _ _ h1 x1.frozen⟩
def tkNew : TDK := fun S Q => Q [] S
instance simDNew : SimK K e tDNewK tkNew := ⟨fun σ H S T Qd Q ⟨U, x⟩ h k => fun p hp => k _ _ _ _ h (x.newD hp .nil)⟩
def asB (r : Rv) (F : Bool → Prop) : Prop := match r with
  | .d (.bl b) => F b
  | _ => False
def tdTest (t : TDE) : TDT := fun S Q => t S fun r S1 => asB r fun b => Q b S1
theorem simTest_ {te : TE} {t : TDE} (h : SimE K e te t) {σ : St} {H : Hp} {S : PSt} {T : List Tm} {Qd : Bool → PSt → Prop} {Q : Bool → Hp → Prop} (x : R K e σ H S T) (ht : tdTest t S Qd) (k : ∀ b S' H', Qd b S' → R K e σ H' S' T → Q b H') : te σ H fun v H' => ∃ b, v = .bl b ∧ Q b H' := by
  refine h.run σ H S T _ _ x ht fun r S1 v H1 h1 x1 => ?_
  match r, h1, x1 with
  | .d (.bl b), h1, ⟨U, x1⟩ =>
    have hv : Dv K S1.W.Tp (Hd U H1) v (.bl b) := x1.tmp (.v v (.d (.bl b))) (by simp)
    cases hv
    exact ⟨b, rfl, k _ _ _ h1 (R.pop ⟨U, x1⟩)⟩
instance simTB {te : TE} {t : TDE} [h : SimE K e te t] : SimT K e (tB te) (tdTest t) := ⟨fun σ H S T Qd Q x ht k => simTest_ h x ht k⟩
instance simTT {te : TE} {t : TDE} [h : SimE K e te t] : SimT K e (tTest te) (tdTest t) := ⟨fun σ H S T Qd Q x ht k => simTest_ h x ht k⟩
def tdAnd (t u : TDT) : TDT := fun S Q => t S fun c S1 => if c = true then u S1 Q else Q false S1
def tdOr (t u : TDT) : TDT := fun S Q => t S fun c S1 => if c = true then Q true S1 else u S1 Q
def tdNot (t : TDT) : TDT := fun S Q => t S fun c S1 => Q (!c) S1
instance simAnd {t u : TT} {t' u' : TDT} [h1 : SimT K e t t'] [h2 : SimT K e u u'] : SimT K e (tAnd t u) (tdAnd t' u') := ⟨fun σ H S T Qd Q x h k => by
  refine h1.run σ H S T _ _ x h fun c S1 H1 hc x1 => ?_
  cases c
  · exact k _ _ _ hc x1
  · exact h2.run σ H1 S1 T _ _ x1 hc k⟩
instance simOr {t u : TT} {t' u' : TDT} [h1 : SimT K e t t'] [h2 : SimT K e u u'] : SimT K e (tOr t u) (tdOr t' u') := ⟨fun σ H S T Qd Q x h k => by
  refine h1.run σ H S T _ _ x h fun c S1 H1 hc x1 => ?_
  cases c
  · exact h2.run σ H1 S1 T _ _ x1 hc k
  · exact k _ _ _ hc x1⟩
instance simNot {t : TT} {t' : TDT} [h1 : SimT K e t t'] : SimT K e (tNot t) (tdNot t') := ⟨fun σ H S T Qd Q x h k => h1.run σ H S T _ _ x h fun c S1 H1 hc x1 => k _ _ _ hc x1⟩
def tdYes : TDT := fun S Q => Q true S
instance simYes : SimT K e tYes tdYes := ⟨fun σ H S T Qd Q x h k => k _ _ _ h x⟩
def tdNotV (ta : TDE) : TDE := fun S Q => tdTest ta S fun c S1 => Q (.d (.bl (!c))) S1
instance simNotV {t : TE} {t' : TDE} [h1 : SimE K e t t'] : SimE K e (tNotV t) (tdNotV t') := ⟨fun σ H S T Qd Q x h k => by
  refine simTest_ h1 x h fun c S1 H1 hc x1 => ?_
  obtain ⟨U, x1⟩ := x1
  exact k _ _ _ _ hc ⟨U, x1.push (.bl (!c))⟩⟩
def tdCB (o : PSt → List Rv → (D → PSt → Prop) → Prop) (t : TDA) : TDE := fun S Q => t S fun rs S1 => o S1 rs fun d S2 => Q (.d d) S2
instance simCB {r : List V → Hp → VK → Prop} {o : PSt → List Rv → (D → PSt → Prop) → Prop} {t : TA} {t' : TDA} [h1 : SimA K e t t'] [h2 : SimC K e r o] : SimE K e (tCB r t) (tdCB o t') := ⟨fun σ H S T Qd Q x h k => by
  refine h1.run σ H S T _ _ x h fun rs S1 vs H1 hc hl x1 => ?_
  exact h2.run σ H1 S1 T vs rs _ _ hl x1 hc fun d S2 v H2 h2 x2 => k _ _ _ _ h2 x2⟩
end
end Kn
set_option Elab.async false
set_option maxRecDepth 100000
set_option linter.all false
set_option autoImplicit false
namespace Kn
open PySem L2
section
variable {K : PySem.W.Frag} {e : Ent}
theorem R.two {σ : St} {H : Hp} {S : PSt} {T : List Tm} {x y : V} {rx ry : Rv} {a b : D} (w : R K e σ H S (.v y ry :: .v x rx :: T)) (ha : derefD S rx = some a) (hb : derefD S ry = some b) :
    ∃ U, RU K e σ H S T U ∧ Vw K S.W.Tp U H x a ∧ Vw K S.W.Tp U H y b ∧ RU K e σ H S (.v y ry :: .v x rx :: T) U := by
  obtain ⟨U, w⟩ := w
  exact ⟨U, w.less fun p hp => by simp [hp], w.vw (w.tmp (.v x rx) (by simp)) ha, w.vw (w.tmp (.v y ry) (by simp)) hb, w⟩
theorem R.one {σ : St} {H : Hp} {S : PSt} {T : List Tm} {x : V} {rx : Rv} {a : D} (w : R K e σ H S (.v x rx :: T)) (ha : derefD S rx = some a) :
    ∃ U, RU K e σ H S T U ∧ Vw K S.W.Tp U H x a ∧ RU K e σ H S (.v x rx :: T) U := by
  obtain ⟨U, w⟩ := w
  exact ⟨U, w.less fun p hp => by simp [hp], w.vw (w.tmp (.v x rx) (by simp)) ha, w⟩
theorem Vw.int {Tp U : Addr → Prop} {H : Hp} {v : V} {i : Int} (h : Vw K Tp U H v (.int i)) : v = .int i := by
  have h : Dv K Tp (Hd U H) v (.int i) := h
  cases h; rfl
theorem Vw.str {Tp U : Addr → Prop} {H : Hp} {v : V} {i : Str} (h : Vw K Tp U H v (.str i)) : v = .str i := by
  have h : Dv K Tp (Hd U H) v (.str i) := h
  cases h; rfl
theorem Vw.bl {Tp U : Addr → Prop} {H : Hp} {v : V} {i : Bool} (h : Vw K Tp U H v (.bl i)) : v = .bl i := by
  have h : Dv K Tp (Hd U H) v (.bl i) := h
  cases h; rfl
theorem Vw.non {Tp U : Addr → Prop} {H : Hp} {v : V} (h : Vw K Tp U H v .non) : v = .non := by
  have h : Dv K Tp (Hd U H) v .non := h
  cases h; rfl
theorem Vw.ty {Tp U : Addr → Prop} {H : Hp} {v : V} {n : String} (h : Vw K Tp U H v (.ty n)) : v = .ty n := by
  have h : Dv K Tp (Hd U H) v (.ty n) := h
  cases h; rfl
def dd2 (S : PSt) (rx ry : Rv) (F : D → D → Prop) : Prop := match derefD S rx, derefD S ry with
  | some a, some b => F a b
  | _, _ => False
theorem dd2_inv {S : PSt} {rx ry : Rv} {F : D → D → Prop} (h : dd2 S rx ry F) : ∃ a b, derefD S rx = some a ∧ derefD S ry = some b ∧ F a b := by
  unfold dd2 at h
  cases ha : derefD S rx with
  | none => rw [ha] at h; exact h.elim
  | some a =>
    cases hb : derefD S ry with
    | none => rw [ha, hb] at h; exact h.elim
    | some b => rw [ha, hb] at h; exact ⟨a, b, rfl, rfl, h⟩
def dd1 (S : PSt) (rx : Rv) (F : D → Prop) : Prop := match derefD S rx with
  | some a => F a
  | _ => False
theorem dd1_inv {S : PSt} {rx : Rv} {F : D → Prop} (h : dd1 S rx F) : ∃ a, derefD S rx = some a ∧ F a := by
  unfold dd1 at h
  cases ha : derefD S rx with
  | none => rw [ha] at h; exact h.elim
  | some a => rw [ha] at h; exact ⟨a, rfl, h⟩
def addF (Q : D → Prop) : D → D → Prop
  | .int i, .int j => Q (.int (i + j))
  | .str a, .str b => a.length + b.length ≤ 1000000 ∧ Q (.str (a ++ b))
  | .tup a, .tup b => a.length + b.length ≤ 1000000 ∧ Q (.tup (a ++ b))
  | .lst a, .lst b => a.length + b.length ≤ 1000000 ∧ Q (.lst (a ++ b))
  | _, _ => False
def addD (S : PSt) (rx ry : Rv) (Q : D → PSt → Prop) : Prop := dd2 S rx ry (addF fun d => Q d S)
instance simAdd : SimO K e (rAddU K) addD := ⟨fun σ H S T x y rx ry Qd Q w h k => by
  obtain ⟨a, b, ha, hb, h⟩ := dd2_inv h
  obtain ⟨U, wT, vx, vy, w2⟩ := w.two ha hb
  match a, b, h, vx, vy with
  | .int i, .int j, h, vx, vy =>
    rw [vx.int, vy.int]
    exact .inl ⟨i, j, rfl, rfl, k _ _ _ _ h ⟨U, wT.push (.int _)⟩⟩
  | .str i, .str j, h, vx, vy =>
    rw [vx.str, vy.str]
    exact .inr (.inl ⟨i, j, rfl, rfl, big_of h.1, k _ _ _ _ h.2 ⟨U, wT.push (.str _)⟩⟩)
  | .lst ds, .lst es, h, ⟨p, xs, e1, h1, h2⟩, ⟨q, ys, e2, h3, h4⟩ =>
    subst e1 e2
    refine .inr (.inr (.inl ⟨p, q, xs, ys, rfl, rfl, h1, h3, big_of (by rw [h2.len, h4.len]; exact h.1), fun l hl => k _ _ _ _ h.2 ?_⟩))
    exact (wT.newL hl (h2.app h4)).frozen
  | .tup ds, .tup es, h, ⟨p, xs, e1, h1, h2⟩, ⟨q, ys, e2, h3, h4⟩ =>
    subst e1 e2
    refine .inr (.inr (.inr ⟨p, q, xs, ys, rfl, rfl, SqT.same Hd.sub h1, SqT.same Hd.sub h3, big_of (by rw [h2.len, h4.len]; exact h.1), fun z => ?_, fun _ z => ?_, fun _ _ l hl => k _ _ _ _ h.2 (wT.newT hl (h2.app h4))⟩))
    · subst z
      have e0 : ds = [] := List.length_eq_zero_iff.mp h2.len.symm
      subst e0
      exact k _ _ _ _ h.2 ⟨U, wT.push (.tup h3 h4)⟩
    · subst z
      have e0 : es = [] := List.length_eq_zero_iff.mp h4.len.symm
      subst e0
      exact k _ _ _ _ h.2 ⟨U, wT.push (.tup h1 (by rw [List.append_nil]; exact h2))⟩⟩
def iiF (P : Int → Int → Prop) (f : Int → Int → D) (Q : D → Prop) : D → D → Prop
  | .int i, .int j => P i j ∧ Q (f i j)
  | _, _ => False
def iiD (P : Int → Int → Prop) (f : Int → Int → D) (S : PSt) (rx ry : Rv) (Q : D → PSt → Prop) : Prop := dd2 S rx ry (iiF P f fun d => Q d S)
theorem simII {r : R2} {P : Int → Int → Prop} {f : Int → Int → D} {g : Int → Int → V} (hg : ∀ i j (Tp : Addr → Prop) (H : Hp), Dv K Tp H (g i j) (f i j)) (hr : ∀ i j H (Q : VK), P i j → Q (g i j) H → r (.int i) (.int j) H Q) : SimO K e r (iiD P f) := ⟨fun σ H S T x y rx ry Qd Q w h k => by
  obtain ⟨a, b, ha, hb, h⟩ := dd2_inv h
  obtain ⟨U, wT, vx, vy, w2⟩ := w.two ha hb
  match a, b, h, vx, vy with
  | .int i, .int j, h, vx, vy =>
    rw [vx.int, vy.int]
    exact hr i j H Q h.1 (k _ _ _ _ h.2 ⟨U, wT.push (hg _ _ _ _)⟩)⟩
def rSubI : R2 := rI0 fun i j => .int (i - j)
theorem op_subU {X : Cx} : OpR X (binaryOp .Sub) rSubI := op_sub
abbrev subD := iiD (fun _ _ => True) fun i j => .int (i - j)
instance simSub : SimO K e rSubI subD := simII (fun _ _ _ _ => .int _) fun i j H Q _ q => ⟨i, j, rfl, rfl, q⟩
def rModI : R2 := rI (fun _ j => 0 < j) fun i j => .int (i % j)
theorem op_modU {X : Cx} : OpR X (binaryOp .Mod) rModI := op_mod
abbrev modD := iiD (fun _ j => 0 < j) fun i j => .int (i % j)
instance simMod : SimO K e rModI modD := simII (fun _ _ _ _ => .int _) fun i j H Q p q => ⟨i, j, rfl, rfl, p, q⟩
def rLtI : R2 := rI0 fun i j => .bl (decide (i < j))
def rLeI : R2 := rI0 fun i j => .bl (decide (i ≤ j))
def rGtI : R2 := rI0 fun i j => .bl (decide (j < i))
def rGeI : R2 := rI0 fun i j => .bl (decide (j ≤ i))
theorem op_ltU {X : Cx} : OpR X (compareOp .Lt) rLtI := op_lt
theorem op_leU {X : Cx} : OpR X (compareOp .LtE) rLeI := op_le
theorem op_gtU {X : Cx} : OpR X (compareOp .Gt) rGtI := op_gt
theorem op_geU {X : Cx} : OpR X (compareOp .GtE) rGeI := op_ge
abbrev ltD := iiD (fun _ _ => True) fun i j => .bl (decide (i < j))
abbrev leD := iiD (fun _ _ => True) fun i j => .bl (decide (i ≤ j))
abbrev gtD := iiD (fun _ _ => True) fun i j => .bl (decide (j < i))
abbrev geD := iiD (fun _ _ => True) fun i j => .bl (decide (j ≤ i))
instance simLt : SimO K e rLtI ltD := simII (fun _ _ _ _ => .bl _) fun i j H Q _ q => ⟨i, j, rfl, rfl, q⟩
instance simLe : SimO K e rLeI leD := simII (fun _ _ _ _ => .bl _) fun i j H Q _ q => ⟨i, j, rfl, rfl, q⟩
instance simGt : SimO K e rGtI gtD := simII (fun _ _ _ _ => .bl _) fun i j H Q _ q => ⟨i, j, rfl, rfl, q⟩
instance simGe : SimO K e rGeI geD := simII (fun _ _ _ _ => .bl _) fun i j H Q _ q => ⟨i, j, rfl, rfl, q⟩
def mulF (Q : D → Prop) : D → D → Prop
  | .int i, .int j => ((-(2 ^ 64) < i ∧ i < 2 ^ 64) ∨ (-(2 ^ 64) < j ∧ j < 2 ^ 64)) ∧ Q (.int (i * j))
  | .str a, .int j => 0 ≤ j ∧ a.length ≤ 1000 ∧ j ≤ 1000 ∧ Q (.str (repS a j.toNat))
  | _, _ => False
def mulD (S : PSt) (rx ry : Rv) (Q : D → PSt → Prop) : Prop := dd2 S rx ry (mulF fun d => Q d S)
instance simMul : SimO K e rMulU mulD := ⟨fun σ H S T x y rx ry Qd Q w h k => by
  obtain ⟨a, b, ha, hb, h⟩ := dd2_inv h
  obtain ⟨U, wT, vx, vy, w2⟩ := w.two ha hb
  match a, b, h, vx, vy with
  | .int i, .int j, h, vx, vy =>
    rw [vx.int, vy.int]
    exact .inl ⟨i, j, rfl, rfl, h.1, k _ _ _ _ h.2 ⟨U, wT.push (.int _)⟩⟩
  | .str i, .int j, ⟨h0, h1, h2, h3⟩, vx, vy =>
    rw [vx.str, vy.int]
    exact .inr (.inl ⟨i, j.toNat, rfl, by rw [Int.toNat_of_nonneg h0], h1, by omega, k _ _ _ _ h3 ⟨U, wT.push (.str _)⟩⟩)⟩
def toV : D → Option V
  | .non => some .non
  | .bl b => some (.bl b)
  | .int i => some (.int i)
  | .str x => some (.str x)
  | _ => none
def scD (a b : D) : Bool := match toV a, toV b with
  | some x, some y => scal x y
  | _, _ => false
def eqOk (a b : D) : Prop := scD a b = true ∨ ∃ c, okD c a = true ∧ okD c b = true ∧ dpD a ≤ 64 ∧ dpD b ≤ 64
theorem toV_inj : ∀ {a b : D} {x y : V}, toV a = some x → toV b = some y → (decide (x = y) = decide (a = b)) := by
  intro a b x y h1 h2
  cases a <;> simp [toV] at h1 <;> cases b <;> simp [toV] at h2 <;> subst h1 <;> subst h2 <;> simp
theorem Vw.dv0 {Tp U : Addr → Prop} {H : Hp} {v : V} {d : D} {x : V} (h : Vw K Tp U H v d) (e : toV d = some x) : v = x := by
  cases d <;> simp [toV] at e <;> subst e <;> first | exact Vw.non h | exact Vw.bl h | exact Vw.int h | exact Vw.str h
theorem Vw.dp {Tp U : Addr → Prop} {H : Hp} {v : V} {c : Bool} : ∀ {d : D}, Vw K Tp U H v d → okD c d = true → Dp K H v (toP d)
  | .non, h, g => Dv.dp Hd.sub (show Dv K Tp (Hd U H) v .non from h) g
  | .bl b, h, g => Dv.dp Hd.sub (show Dv K Tp (Hd U H) v (.bl b) from h) g
  | .int b, h, g => Dv.dp Hd.sub (show Dv K Tp (Hd U H) v (.int b) from h) g
  | .str b, h, g => Dv.dp Hd.sub (show Dv K Tp (Hd U H) v (.str b) from h) g
  | .ty b, h, g => by simp [okD] at g
  | .tup ds, ⟨a, xs, e1, h, t⟩, g => by rw [okD] at g; rw [toP, e1]; exact .tup (SqT.same Hd.sub h) (DvL.dp Hd.sub t g)
  | .lst ds, ⟨a, xs, e1, h, t⟩, g => by rw [okD] at g; rw [toP, e1]; exact .lst (SqL.of h) (DvL.dp Hd.sub t g)
  | .dct _, h, g => by simp [okD] at g
  | .obj _ _, h, g => by simp [okD] at g
  | .ref _, h, g => by simp [okD] at g
  | .tape, h, g => by simp [okD] at g
  | .scr, h, g => by simp [okD] at g
  | .exc _ _ _ _, h, g => by simp [okD] at g
def eqD (neg : Bool) (S : PSt) (rx ry : Rv) (Q : D → PSt → Prop) : Prop := dd2 S rx ry fun a b => eqOk a b ∧ Q (.bl (if neg then !decide (a = b) else decide (a = b))) S
theorem simEq_ {σ : St} {H : Hp} {S : PSt} {T : List Tm} {x y : V} {rx ry : Rv} {Qd : D → PSt → Prop} {neg : Bool} {C : Prop} (w : R K e σ H S (.v y ry :: .v x rx :: T)) (h : eqD neg S rx ry Qd)
    (k1 : ∀ b, scal x y = true → decide (x = y) = b → Qd (.bl (if neg then !b else b)) S → R K e σ H S T → C) (k2 : ∀ d d' b, Dp K H x d → Dp K H y d' → SeqAt.shaped d = true → SeqAt.shaped d' = true → PyData.eqv d d' = b → Qd (.bl (if neg then !b else b)) S → R K e σ H S T → C) : C := by
  obtain ⟨a, b, ha, hb, h0, h⟩ := dd2_inv h
  obtain ⟨U, wT, vx, vy, w2⟩ := w.two ha hb
  rcases h0 with h0 | ⟨c, h1, h2, h3, h4⟩
  · unfold scD at h0
    cases ea : toV a with
    | none => rw [ea] at h0; exact absurd h0 Bool.false_ne_true
    | some va =>
      cases eb : toV b with
      | none => rw [ea, eb] at h0; exact absurd h0 Bool.false_ne_true
      | some vb =>
        rw [ea, eb] at h0
        have e1 := vx.dv0 ea
        have e2 := vy.dv0 eb
        subst e1 e2
        exact k1 _ h0 rfl (by rw [toV_inj ea eb]; exact h) ⟨U, wT⟩
  · exact k2 _ _ _ (vx.dp h1) (vy.dp h2) (toP_shaped h1 h3) (toP_shaped h2 h4) rfl (by rw [eqv_toP a b h1 h2, beqD_dec]; exact h) ⟨U, wT⟩
theorem R.bl {σ : St} {H : Hp} {S : PSt} {T : List Tm} {b : Bool} (w : R K e σ H S T) : R K e σ H S (.v (.bl b) (.d (.bl b)) :: T) := let ⟨U, w⟩ := w; ⟨U, w.push (.bl b)⟩
instance simEq : SimO K e (rEqU K) (eqD false) := ⟨fun σ H S T x y rx ry Qd Q w h k => simEq_ w h (fun b h1 h2 q w => .inl ⟨h1, by rw [h2]; exact k _ _ _ _ q w.bl⟩) fun d d' b g1 g2 g3 g4 g5 q w => .inr ⟨d, d', g1, g2, g3, g4, by rw [g5]; exact k _ _ _ _ q w.bl⟩⟩
instance simNe : SimO K e (rNeU K) (eqD true) := ⟨fun σ H S T x y rx ry Qd Q w h k => simEq_ w h (fun b h1 h2 q w => .inl ⟨h1, by rw [h2]; exact k _ _ _ _ q w.bl⟩) fun d d' b g1 g2 g3 g4 g5 q w => .inr ⟨d, d', g1, g2, g3, g4, by rw [g5]; exact k _ _ _ _ q w.bl⟩⟩
def isNn : D → Bool
  | .non => true
  | _ => false
def isND (neg : Bool) (S : PSt) (rx ry : Rv) (Q : D → PSt → Prop) : Prop := match rx, ry with
  | .d d, .d .non => Q (.bl (if neg then !isNn d else isNn d)) S
  | _, _ => False
theorem isNn_dv {Tp : Addr → Prop} {H : Hp} {v : V} {d : D} (h : Dv K Tp H v d) : decide (v = .non) = isNn d := by
  cases h <;> first | rfl | exact decide_eq_false (fun z => nomatch z)
theorem simIs_ {σ : St} {H : Hp} {S : PSt} {T : List Tm} {x y : V} {rx ry : Rv} {Qd : D → PSt → Prop} {neg : Bool} (w : R K e σ H S (.v y ry :: .v x rx :: T)) (h : isND neg S rx ry Qd) : y = .non ∧ ∃ b, decide (x = .non) = b ∧ Qd (.bl (if neg then !b else b)) S ∧ R K e σ H S T := by
  obtain ⟨U, w⟩ := w
  match rx, ry, w, h with
  | .d d, .d .non, w, h =>
    have hy : Dv K S.W.Tp (Hd U H) y .non := w.tmp (.v y (.d .non)) (by simp)
    cases hy
    exact ⟨rfl, isNn d, isNn_dv (w.tmp (.v x (.d d)) (by simp)), h, U, w.less fun p hp => by simp [hp]⟩
instance simNotN : SimO K e rNotN (isND true) := ⟨fun σ H S T x y rx ry Qd Q w h k => by
  obtain ⟨h1, b, h2, h3, w⟩ := simIs_ w h
  exact ⟨h1, by rw [h2]; exact k _ _ _ _ h3 w.bl⟩⟩
end
end Kn
set_option Elab.async false
set_option maxRecDepth 100000
set_option linter.all false
set_option autoImplicit false
namespace Kn
open PySem L2
section
variable {K : PySem.W.Frag} {e : Ent}
def strIn (i j : Str) : Bool := !(Builtin.Str.occurrences j i 0 j.length 1).isEmpty
theorem strIn_sign (c : Nat) (z : Str) : strIn ⟨#[c]⟩ z = decide (c ∈ z.cps.toList) := PySem.StrLaws.found_one z c
def fl (c : Bool) : D → Bool
  | .non => true
  | .int _ => !c
  | .bl _ => c
  | .str _ => true
  | _ => false
def keyD : D → Option Key
  | .int i => some (.inl i)
  | .str x => some (.inr x)
  | _ => none
theorem fl_flat {Tp : Addr → Prop} {H : Hp} {v : V} {d : D} {c : Bool} (h : Dv K Tp H v d) (f : fl c d = true) : flatV v = true := by
  cases h <;> simp [fl] at f <;> rfl
theorem fl_eq {Tp : Addr → Prop} {H : Hp} {v w : V} {d d' : D} {c : Bool} (h : Dv K Tp H v d) (h' : Dv K Tp H w d') (f : fl c d = true) (f' : fl c d' = true) : eqV w v = decide (d = d') := by
  cases h <;> simp [fl] at f <;> cases h' <;> simp_all [fl, eqV] <;> (rw [Bool.eq_iff_iff]; simp; constructor <;> exact fun z => z.symm)
theorem fl_all {Tp : Addr → Prop} {H : Hp} {c : Bool} : ∀ {vs : List V} {ds : List D}, DvL K Tp H vs ds → ds.all (fl c) = true → vs.all flatV = true
  | _, _, .nil, _ => rfl
  | _, _, .cons h t, f => by
    rw [List.all_cons, Bool.and_eq_true] at f
    rw [List.all_cons, fl_flat h f.1, fl_all t f.2]; rfl
theorem fl_in {Tp : Addr → Prop} {H : Hp} {c : Bool} {x : V} {d : D} (hx : Dv K Tp H x d) (f0 : fl c d = true) : ∀ {vs : List V} {ds : List D}, DvL K Tp H vs ds → ds.all (fl c) = true → inV x vs = decide (d ∈ ds)
  | _, _, .nil, _ => by simp [inV]
  | w :: vs, d' :: ds, .cons h t, f => by
    rw [List.all_cons, Bool.and_eq_true] at f
    have ih := fl_in hx f0 t f.2
    unfold inV at ih ⊢
    rw [List.any_cons, ih, fl_eq hx h f0 f.1]
    rw [Bool.eq_iff_iff]; simp
def inOk (x : D) (ds : List D) : Prop := ∃ c, (fl c x = true ∧ ds.all (fl c) = true) ∨ (okD c x = true ∧ okL c ds = true ∧ dpD x ≤ 64 ∧ dpL ds < 64)
def inF (Q : Bool → Prop) (x : D) : D → Prop
  | .lst ds => inOk x ds ∧ Q (decide (x ∈ ds))
  | .tup ds => (∃ c, fl c x = true ∧ ds.all (fl c) = true) ∧ Q (decide (x ∈ ds))
  | .str j => match x with
    | .str i => Q (strIn i j)
    | _ => False
  | .dct ks => match keyD x with
    | some k => Q (look ks k).isSome
    | none => False
  | _ => False
def inD (neg : Bool) (S : PSt) (rx ry : Rv) (Q : D → PSt → Prop) : Prop := dd2 S rx ry (inF fun b => Q (.bl (if neg then !b else b)) S)
theorem fl_dv {Tp U : Addr → Prop} {H : Hp} {v : V} {c : Bool} : ∀ {d : D}, Vw K Tp U H v d → fl c d = true → Dv K Tp (Hd U H) v d
  | .non, h, _ => h
  | .bl _, h, _ => h
  | .int _, h, _ => h
  | .str _, h, _ => h
  | .ty _, h, _ => h
  | .tup _, _, f => by simp [fl] at f
  | .lst _, _, f => by simp [fl] at f
  | .dct _, _, f => by simp [fl] at f
  | .obj _ _, _, f => by simp [fl] at f
  | .ref _, h, _ => h
  | .tape, h, _ => h
  | .scr, h, _ => h
  | .exc _ _ _ _, h, _ => h
theorem any_eqv {c : Bool} (d : D) (g : okD c d = true) : ∀ ds : List D, okL c ds = true → ((toPs ds).any fun z => PyData.eqv z (toP d)) = decide (d ∈ ds)
  | [], _ => by simp [toPs]
  | d' :: ds, h => by
    rw [okL, Bool.and_eq_true] at h
    rw [toPs, List.any_cons, any_eqv d g ds h.2, eqv_toP d' d h.1 g, beqD_dec]
    rw [Bool.eq_iff_iff]; simp
    constructor
    · rintro (z | z)
      · exact .inl z.symm
      · exact .inr z
    · rintro (z | z)
      · exact .inl z.symm
      · exact .inr z
theorem keyD_v {Tp U : Addr → Prop} {H : Hp} {v : V} {d : D} {k : Key} (h : Vw K Tp U H v d) (ek : keyD d = some k) : v = kV k := by
  cases d <;> simp [keyD] at ek <;> subst ek
  · exact h.int
  · exact h.str
theorem simIn_ {σ : St} {H : Hp} {S : PSt} {T : List Tm} {x y : V} {rx ry : Rv} {Qd : D → PSt → Prop} {neg : Bool} {C : Prop} (w : R K e σ H S (.v y ry :: .v x rx :: T)) (h : inD neg S rx ry Qd)
    (k1 : ∀ p xs b, y = .ref p → (SqL K H p xs ∨ SqT K H p xs) → flatV x = true → xs.all flatV = true → inV x xs = b → Qd (.bl (if neg then !b else b)) S → R K e σ H S T → C)
    (k2 : ∀ i j, x = .str i → y = .str j → Qd (.bl (if neg then !strIn i j else strIn i j)) S → R K e σ H S T → C)
    (k3 : ∀ a o, y = .ref a → DGet H a x o → Qd (.bl (if neg then !o.isSome else o.isSome)) S → R K e σ H S T → C)
    (k4 : ∀ d ds b, Dp K H x d → Dp K H y (.list ds) → SeqAt.shaped d = true → SeqAt.shaped (.list ds) = true → (ds.any fun z => PyData.eqv z d) = b → Qd (.bl (if neg then !b else b)) S → R K e σ H S T → C) : C := by
  obtain ⟨a, b, ha, hb, h⟩ := dd2_inv h
  obtain ⟨U, wT, vx, vy, w2⟩ := w.two ha hb
  match b, h, vy with
  | .lst ds, ⟨⟨c, .inl h0⟩, h⟩, ⟨p, xs, e1, h1, h2⟩ =>
    subst e1
    have dx := fl_dv vx h0.1
    exact k1 p xs _ rfl (.inl (SqL.of h1)) (fl_flat dx h0.1) (fl_all h2 h0.2) (fl_in dx h0.1 h2 h0.2) h ⟨U, wT⟩
  | .lst ds, ⟨⟨c, .inr ⟨g1, g2, g3, g4⟩⟩, h⟩, ⟨p, xs, e1, h1, h2⟩ =>
    subst e1
    have gl : okD c (.lst ds) = true := by rw [okD]; exact g2
    have dl : dpD (.lst ds) ≤ 64 := by rw [dpD]; omega
    have sh := toP_shaped gl dl
    have dp : Dp K H (.ref p) (toP (.lst ds)) := Vw.dp (d := .lst ds) ⟨p, xs, rfl, h1, h2⟩ gl
    rw [toP] at sh dp
    exact k4 _ _ _ (vx.dp g1) dp (toP_shaped g1 g3) sh (any_eqv a g1 ds g2) h ⟨U, wT⟩
  | .tup ds, ⟨⟨c, h0⟩, h⟩, ⟨p, xs, e1, h1, h2⟩ =>
    subst e1
    have dx := fl_dv vx h0.1
    exact k1 p xs _ rfl (.inr (SqT.same Hd.sub h1)) (fl_flat dx h0.1) (fl_all h2 h0.2) (fl_in dx h0.1 h2 h0.2) h ⟨U, wT⟩
  | .str j, h, vy =>
    match a, h, vx with
    | .str i, h, vx => exact k2 i j vx.str vy.str h ⟨U, wT⟩
  | .dct ks, h, ⟨p, xs, e1, h1, h2⟩ =>
    rw [inF] at h
    cases q : keyD a with
    | none => rw [q] at h; exact h.elim
    | some k =>
      rw [q] at h
      refine k3 p (valV xs k) e1 (.inl ⟨xs, k, h1, keyD_v vx q, rfl⟩) ?_ ⟨U, wT⟩
      rw [valV_look h2]; exact h
instance simIn : SimO K e (rInU K) (inD false) := ⟨fun σ H S T x y rx ry Qd Q w h k => simIn_ w h (fun p xs b h1 h2 h3 h4 h5 q w => .inl ⟨p, xs, h1, h2, h3, h4, by rw [h5]; exact k _ _ _ _ q w.bl⟩) (fun i j h1 h2 q w => .inr (.inl ⟨i, j, h1, h2, k _ _ _ _ q w.bl⟩))
  (fun a o h1 h2 q w => .inr (.inr (.inl ⟨a, o, h1, h2, k _ _ _ _ q w.bl⟩))) fun d ds b h1 h2 h3 h4 h5 q w => .inr (.inr (.inr ⟨d, ds, h1, h2, h3, h4, by rw [h5]; exact k _ _ _ _ q w.bl⟩))⟩
instance simNotIn : SimO K e (rNotInU K) (inD true) := ⟨fun σ H S T x y rx ry Qd Q w h k => simIn_ w h (fun p xs b h1 h2 h3 h4 h5 q w => .inl ⟨p, xs, h1, h2, h3, h4, by rw [h5]; exact k _ _ _ _ q w.bl⟩) (fun i j h1 h2 q w => .inr (.inl ⟨i, j, h1, h2, k _ _ _ _ q w.bl⟩))
  (fun a o h1 h2 q w => .inr (.inr (.inl ⟨a, o, h1, h2, k _ _ _ _ q w.bl⟩))) fun d ds b h1 h2 h3 h4 h5 q w => .inr (.inr (.inr ⟨d, ds, h1, h2, h3, h4, by rw [h5]; exact k _ _ _ _ q w.bl⟩))⟩
def opt {α : Type} (o : Option α) (F : α → Prop) : Prop := match o with
  | some a => F a
  | none => False
theorem opt_inv {α : Type} {o : Option α} {F : α → Prop} (h : opt o F) : ∃ a, o = some a ∧ F a := by
  cases o with
  | none => exact h.elim
  | some a => exact ⟨a, rfl, h⟩
def ixF (Q : D → Prop) : D → D → Prop
  | .lst ds, .int i => opt (atI ds i) Q
  | .tup ds, .int i => opt (atI ds i) Q
  | .str z, .int i => z.length ≤ 1000000 ∧ opt (atI z.cps.toList i) fun c => Q (.str ⟨#[c]⟩)
  | .dct ks, .int i => opt (look ks (.inl i)) Q
  | .dct ks, .str x => opt (look ks (.inr x)) Q
  | _, _ => False
def ixD (S : PSt) (rx ry : Rv) (Q : D → PSt → Prop) : Prop := dd2 S rx ry (ixF fun d => Q d S)
theorem DvL.atI {Tp : Addr → Prop} {H : Hp} {vs : List V} {ds : List D} {i : Int} {d : D} (h : DvL K Tp H vs ds) (he : L2.atI ds i = some d) : ∃ v, L2.atI vs i = some v ∧ Dv K Tp H v d := by
  unfold L2.atI at he ⊢
  rw [h.len]
  obtain ⟨j, h1, h2⟩ := Option.bind_eq_some_iff.mp he
  rw [h1]
  exact h.get h2
instance simIx : SimO K e (rIxU K) ixD := ⟨fun σ H S T x y rx ry Qd Q w h k => by
  obtain ⟨a, b, ha, hb, h⟩ := dd2_inv h
  obtain ⟨U, wT, vx, vy, w2⟩ := w.two ha hb
  match a, b, h, vx, vy with
  | .lst ds, .int i, h, ⟨p, xs, e1, h1, h2⟩, vy =>
    obtain ⟨d, h3, h4⟩ := opt_inv h
    obtain ⟨v, h5, h6⟩ := h2.atI h3
    subst e1
    rw [vy.int]
    exact .inl (.inl ⟨p, xs, i, v, rfl, rfl, SqL.of h1, h5, k _ _ _ _ h4 ⟨U, wT.push h6⟩⟩)
  | .tup ds, .int i, h, ⟨p, xs, e1, h1, h2⟩, vy =>
    obtain ⟨d, h3, h4⟩ := opt_inv h
    obtain ⟨v, h5, h6⟩ := h2.atI h3
    subst e1
    rw [vy.int]
    exact .inl (.inr (.inl ⟨p, xs, i, v, rfl, rfl, SqT.same Hd.sub h1, h5, k _ _ _ _ h4 ⟨U, wT.push h6⟩⟩))
  | .str z, .int i, ⟨h0, h⟩, vx, vy =>
    obtain ⟨c, h3, h4⟩ := opt_inv h
    rw [vx.str, vy.int]
    exact .inl (.inr (.inr ⟨z, i, c, rfl, rfl, big_of h0, h3, k _ _ _ _ h4 ⟨U, wT.push (.str _)⟩⟩))
  | .dct ks, .int i, h, ⟨p, xs, e1, h1, h2⟩, vy =>
    obtain ⟨d, h3, h4⟩ := opt_inv h
    obtain ⟨v, h5, h6⟩ := h2.look_some h3
    subst e1
    rw [vy.int]
    exact .inr ⟨p, v, rfl, .inl ⟨xs, .inl i, h1, rfl, h5.symm⟩, k _ _ _ _ h4 ⟨U, wT.push h6⟩⟩
  | .dct ks, .str i, h, ⟨p, xs, e1, h1, h2⟩, vy =>
    obtain ⟨d, h3, h4⟩ := opt_inv h
    obtain ⟨v, h5, h6⟩ := h2.look_some h3
    subst e1
    rw [vy.str]
    exact .inr ⟨p, v, rfl, .inl ⟨xs, .inr i, h1, rfl, h5.symm⟩, k _ _ _ _ h4 ⟨U, wT.push h6⟩⟩⟩
abbrev TDO := PSt → (Option Int → PSt → Prop) → Prop
class SimP (K : PySem.W.Frag) (e : Ent) (te : TO) (t : outParam TDO) : Prop where
  run : ∀ (σ : St) (H : Hp) (S : PSt) (T : List Tm) (Qd : Option Int → PSt → Prop) (Q : Option Int → Hp → Prop), R K e σ H S T → t S Qd → (∀ b S' H', Qd b S' → R K e σ H' S' T → Q b H') → te σ H Q
def tdNoPart : TDO := fun S Q => Q none S
def asI (r : Rv) (F : Int → Prop) : Prop := match r with
  | .d (.int b) => F b
  | _ => False
def tdPart (t : TDE) : TDO := fun S Q => t S fun r S1 => asI r fun i => Q (some i) S1
instance simNoPart : SimP K e tNoPart tdNoPart := ⟨fun σ H S T Qd Q x h k => k _ _ _ h x⟩
instance simPart {te : TE} {t : TDE} [h : SimE K e te t] : SimP K e (tPart te) (tdPart t) := ⟨fun σ H S T Qd Q x ht k => by
  refine h.run σ H S T _ _ x ht fun r S1 v H1 h1 x1 => ?_
  match r, h1, x1 with
  | .d (.int b), h1, ⟨U, x1⟩ =>
    have hv : Dv K S1.W.Tp (Hd U H1) v (.int b) := x1.tmp (.v v (.d (.int b))) (by simp)
    cases hv
    exact ⟨b, rfl, k _ _ _ h1 (R.pop ⟨U, x1⟩)⟩⟩
def cut {α : Type} (xs : List α) (lo hi : Option Int) : List α := (xs.drop (HT.sIx xs.length 0 lo)).take (HT.sIx xs.length xs.length hi - HT.sIx xs.length 0 lo)
theorem DvL.cut {Tp : Addr → Prop} {H : Hp} {vs : List V} {ds : List D} {lo hi : Option Int} (h : DvL K Tp H vs ds) : DvL K Tp H (cutV vs lo hi) (Kn.cut ds lo hi) := by
  unfold cutV Kn.cut
  rw [h.len]
  exact (h.drop _).take _
def slF (lo hi : Option Int) (Q : D → Prop) : D → Prop
  | .lst ds => Q (.lst (cut ds lo hi))
  | .tup ds => Q (.tup (cut ds lo hi))
  | .str z => z.length ≤ 1000000 ∧ Q (.str (cutS z lo hi))
  | _ => False
def tdSl (te : TDE) (tl th : TDO) : TDE := fun S Q => te S fun r S1 => tl S1 fun lo S2 => th S2 fun hi S3 => dd1 S3 r (slF lo hi fun d => Q (.d d) S3)
theorem cut_all {α : Type} {xs : List α} {lo hi : Option Int} (h : HT.sIx xs.length 0 lo = 0 ∧ HT.sIx xs.length xs.length hi = xs.length) : cut xs lo hi = xs := by
  unfold cut
  rw [h.1, h.2]; simp
instance simSl {te : TE} {tl th : TO} {te' : TDE} {tl' th' : TDO} [h1 : SimE K e te te'] [h2 : SimP K e tl tl'] [h3 : SimP K e th th'] : SimE K e (tSl (rSlU K) te tl th) (tdSl te' tl' th') := ⟨fun σ H S T Qd Q x h k => by
  refine h1.run σ H S T _ _ x h fun r S1 v H1 h1 x1 => ?_
  refine h2.run σ H1 S1 _ _ _ x1 h1 fun lo S2 H2 h2 x2 => ?_
  refine h3.run σ H2 S2 _ _ _ x2 h2 fun hi S3 H3 h3 x3 => ?_
  obtain ⟨a, ha, h⟩ := dd1_inv h3
  obtain ⟨U, wT, vx, w2⟩ := x3.one ha
  match a, h, vx with
  | .lst ds, h, ⟨p, xs, e1, g1, g2⟩ =>
    subst e1
    exact .inl ⟨p, xs, rfl, SqL.of g1, fun q hq => k _ _ _ _ h (wT.newL hq g2.cut).frozen⟩
  | .tup ds, h, ⟨p, xs, e1, g1, g2⟩ =>
    subst e1
    refine .inr (.inl ⟨p, xs, rfl, SqT.same Hd.sub g1, fun z => ?_, fun _ q hq => k _ _ _ _ h (wT.newT hq g2.cut)⟩)
    rw [g2.len] at z
    rw [slF, cut_all z] at h
    exact k _ _ _ _ h ⟨U, wT.push (.tup g1 g2)⟩
  | .str z, ⟨h0, h⟩, vx =>
    exact .inr (.inr ⟨z, vx.str, big_of h0, k _ _ _ _ h ⟨U, wT.push (.str _)⟩⟩)⟩
end
end Kn
set_option Elab.async false
set_option maxRecDepth 100000
set_option linter.all false
set_option autoImplicit false
namespace Kn
open PySem L2
section
variable {K : PySem.W.Frag} {e : Ent}
def arg1 (rs : List Rv) (F : Rv → Prop) : Prop := match rs with
  | [r] => F r
  | _ => False
def arg2 (rs : List Rv) (F : Rv → Rv → Prop) : Prop := match rs with
  | [r, q] => F r q
  | _ => False
theorem arg1_inv {rs : List Rv} {F : Rv → Prop} (h : arg1 rs F) : ∃ r, rs = [r] ∧ F r := by
  match rs, h with
  | [r], h => exact ⟨r, rfl, h⟩
theorem arg2_inv {rs : List Rv} {F : Rv → Rv → Prop} (h : arg2 rs F) : ∃ r q, rs = [r, q] ∧ F r q := by
  match rs, h with
  | [r, q], h => exact ⟨r, q, rfl, h⟩
theorem len1 {vs : List V} (h : vs.length = 1) : ∃ v, vs = [v] := by
  match vs, h with
  | [v], _ => exact ⟨v, rfl⟩
theorem len2 {vs : List V} (h : vs.length = 2) : ∃ v w, vs = [v, w] := by
  match vs, h with
  | [v, w], _ => exact ⟨v, w, rfl⟩
theorem simC1 {r : List V → Hp → VK → Prop} {F : PSt → (D → Prop) → D → Prop}
    (hr : ∀ (σ : St) (H : Hp) (S : PSt) (T : List Tm) (U : Addr → Prop) (v : V) (a : D) (Qd : D → PSt → Prop) (Q : VK), RU K e σ H S T U → Vw K S.W.Tp U H v a → F S (fun d => Qd d S) a → (∀ d v' H', Qd d S → R K e σ H' S (.v v' (.d d) :: T) → Q v' H') → r [v] H Q) :
    SimC K e r (fun S rs Q => arg1 rs fun x => dd1 S x (F S fun d => Q d S)) := ⟨fun σ H S T vs rs Qd Q hl x h k => by
  obtain ⟨r1, rfl, h⟩ := arg1_inv h
  obtain ⟨v, rfl⟩ := len1 hl
  obtain ⟨a, ha, h⟩ := dd1_inv h
  obtain ⟨U, wT, vx, _⟩ := R.one (T := T) x ha
  exact hr σ H S T U v a Qd Q wT vx h fun d v' H' q x' => k _ _ _ _ q x'⟩
def lenF (_ : PSt) (Q : D → Prop) : D → Prop
  | .lst ds => Q (.int ds.length)
  | .tup ds => Q (.int ds.length)
  | .str z => z.length ≤ 1000000 ∧ Q (.int z.length)
  | .dct ks => Q (.int ks.length)
  | _ => False
instance simLen : SimC K e (rLenU K) (fun S rs Q => arg1 rs fun x => dd1 S x (lenF S fun d => Q d S)) := simC1 fun σ H S T U v a Qd Q x vw h k => by
  match a, h, vw with
  | .lst ds, h, ⟨p, xs, e1, h1, h2⟩ => subst e1; exact .inl ⟨p, xs, rfl, .inl (SqL.of h1), by rw [h2.len]; exact k _ _ _ h ⟨U, x.push (.int _)⟩⟩
  | .tup ds, h, ⟨p, xs, e1, h1, h2⟩ => subst e1; exact .inl ⟨p, xs, rfl, .inr (SqT.same Hd.sub h1), by rw [h2.len]; exact k _ _ _ h ⟨U, x.push (.int _)⟩⟩
  | .str z, h, vw => rw [vw.str]; exact .inr (.inl ⟨z, rfl, big_of h.1, k _ _ _ h.2 ⟨U, x.push (.int _)⟩⟩)
  | .dct ds, h, ⟨p, xs, e1, h1, h2⟩ => subst e1; exact .inr (.inr ⟨p, xs, rfl, h1, by rw [h2.len]; exact k _ _ _ h ⟨U, x.push (.int _)⟩⟩)
def tyN : D → Option String
  | .non => some "NoneType"
  | .bl _ => some "bool"
  | .int _ => some "int"
  | .str _ => some "str"
  | .lst _ => some "list"
  | .tup _ => some "tuple"
  | .dct _ => some "dict"
  | _ => none
theorem tyN_ty {Tp U : Addr → Prop} {H : Hp} {v : V} : ∀ {d : D} {n : String}, Vw K Tp U H v d → tyN d = some n → TyX K H v (.type n)
  | .non, _, h, q => by cases q; rw [Vw.non h]; exact .base .non
  | .bl b, _, h, q => by cases q; rw [Vw.bl h]; exact .base (.bl b)
  | .int b, _, h, q => by cases q; rw [Vw.int h]; exact .base (.int b)
  | .str b, _, h, q => by cases q; rw [Vw.str h]; exact .base (.str b)
  | .lst ds, _, ⟨a, xs, e1, h1, _⟩, q => by cases q; subst e1; exact .base (.lst h1)
  | .tup ds, _, ⟨a, xs, e1, h1, _⟩, q => by
    cases q; subst e1
    rcases SqT.same Hd.sub h1 with (h | ⟨o, h⟩) | ⟨o, its, n, h, c, _⟩
    · exact .base (.tup h)
    · exact .fTuple h
    · exact .kTuple h c
  | .dct ds, _, ⟨a, xs, e1, h1, _⟩, q => by
    cases q; subst e1
    rcases h1 with h | ⟨o, h⟩
    · exact .base (.dK h)
    · exact .fDict h
def isB (a b : String) : Bool := decide (a = b) || (decide (a = "bool") && decide (b = "int"))
def tyOk (n : String) : Bool := decide (n ∈ ["str", "tuple", "list", "int", "bool", "dict"])
theorem isB_kit : ∀ a ∈ ["NoneType", "bool", "int", "str", "list", "tuple", "dict"], ∀ b ∈ ["str", "tuple", "list", "int", "bool", "dict"], kitB a b = some (isB a b) := by decide +kernel
theorem tyN_mem {d : D} {n : String} (h : tyN d = some n) : n ∈ ["NoneType", "bool", "int", "str", "list", "tuple", "dict"] := by
  cases d <;> simp [tyN] at h <;> subst h <;> simp
theorem kit_isB {a b : String} (ha : a ∈ ["NoneType", "bool", "int", "str", "list", "tuple", "dict"]) (hb : tyOk b = true) : PySem.W.kitOne K (.type a) (.type b) = some (isB a b) := kit_ty (isB_kit a ha b (of_decide_eq_true hb))
def isiF (S : PSt) (n : String) (Q : D → Prop) (a : D) : Prop := tyOk n = true ∧ opt (tyN a) fun t => Q (.bl (isB t n))
def isiD (S : PSt) (rs : List Rv) (Q : D → PSt → Prop) : Prop := arg2 rs fun x c => match c with
  | .d (.ty n) => dd1 S x (isiF S n fun d => Q d S)
  | _ => False
instance simIsi : SimC K e (rIsi K) isiD := ⟨fun σ H S T vs rs Qd Q hl x h k => by
  obtain ⟨r1, r2, rfl, h⟩ := arg2_inv h
  obtain ⟨v, w, rfl⟩ := len2 hl
  match r2, h, x with
  | .d (.ty n), h, x =>
    obtain ⟨a, ha, h0, h⟩ := dd1_inv h
    obtain ⟨t, ht, h⟩ := opt_inv h
    obtain ⟨U, x⟩ := x
    have hw : Dv K S.W.Tp (Hd U H) w (.ty n) := x.tmp (.v w (.d (.ty n))) (by simp [tms])
    cases hw
    have vw := x.vw (x.tmp (.v v r1) (by simp [tms])) ha
    exact ⟨v, .ty n, .type t, .type n, _, rfl, .ty n, tyN_ty vw ht, kit_isB (tyN_mem ht) h0, k _ _ _ _ h ⟨U, (x.less fun p hp => by simp [tms, hp]).push (.bl _)⟩⟩⟩
def tysOf : List Rv → Option (List String)
  | [] => some []
  | .d (.ty n) :: rs => (tysOf rs).map (n :: ·)
  | _ => none
def keyV : Key → D
  | .inl i => .int i
  | .inr x => .str x
def bls : List D → Option (List Bool)
  | [] => some []
  | .bl b :: ds => (bls ds).map (b :: ·)
  | _ => none
def nts : List D → Option (List Int)
  | [] => some []
  | .int b :: ds => (nts ds).map (b :: ·)
  | _ => none
theorem bls_some : ∀ {ds : List D} {bs : List Bool}, bls ds = some bs → ds = bs.map D.bl
  | [], _, h => by cases h; rfl
  | .bl b :: ds, _, h => by
    rw [bls] at h
    obtain ⟨ms, h1, rfl⟩ := Option.map_eq_some_iff.mp h
    rw [bls_some h1]; rfl
theorem nts_some : ∀ {ds : List D} {bs : List Int}, nts ds = some bs → ds = bs.map D.int
  | [], _, h => by cases h; rfl
  | .int b :: ds, _, h => by
    rw [nts] at h
    obtain ⟨ms, h1, rfl⟩ := Option.map_eq_some_iff.mp h
    rw [nts_some h1]; rfl
theorem bls_mapF {α : Type} (f : α → Bool) : ∀ xs : List α, bls (xs.map fun x => D.bl (f x)) = some (xs.map f)
  | [] => rfl
  | b :: bs => by rw [List.map_cons, bls, bls_mapF f bs]; rfl
theorem nts_mapF {α : Type} (f : α → Int) : ∀ xs : List α, nts (xs.map fun x => D.int (f x)) = some (xs.map f)
  | [] => rfl
  | b :: bs => by rw [List.map_cons, nts, nts_mapF f bs]; rfl
def allF (_ : PSt) (Q : D → Prop) : D → Prop
  | .lst ds => opt (bls ds) fun bs => Q (.bl (bs.all id))
  | _ => False
def sumF (_ : PSt) (Q : D → Prop) : D → Prop
  | .lst ds => opt (nts ds) fun bs => Q (.int bs.sum)
  | _ => False
instance simAll : SimC K e (rAll K) (fun S rs Q => arg1 rs fun x => dd1 S x (allF S fun d => Q d S)) := simC1 fun σ H S T U v a Qd Q x vw h k => by
  match a, h, vw with
  | .lst ds, h, ⟨p, xs, e1, h1, h2⟩ =>
    subst e1
    obtain ⟨bs, q, h⟩ := opt_inv h
    rw [bls_some q] at h2
    rw [h2.bls_inv] at h1
    exact ⟨p, bs, rfl, SqL.of h1, k _ _ _ h ⟨U, x.push (.bl _)⟩⟩
instance simSum : SimC K e (rSum K) (fun S rs Q => arg1 rs fun x => dd1 S x (sumF S fun d => Q d S)) := simC1 fun σ H S T U v a Qd Q x vw h k => by
  match a, h, vw with
  | .lst ds, h, ⟨p, xs, e1, h1, h2⟩ =>
    subst e1
    obtain ⟨bs, q, h⟩ := opt_inv h
    rw [nts_some q] at h2
    rw [h2.ints_inv] at h1
    exact ⟨p, bs, rfl, SqL.of h1, k _ _ _ h ⟨U, x.push (.int _)⟩⟩
def rInt1 : List V → Hp → VK → Prop := fun xs H Q => (∃ i, xs = [.int i] ∧ Q (.int i) H) ∨ ∃ k, xs = [.bl k] ∧ Q (.int (if k then 1 else 0)) H
theorem call_intU {X : Cx} : CallR X (.type "int") rInt1 := call_int1
def intF (_ : PSt) (Q : D → Prop) : D → Prop
  | .int i => Q (.int i)
  | .bl b => Q (.int (if b then 1 else 0))
  | _ => False
instance simInt1 : SimC K e rInt1 (fun S rs Q => arg1 rs fun x => dd1 S x (intF S fun d => Q d S)) := simC1 fun σ H S T U v a Qd Q x vw h k => by
  match a, h, vw with
  | .int i, h, vw => rw [vw.int]; exact .inl ⟨i, rfl, k _ _ _ h ⟨U, x.push (.int _)⟩⟩
  | .bl i, h, vw => rw [vw.bl]; exact .inr ⟨i, rfl, k _ _ _ h ⟨U, x.push (.int _)⟩⟩
end
end Kn
set_option Elab.async false
set_option maxRecDepth 100000
set_option linter.all false
set_option autoImplicit false
namespace Kn
open PySem L2
section
variable {K : PySem.W.Frag} {e : Ent}
theorem RU.slots {σ σ' : St} {H : Hp} {S : PSt} {T : List Tm} {U : Addr → Prop} {ρ' : List (Option PC)} (x : RU K e σ H S T U) (hl : σ'.length = ρ'.length) (h : ∀ (i : Nat) (c : PC), ρ'[i]? = some (some c) → S.ρ[i]? = some (some c) ∧ σ'[i]? = σ[i]?) (hT : NoOwn T) : RU K e σ' H ⟨ρ', S.W⟩ T U where
  wo := x.wo
  fr := x.fr
  ed := x.ed
  len := hl
  slot := fun i c hi => by
    obtain ⟨h1, h2⟩ := h i c hi
    rw [h2]; exact x.slot i c h1
  sep := fun i j c c' l n hi oi hj oj si sj => by
    obtain ⟨h1, h2⟩ := h i c hi
    obtain ⟨h3, h4⟩ := h j c' hj
    rw [h2] at si
    rw [h4] at sj
    exact x.sep i j c c' l n h1 oi h3 oj si sj
  tmp := fun p hp => by
    have := x.tmp p hp
    match p, this, hT p hp with
    | .v w (.d d), h, _ => exact h
    | .v w (.own j), h, n => exact (n w j rfl).elim
    | .pin b o w, h, _ => exact h
    | .nw m ds, ⟨o, ms, h2⟩, _ =>
      refine ⟨o, fun i c hi oc => ?_, h2⟩
      obtain ⟨h1, h3⟩ := h i c hi
      rw [h3]; exact ms i c h1 oc
def tdNext : TDS := fun E S => E.nx S
def tdSeq (t u : TDS) : TDS := fun E S => t { E with nx := u E } S
instance simNext : SimS K e tNext tdNext := ⟨fun σ H S T Ed E hT x h k => k.nx _ _ _ h x⟩
instance simSeq {t u : TS} {t' u' : TDS} [h1 : SimS K e t t'] [h2 : SimS K e u u'] : SimS K e (tSeq t u) (tdSeq t' u') := ⟨fun σ H S T Ed E hT x h k =>
  h1.run σ H S T { Ed with nx := u' Ed } _ hT x h { k with nx := fun S1 σ1 H1 h1 x1 => h2.run σ1 H1 S1 T Ed E hT x1 h1 k }⟩
def tdDrop (te : TDE) : TDS := fun E S => te S fun _ S1 => E.nx S1
instance simDrop {te : TE} {t : TDE} [h1 : SimE K e te t] : SimS K e (tDrop te) (tdDrop t) := ⟨fun σ H S T Ed E hT x h k => h1.run σ H S T _ _ x h fun r S1 v H1 h2 x1 => k.nx _ _ _ h2 x1.pop⟩
def tdRet (te : TDE) : TDS := fun E S => te S fun r S1 => frc r S1 fun d S2 => E.rt d S2.W
instance simRet {te : TE} {t : TDE} [h1 : SimE K e te t] : SimS K e (tRet te) (tdRet t) := ⟨fun σ H S T Ed E hT x h k => h1.run σ H S T _ _ x h fun r S1 v H1 h2 x1 => x1.frc h2 fun d S2 h3 x2 => k.rt _ _ _ _ _ h3 x2⟩
def tdRetV (i : Nat) : TDS := fun E S => match S.ρ[i]? with
  | some (some (.ownL ds)) => E.rn ds S.W
  | _ => False
def tdIfS (c : TDT) (t u : TDS) : TDS := fun E S => c S fun b S1 => if b = true then t E S1 else u E S1
instance simIfS {c : TT} {t u : TS} {c' : TDT} {t' u' : TDS} [h0 : SimT K e c c'] [h1 : SimS K e t t'] [h2 : SimS K e u u'] : SimS K e (tIfS c t u) (tdIfS c' t' u') := ⟨fun σ H S T Ed E hT x h k => by
  refine h0.run σ H S T _ _ x h fun b S1 H1 hb x1 => ?_
  cases b
  · exact h2.run σ H1 S1 T Ed E hT x1 hb k
  · exact h1.run σ H1 S1 T Ed E hT x1 hb k⟩
def gdName (i : Nat) : TDG := fun d S Q => Q (S.set i (.val d))
theorem NoOwn.ne {T : List Tm} (h : NoOwn T) (i : Nat) : ∀ p ∈ T, ∀ w, p ≠ .v w (.own i) := fun p hp w => h p hp w i
instance simName {i : Nat} : SimG K e (gName i) (gdName i) := ⟨fun v d σ H S T Qd Q hT ⟨U, x⟩ h k => k _ _ _ h ⟨U, (x.less fun p hp => List.mem_cons_of_mem _ hp).setVal (x.tmp (.v v (.d d)) (by simp)) (hT.ne i)⟩⟩
def tdAsg (te : TDE) (g : TDG) : TDS := fun E S => te S fun r S1 => frc r S1 fun d S2 => g d S2 E.nx
instance simAsg {te : TE} {g : TG} {t : TDE} {g' : TDG} [h1 : SimE K e te t] [h2 : SimG K e g g'] : SimS K e (tAsg te g) (tdAsg t g') := ⟨fun σ H S T Ed E hT x h k =>
  h1.run σ H S T _ _ x h fun r S1 v H1 hr x1 => x1.frc hr fun d S2 h3 x2 => h2.run v d σ H1 S2 T _ _ hT x2 h3 k.nx⟩
def gOwn (i : Nat) : TG := gName i
def tdAsgN (i : Nat) (t : TDN) : TDS := fun E S => t S fun ds S1 => E.nx (S1.set i (.ownL ds))
instance simAsgN {te : TE} {i : Nat} {t : TDN} [h1 : SimN K e te t] : SimS K e (tAsg te (gOwn i)) (tdAsgN i t) := ⟨fun σ H S T Ed E hT x h k =>
  h1.run σ H S T _ _ x h fun ds S1 l H1 hr x1 => k.nx _ _ _ hr (x1.slot i hT)⟩
def tdAsgK (i : Nat) (t : TDK) : TDS := fun E S => t S fun ds S1 => E.nx (S1.set i (.ownD ds))
instance simAsgK {te : TE} {i : Nat} {t : TDK} [h1 : SimK K e te t] : SimS K e (tAsg te (gOwn i)) (tdAsgK i t) := ⟨fun σ H S T Ed E hT x h k =>
  h1.run σ H S T _ _ x h fun ds S1 l H1 hr x1 => k.nx _ _ _ hr (x1.slot i hT)⟩
theorem setO_of {X : Cx} {st : Stmt} {i : Nat} {te : TE} (h : PS X st (tAsg te (gName i))) : PS X st (tAsg te (gOwn i)) := h
def rAugU : TIp := fun x y H Q => ipI (fun i j => i + j) x y H Q ∨ rAddS x y H Q ∨ rExt2 x y H Q
theorem ip_augU {X : Cx} : PIp X .Add rAugU := by
  intro pins s σ H x y v u Q I rx ry h
  rcases h with h | h | h
  · exact ip_add pins s σ H x y v u Q I rx ry h
  · exact iop_add_str pins s σ H x y v u Q I rx ry h
  · exact iop_ext pins s σ H x y v u Q I rx ry h
def augF (i : Nat) (S : PSt) (Q : PSt → Prop) : Option (Option PC) → D → Prop
  | some (some (.val (.int a))), .int b => Q (S.set i (.val (.int (a + b))))
  | some (some (.val (.str a))), .str b => a.length + b.length ≤ 1000000 ∧ Q (S.set i (.val (.str (a ++ b))))
  | some (some (.ownL ds)), .lst es => ds.length + es.length ≤ 1000000 ∧ Q (S.set i (.ownL (ds ++ es)))
  | _, _ => False
def tdAug (i : Nat) (te : TDE) : TDS := fun E S => (∃ c, S.ρ[i]? = some (some c)) ∧ te S fun r S1 => dd1 S1 r (augF i S1 E.nx S1.ρ[i]?)
theorem set_self {α : Type} {l : List α} {i : Nat} {a : α} (h : l[i]? = some a) : l.set i a = l := by
  apply List.ext_getElem?
  intro j
  rw [List.getElem?_set]
  by_cases q : i = j
  · subst q
    have := (List.getElem?_eq_some_iff.mp h).1
    rw [if_pos rfl, if_pos this, h]
  · rw [if_neg q]
instance simAug {i : Nat} {te : TE} {t : TDE} [h1 : SimE K e te t] : SimS K e (tAug i te rAugU) (tdAug i t) := ⟨fun σ H S T Ed E hT x h k => by
  obtain ⟨⟨c0, hc0⟩, h⟩ := h
  obtain ⟨v, hv⟩ : ∃ v, σ[i]? = some (some v) := by
    obtain ⟨U, x⟩ := x
    obtain ⟨v, h1, _⟩ := x.slot i c0 hc0
    exact ⟨v, h1⟩
  refine ⟨v, hv, h1.run σ H S T _ _ x h fun r S1 w H1 hr x1 => ?_⟩
  obtain ⟨b, hb, h⟩ := dd1_inv hr
  obtain ⟨U, wT, vw, w2⟩ := x1.one hb
  match q : S1.ρ[i]?, b, h, vw with
  | some (some (.val (.int a))), .int b, h, vw =>
    obtain ⟨v', e1, e2⟩ := wT.slot i _ q
    rw [hv] at e1; cases e1
    have e2 : Dv K S1.W.Tp (Hd U H1) v (.int a) := e2
    cases e2
    rw [vw.int]
    exact .inl ⟨a, b, rfl, rfl, k.nx _ _ _ h ⟨U, wT.setVal (.int _) (hT.ne i)⟩⟩
  | some (some (.val (.str a))), .str b, h, vw =>
    obtain ⟨v', e1, e2⟩ := wT.slot i _ q
    rw [hv] at e1; cases e1
    have e2 : Dv K S1.W.Tp (Hd U H1) v (.str a) := e2
    cases e2
    rw [vw.str]
    exact .inr (.inl ⟨a, b, rfl, rfl, big_of h.1, k.nx _ _ _ h.2 ⟨U, wT.setVal (.str _) (hT.ne i)⟩⟩)
  | some (some (.ownL ds)), .lst es, h, ⟨p, ys, e1, g1, g2⟩ =>
    subst e1
    obtain ⟨l, vs, e1, ow, e2, e3⟩ := wT.ownL q
    rw [hv] at e1; cases e1
    refine .inr (.inr ⟨l, p, vs, ys, rfl, rfl, e2, g1, big_of (by rw [e3.len, g2.len]; exact h.1), k.nx _ _ _ h.2 ?_⟩)
    rw [set_self hv]
    exact ⟨U, wT.updO (c' := .ownL (ds ++ es)) q trivial trivial hv ow ⟨l, vs ++ ys, rfl, ow, upd_same, DvL.le (Same.lq (Hd.upd ow.u)) (fun _ z => z) (e3.app g2)⟩⟩⟩
def tdWhile (c : TDT) (tb : TDS) : TDS := fun E S => ∃ W : Nat → PSt → Prop, (∃ m, W m S) ∧ ∀ m S, W m S → c S fun b S1 => if b = true then ∃ N : PSt → Prop, (∀ S', N S' → ∃ m', m' < m ∧ W m' S') ∧ tb ⟨N, E.rt, E.nx, N, E.rn⟩ S1 else E.nx S1
instance simWhile {c : TT} {tb : TS} {c' : TDT} {tb' : TDS} [h1 : SimT K e c c'] [h2 : SimS K e tb tb'] : SimS K e (tWhile c tb) (tdWhile c' tb') := ⟨fun σ H S T Ed E hT x h k => by
  obtain ⟨W, ⟨m, w0⟩, h⟩ := h
  refine ⟨fun m σ H => ∃ S, W m S ∧ R K e σ H S T, ⟨m, S, w0, x⟩, ?_⟩
  rintro m σ H ⟨S, w, x⟩
  refine h1.run σ H S T _ _ x (h m S w) fun b S1 H1 hb x1 => ?_
  cases b
  · exact k.nx _ _ _ hb x1
  · obtain ⟨N, hN, hb⟩ := hb
    refine ⟨fun σ H => ∃ S, N S ∧ R K e σ H S T, ?_, ?_⟩
    · rintro σ' H' ⟨S', n, x'⟩
      obtain ⟨m', hm, w'⟩ := hN S' n
      exact ⟨m', hm, S', w', x'⟩
    · exact h2.run σ H1 S1 T _ _ hT x1 hb ⟨fun S' σ' H' n x' => ⟨S', n, x'⟩, k.rt, k.nx, fun S' σ' H' n x' => ⟨S', n, x'⟩, k.rn⟩⟩
abbrev TDI := PSt → (List D → PSt → Prop) → Prop
def ItOk (K : PySem.W.Frag) (e : Ent) (J : It) (ds : List D) (T1 : List Tm) : Prop := ∀ (i : Nat) (σ : St) (H : Hp) (S : PSt) (T : List Tm), R K e σ H S (T1 ++ T) →
  (ds.length ≤ i → J.stop i H) ∧ (i < ds.length → J.go i H ∧ ∀ x H', J.yld i H x H' → ∃ d, ds[i]? = some d ∧ R K e σ H' S (.v x (.d d) :: (T1 ++ T)))
def PlainT (T : List Tm) : Prop := NoOwn T ∧ ∀ l, NoTm T l
class SimI (K : PySem.W.Frag) (e : Ent) (wi : TI) (ti : outParam TDI) : Prop where
  run : ∀ (σ : St) (H : Hp) (S : PSt) (T : List Tm) (Qd : List D → PSt → Prop) (Rr : It → Hp → Prop), R K e σ H S T → ti S Qd → (∀ ds S' J H' T1, Qd ds S' → PlainT T1 → ItOk K e J ds T1 → R K e σ H' S' (T1 ++ T) → Rr J H') → wi σ H Rr
theorem plain1 {v : V} {d : D} : PlainT [.v v (.d d)] := by
  refine ⟨fun p hp w j z => ?_, fun l ds hm => ?_⟩
  · rw [List.mem_singleton.mp hp] at z; cases z
  · have := List.mem_singleton.mp hm; cases this
theorem plain0 : PlainT [] := by
  refine ⟨fun p hp => ?_, fun l ds hm => ?_⟩
  · cases hp
  · cases hm
theorem itOk_list {a : Addr} {ds : List D} : ItOk K e (Itl K a) ds [.v (.ref a) (.d (.lst ds))] := fun i σ H S T ⟨U, x⟩ => by
  have hv : Dv K S.W.Tp (Hd U H) (.ref a) (.lst ds) := x.tmp (.v (.ref a) (.d (.lst ds))) (by simp)
  obtain ⟨a', xs, e1, h, t⟩ : Vw K S.W.Tp U H (.ref a) (.lst ds) := Dv.vw hv
  · cases e1
    refine ⟨fun hi => ⟨xs, SqL.of h, by rw [t.len]; exact hi⟩, fun hi => ?_⟩
    obtain ⟨v, h1, h2⟩ := t.get (List.getElem?_eq_getElem hi)
    refine ⟨⟨xs, v, SqL.of h, h1⟩, ?_⟩
    rintro w H' ⟨rfl, hw⟩
    have := hw xs (SqL.of h)
    rw [h1] at this; cases this
    exact ⟨_, List.getElem?_eq_getElem hi, U, x.push h2⟩
theorem itOk_tup {a : Addr} {ds : List D} : ItOk K e (Itt K a) ds [.v (.ref a) (.d (.tup ds))] := fun i σ H S T ⟨U, x⟩ => by
  have hv : Dv K S.W.Tp (Hd U H) (.ref a) (.tup ds) := x.tmp (.v (.ref a) (.d (.tup ds))) (by simp)
  obtain ⟨a', xs, e1, h, t⟩ : Vw K S.W.Tp U H (.ref a) (.tup ds) := Dv.vw hv
  · cases e1
    have h := SqT.same Hd.sub h
    refine ⟨fun hi => ⟨xs, h, by rw [t.len]; exact hi⟩, fun hi => ?_⟩
    obtain ⟨v, h1, h2⟩ := t.get (List.getElem?_eq_getElem hi)
    refine ⟨⟨xs, v, h, h1⟩, ?_⟩
    rintro w H' ⟨rfl, hw⟩
    have := hw xs h
    rw [h1] at this; cases this
    exact ⟨_, List.getElem?_eq_getElem hi, U, x.push h2⟩
def signs (z : Str) : List D := z.cps.toList.map fun c => D.str ⟨#[c]⟩
theorem itOk_str {z : Str} : ItOk K e (Its z) (signs z) [] := fun i σ H S T x => by
  have hl : (signs z).length = z.cps.size := by simp [signs]
  rw [hl]
  refine ⟨fun hi => hi, fun hi => ⟨hi, ?_⟩⟩
  rintro w H' ⟨rfl, c, hc, rfl⟩
  obtain ⟨U, x⟩ := x
  refine ⟨.str ⟨#[c]⟩, ?_, U, x.push (.str _)⟩
  rw [signs, List.getElem?_map, Array.getElem?_toList, hc]; rfl
def rng (lo : Int) (n : Nat) : List D := (List.range n).map fun (i : Nat) => D.int (lo + (i : Int))
theorem itOk_rng {lo : Int} {n : Nat} : ItOk K e (Itr lo n) (rng lo n) [] := fun i σ H S T x => by
  have hl : (rng lo n).length = n := by simp [rng]
  rw [hl]
  refine ⟨fun hi => hi, fun hi => ⟨hi, ?_⟩⟩
  rintro w H' ⟨rfl, rfl⟩
  obtain ⟨U, x⟩ := x
  refine ⟨.int (lo + i), ?_, U, x.push (.int _)⟩
  rw [rng, List.getElem?_map, List.getElem?_range hi]; rfl
theorem DvK.keys {Tp : Addr → Prop} {H : Hp} : ∀ {vs : List (Key × V)} {ds : List (Key × D)}, DvK K Tp H vs ds → (ds.map fun p => keyV p.1) = vs.map fun p => keyV p.1
  | _, _, .nil => rfl
  | _, _, .cons _ t => by rw [List.map_cons, List.map_cons, DvK.keys t]
theorem plainP {a : Addr} {o : Obj} {w : HO} : PlainT [.pin a o w] := by
  refine ⟨fun p hp w j z => ?_, fun l ds hm => ?_⟩
  · rw [List.mem_singleton.mp hp] at z; cases z
  · have := List.mem_singleton.mp hm; cases this
theorem keyV_dv {Tp : Addr → Prop} {H : Hp} : ∀ k : Key, Dv K Tp H (kV k) (keyV k)
  | .inl i => .int i
  | .inr x => .str x
theorem itOk_keys {a : Addr} {o : Obj} {xs : List (Key × V)} : ItOk K e (Itk a o xs) (xs.map fun p => keyV p.1) [.pin a o (.dK xs)] := fun i σ H S T ⟨U, x⟩ => by
  obtain ⟨nu, h⟩ := x.tmp (.pin a o (.dK xs)) (by simp)
  have hl : (xs.map fun p => keyV p.1).length = xs.length := by simp
  rw [hl]
  refine ⟨fun hi => ⟨h, hi⟩, fun hi => ⟨⟨h, hi⟩, ?_⟩⟩
  rintro w H' ⟨rfl, k, v, hk, rfl⟩
  refine ⟨keyV k, ?_, U, x.push (keyV_dv k)⟩
  rw [List.getElem?_map, hk]; rfl
def iAny (K : PySem.W.Frag) (td : TE) : TI := fun σ H R => td σ H fun x H1 => (∃ a, x = .ref a ∧ (((∃ xs, SqL K H1 a xs) ∧ R (Itl K a) H1) ∨ ((∃ xs, SqT K H1 a xs) ∧ R (Itt K a) H1))) ∨ (∃ z, x = .str z ∧ R (Its z) H1) ∨ ∃ d kvs, x = .ref d ∧ ((∃ o, H1 d = some (.frz o (.dK kvs)) ∧ R (Itk d o kvs) H1) ∨ (H1 d = some (.dK kvs) ∧ ∀ od, R (Itk d od kvs) (upd H1 d (.frz od (.dK kvs)))))
theorem pi_any {X : Cx} {tg l : Expr} {tl : TE} (K : PySem.W.Frag) (hl : PE X l tl) (hK : X.K = K := by rfl) : PI X tg l (iAny K tl) := by
  subst hK
  refine ⟨fun pins s σ H R I hw => ?_⟩
  refine thn (hl.run pins s σ H _ I hw) fun v s1 ⟨x, H1, J, r1, q1⟩ => ?_
  rcases q1 with ⟨a, rfl, ⟨⟨xs, hx⟩, q⟩ | ⟨⟨xs, hx⟩, q⟩⟩ | ⟨z, rfl, q⟩ | ⟨d, kvs, rfl, ⟨o, hd, q⟩ | ⟨hd, q⟩⟩
  · cases r1
    have fp : ∀ b ∈ [s1.heap.objs.size], FpOk X pins H1 b := fun b hb => by
      rw [List.mem_singleton.mp hb]
      exact J.fpOk (Nat.le_refl _) (J.hok.fresh (Nat.le_refl _))
    obtain ⟨its, _, p, _⟩ := J.list hx
    exact wpAny_pyIter_list p.isList ⟨_, _, _, _, H1, rfl, J.kept (t' := s1.toks) fun _ _ e => Heap.get?_push_of_some _ e, turn_list a _, ⟨_, Heap.get?_push_size _ rfl, rfl, rfl⟩, fp, q⟩
  · cases r1
    have fp : ∀ b ∈ [s1.heap.objs.size], FpOk X pins H1 b := fun b hb => by
      rw [List.mem_singleton.mp hb]
      exact J.fpOk (Nat.le_refl _) (J.hok.fresh (Nat.le_refl _))
    obtain ⟨its, _, p, _⟩ := J.tuple hx
    exact wpAny_pyIter_tuple (show s1.heap.IsTuple a its.toArray from p) ⟨_, _, _, _, H1, rfl, J.kept (t' := s1.toks) fun _ _ e => Heap.get?_push_of_some _ e, turn_tuple a _, ⟨_, Heap.get?_push_size _ rfl, rfl, rfl⟩, fp, q⟩
  · obtain ⟨t, rfl⟩ := r1
    cases ha : z.cps.all (· < 128)
    · exact PySem.wpAny_pyIter_wide ha (pi_one (tk := s1.toks) J _ (turn_str _ z t "str_iterator" (.inr rfl)) ⟨_, Heap.get?_push_size _ rfl, rfl, rfl⟩ q)
    · exact PySem.wpAny_pyIter_ascii ha (pi_one (tk := s1.toks) J _ (turn_str _ z t "str_ascii_iterator" (.inl rfl)) ⟨_, Heap.get?_push_size _ rfl, rfl, rfl⟩ q)
  · obtain rfl : v = Value.ref d := r1
    obtain ⟨hs, hgd, hx, es, ep, vs, hdt, hsz, kv, hm⟩ := J.frzK hd
    refine iter_keys hs hgd hx hdt (pi_one (tk := s1.toks) J _ (turn_keys _ hdt) ⟨_, Heap.get?_push_size _ rfl, rfl, ?_⟩ q)
    rw [hsz] <;> rfl
  · obtain rfl : v = Value.ref d := r1
    obtain ⟨od, J⟩ := J.lock hd trivial
    have q := q od
    obtain ⟨hs, hgd, hx, es, ep, vs, hdt, hsz, kv, hm⟩ := J.frzK (upd_same (H := H1))
    refine iter_keys hs hgd hx hdt (pi_one (tk := s1.toks) J _ (turn_keys _ hdt) ⟨_, Heap.get?_push_size _ rfl, rfl, ?_⟩ q)
    rw [hsz] <;> rfl
def walkF (Q : List D → Prop) : D → Prop
  | .lst ds => Q ds
  | .tup ds => Q ds
  | .str z => Q (signs z)
  | .dct ks => Q (ks.map fun p => keyV p.1)
  | _ => False
def tiAny (td : TDE) : TDI := fun S Q => td S fun r S1 => frc r S1 fun d S2 => walkF (fun ds => Q ds S2) d
theorem R.frz {σ : St} {H : Hp} {S : PSt} {T : List Tm} {v : V} {d : D} (x : R K e σ H S (.v v (.d d) :: T)) : ∃ U, RU K e σ H S T U ∧ Dv K S.W.Tp (Hd U H) v d ∧ RU K e σ H S (.v v (.d d) :: T) U := by
  obtain ⟨U, x⟩ := x
  exact ⟨U, x.less fun p hp => List.mem_cons_of_mem _ hp, x.tmp (.v v (.d d)) (by simp), x⟩
theorem Dv.dct_inv {Tp : Addr → Prop} {H : Hp} {v : V} {ks : List (Key × D)} (h : Dv K Tp H v (.dct ks)) : ∃ a xs, v = .ref a ∧ Rd H a (.dK xs) ∧ DvK K Tp H xs ks := by
  cases h with
  | dct h t => exact ⟨_, _, rfl, h, t⟩
instance simIAny {td : TE} {td' : TDE} [h1 : SimE K e td td'] : SimI K e (iAny K td) (tiAny td') := ⟨fun σ H S T Qd Rr x h k => by
  refine h1.run σ H S T _ _ x h fun r S1 v H1 hr x1 => x1.frc hr fun d S2 h3 x2 => ?_
  obtain ⟨U, x3, dv, x4⟩ := x2.frz
  match d, h3, dv, x4 with
  | .lst ds, h3, dv, x4 =>
    obtain ⟨a, xs, rfl, g1, g2⟩ : Vw K S2.W.Tp U H1 v (.lst ds) := Dv.vw dv
    exact .inl ⟨a, rfl, .inl ⟨⟨xs, SqL.of g1⟩, k _ _ _ _ [.v (.ref a) (.d (.lst ds))] h3 plain1 itOk_list ⟨U, x4⟩⟩⟩
  | .tup ds, h3, dv, x4 =>
    obtain ⟨a, xs, rfl, g1, g2⟩ : Vw K S2.W.Tp U H1 v (.tup ds) := Dv.vw dv
    exact .inl ⟨a, rfl, .inr ⟨⟨xs, SqT.same Hd.sub g1⟩, k _ _ _ _ [.v (.ref a) (.d (.tup ds))] h3 plain1 itOk_tup ⟨U, x4⟩⟩⟩
  | .str z, h3, dv, x4 =>
    have ev : v = .str z := by cases dv; rfl
    exact .inr (.inl ⟨z, ev, k _ _ _ _ [] h3 plain0 itOk_str ⟨U, x3⟩⟩)
  | .dct ks, h3, dv, x4 =>
    obtain ⟨a, xs, rfl, h, t⟩ := Dv.dct_inv dv
    have h3 : Qd (ks.map fun p => keyV p.1) S2 := h3
    rw [t.keys] at h3
    rcases h with h | ⟨o, h⟩
    · obtain ⟨h, nu⟩ := Hd.of h
      exact .inr (.inr ⟨a, xs, rfl, .inr ⟨h, fun od => k _ _ _ _ [.pin a od (.dK xs)] h3 plainP itOk_keys ⟨U, x3.lock h nu⟩⟩⟩)
    · obtain ⟨h, nu⟩ := Hd.of h
      exact .inr (.inr ⟨a, xs, rfl, .inl ⟨o, h, k _ _ _ _ [.pin a o (.dK xs)] h3 plainP itOk_keys ⟨U, x3.push ⟨nu, h⟩⟩⟩⟩)⟩
def tiRng1 (ta : TDA) : TDI := fun S Q => ta S fun rs S1 => arg1 rs fun r => asI r fun j => -(2 ^ 62) ≤ j ∧ j < 2 ^ 62 ∧ Q (rng 0 j.toNat) S1
def tiRng2 (ta : TDA) : TDI := fun S Q => ta S fun rs S1 => arg2 rs fun r q => asI r fun i => asI q fun j => (-(2 ^ 62) ≤ i ∧ i < 2 ^ 62 ∧ -(2 ^ 62) ≤ j ∧ j < 2 ^ 62) ∧ Q (rng i (j - i).toNat) S1
instance simRng2 {ta : TA} {ta' : TDA} [h1 : SimA K e ta ta'] : SimI K e (iRng2 ta) (tiRng2 ta') := ⟨fun σ H S T Qd Rr x h k => by
  refine h1.run σ H S T _ _ x h fun rs S1 vs H1 hr hl x1 => ?_
  obtain ⟨r, q, rfl, hr⟩ := arg2_inv hr
  obtain ⟨v, w, rfl⟩ := len2 hl
  match r, q, hr, x1 with
  | .d (.int i), .d (.int j), hr, ⟨U, x1⟩ =>
    have d1 : Dv K S1.W.Tp (Hd U H1) v (.int i) := x1.tmp (.v v (.d (.int i))) (by simp [tms])
    have d2 : Dv K S1.W.Tp (Hd U H1) w (.int j) := x1.tmp (.v w (.d (.int j))) (by simp [tms])
    cases d1
    cases d2
    exact ⟨i, j, rfl, hr.1, k _ _ _ _ [] hr.2 plain0 itOk_rng ⟨U, x1.less fun p hp => by simp at hp; simp [tms, hp]⟩⟩⟩
def forD (g : TDG) (tb : TDS) (E : DEnds) : List D → PSt → Prop
  | [], S => E.nx S
  | d :: ds, S => ∃ N : PSt → Prop, (∀ S', N S' → forD g tb E ds S') ∧ g d S fun S2 => tb ⟨N, E.rt, E.nx, N, E.rn⟩ S2
def tdFor (wi : TDI) (g : TDG) (tb : TDS) : TDS := fun E S => wi S fun ds S1 => forD g tb E ds S1
theorem NoOwn.app {T T1 : List Tm} (h1 : NoOwn T1) (h : NoOwn T) : NoOwn (T1 ++ T) := fun p hp => by
  rcases List.mem_append.mp hp with hp | hp
  · exact h1 p hp
  · exact h p hp
theorem Lnk.more {T T1 : List Tm} {Ed : DEnds} {E : Ends} (k : Lnk K e T Ed E) : Lnk K e (T1 ++ T) Ed E where
  nx := fun S σ H h x => k.nx S σ H h x.tail
  rt := fun d S σ v H h x => k.rt d S σ v H h (x.less fun p hp => by
    rcases List.mem_cons.mp hp with rfl | hp
    · exact List.mem_cons_self
    · exact List.mem_cons_of_mem _ (List.mem_append_right _ hp))
  bk := fun S σ H h x => k.bk S σ H h x.tail
  ct := fun S σ H h x => k.ct S σ H h x.tail
  rn := fun ds S σ l H h x => k.rn ds S σ l H h x.tail
instance simFor {wi : TI} {g : TG} {tb : TS} {wi' : TDI} {g' : TDG} {tb' : TDS} [h1 : SimI K e wi wi'] [h2 : SimG K e g g'] [h3 : SimS K e tb tb'] : SimS K e (tFor wi g tb) (tdFor wi' g' tb') := ⟨fun σ H S T Ed E hT x h k => by
  refine h1.run σ H S T _ _ x h fun ds S1 J H1 T1 hd pT it x1 => ?_
  refine ⟨fun i m σ H => m = ds.length - i ∧ i ≤ ds.length ∧ ∃ S, forD g' tb' Ed (ds.drop i) S ∧ R K e σ H S (T1 ++ T), ⟨_, rfl, Nat.zero_le _, S1, hd, x1⟩, ?_⟩
  rintro i m σ H ⟨rfl, hi, S, hf, x⟩
  obtain ⟨i1, i2⟩ := it i σ H S T x
  by_cases c : i < ds.length
  · obtain ⟨g1, g2⟩ := i2 c
    rw [List.drop_eq_getElem_cons c] at hf
    obtain ⟨N, hN, hf⟩ := hf
    refine .inr ⟨g1, fun σ' H' => ∃ S', N S' ∧ R K e σ' H' S' (T1 ++ T), ?_, fun v H' hy => ?_⟩
    · rintro σ' H' ⟨S', n, x'⟩
      exact ⟨ds.length - (i + 1), by omega, rfl, by omega, S', hN S' n, x'⟩
    · obtain ⟨d, hd', x'⟩ := g2 v H' hy
      have : d = ds[i] := by rw [List.getElem?_eq_getElem c] at hd'; exact (Option.some.inj hd').symm
      subst this
      refine h2.run v _ σ H' S (T1 ++ T) _ _ (pT.1.app hT) x' hf fun S2 σ2 H2 hb x2 => ?_
      have kk := k.more (T1 := T1)
      exact h3.run σ2 H2 S2 (T1 ++ T) _ _ (pT.1.app hT) x2 hb ⟨fun S' σ' H' n x' => ⟨S', n, x'⟩, kk.rt, kk.nx, fun S' σ' H' n x' => ⟨S', n, x'⟩, kk.rn⟩
  · refine .inl ⟨i1 (by omega), ?_⟩
    rw [List.drop_of_length_le (by omega)] at hf
    exact k.nx _ _ _ hf x.tail⟩
class SimZ (K : PySem.W.Frag) (e : Ent) (ts : TS) (t : outParam TDS) : Prop where
  run : ∀ (σ : St) (H : Hp) (S : PSt) (Ed : DEnds) (E : Ends), R K e σ H S [] → t Ed S → Lnk K e [] Ed E → ts E σ H
theorem noOwn0 : NoOwn [] := fun p hp => by cases hp
instance (priority := low) simZ_of {ts : TS} {t : TDS} [h : SimS K e ts t] : SimZ K e ts t := ⟨fun σ H S Ed E x q k => h.run σ H S [] Ed E noOwn0 x q k⟩
instance simZSeq {t u : TS} {t' u' : TDS} [h1 : SimZ K e t t'] [h2 : SimZ K e u u'] : SimZ K e (tSeq t u) (tdSeq t' u') := ⟨fun σ H S Ed E x h k =>
  h1.run σ H S { Ed with nx := u' Ed } _ x h { k with nx := fun S1 σ1 H1 h1 x1 => h2.run σ1 H1 S1 Ed E x1 h1 k }⟩
instance simZIf {c : TT} {t u : TS} {c' : TDT} {t' u' : TDS} [h0 : SimT K e c c'] [h1 : SimZ K e t t'] [h2 : SimZ K e u u'] : SimZ K e (tIfS c t u) (tdIfS c' t' u') := ⟨fun σ H S Ed E x h k => by
  refine h0.run σ H S [] _ _ x h fun b S1 H1 hb x1 => ?_
  cases b
  · exact h2.run σ H1 S1 Ed E x1 hb k
  · exact h1.run σ H1 S1 Ed E x1 hb k⟩
instance simZWhile {c : TT} {tb : TS} {c' : TDT} {tb' : TDS} [h1 : SimT K e c c'] [h2 : SimZ K e tb tb'] : SimZ K e (tWhile c tb) (tdWhile c' tb') := ⟨fun σ H S Ed E x h k => by
  obtain ⟨W, ⟨m, w0⟩, h⟩ := h
  refine ⟨fun m σ H => ∃ S, W m S ∧ R K e σ H S [], ⟨m, S, w0, x⟩, ?_⟩
  rintro m σ H ⟨S, w, x⟩
  refine h1.run σ H S [] _ _ x (h m S w) fun b S1 H1 hb x1 => ?_
  cases b
  · exact k.nx _ _ _ hb x1
  · obtain ⟨N, hN, hb⟩ := hb
    refine ⟨fun σ H => ∃ S, N S ∧ R K e σ H S [], ?_, ?_⟩
    · rintro σ' H' ⟨S', n, x'⟩
      obtain ⟨m', hm, w'⟩ := hN S' n
      exact ⟨m', hm, S', w', x'⟩
    · exact h2.run σ H1 S1 _ _ x1 hb ⟨fun S' σ' H' n x' => ⟨S', n, x'⟩, k.rt, k.nx, fun S' σ' H' n x' => ⟨S', n, x'⟩, k.rn⟩⟩
class SimI0 (K : PySem.W.Frag) (e : Ent) (wi : TI) (ti : outParam TDI) : Prop where
  run : ∀ (σ : St) (H : Hp) (S : PSt) (Qd : List D → PSt → Prop) (Rr : It → Hp → Prop), R K e σ H S [] → ti S Qd → (∀ ds S' J H', Qd ds S' → ItOk K e J ds [] → R K e σ H' S' [] → Rr J H') → wi σ H Rr
instance simRng10 {ta : TA} {ta' : TDA} [h1 : SimA K e ta ta'] : SimI0 K e (iRng1 ta) (tiRng1 ta') := ⟨fun σ H S Qd Rr x h k => by
  refine h1.run σ H S [] _ _ x h fun rs S1 vs H1 hr hl x1 => ?_
  obtain ⟨r, rfl, hr⟩ := arg1_inv hr
  obtain ⟨v, rfl⟩ := len1 hl
  match r, hr, x1 with
  | .d (.int j), hr, x1 =>
    obtain ⟨U, x3, dv, x4⟩ := R.frz (T := []) x1
    cases dv
    exact ⟨j, rfl, hr.1, hr.2.1, k _ _ _ _ hr.2.2 itOk_rng ⟨U, x3⟩⟩⟩
instance simZFor {wi : TI} {g : TG} {tb : TS} {wi' : TDI} {g' : TDG} {tb' : TDS} [h1 : SimI0 K e wi wi'] [h2 : SimG K e g g'] [h3 : SimZ K e tb tb'] : SimZ K e (tFor wi g tb) (tdFor wi' g' tb') := ⟨fun σ H S Ed E x h k => by
  refine h1.run σ H S _ _ x h fun ds S1 J H1 hd it x1 => ?_
  refine ⟨fun i m σ H => m = ds.length - i ∧ i ≤ ds.length ∧ ∃ S, forD g' tb' Ed (ds.drop i) S ∧ R K e σ H S [], ⟨_, rfl, Nat.zero_le _, S1, hd, x1⟩, ?_⟩
  rintro i m σ H ⟨rfl, hi, S, hf, x⟩
  obtain ⟨i1, i2⟩ := it i σ H S [] x
  by_cases c : i < ds.length
  · obtain ⟨g1, g2⟩ := i2 c
    rw [List.drop_eq_getElem_cons c] at hf
    obtain ⟨N, hN, hf⟩ := hf
    refine .inr ⟨g1, fun σ' H' => ∃ S', N S' ∧ R K e σ' H' S' [], ?_, fun v H' hy => ?_⟩
    · rintro σ' H' ⟨S', n, x'⟩
      exact ⟨ds.length - (i + 1), by omega, rfl, by omega, S', hN S' n, x'⟩
    · obtain ⟨d, hd', x'⟩ := g2 v H' hy
      have : d = ds[i] := by rw [List.getElem?_eq_getElem c] at hd'; exact (Option.some.inj hd').symm
      subst this
      refine h2.run v _ σ H' S [] _ _ noOwn0 x' hf fun S2 σ2 H2 hb x2 => ?_
      exact h3.run σ2 H2 S2 _ _ x2 hb ⟨fun S' σ' H' n x' => ⟨S', n, x'⟩, k.rt, k.nx, fun S' σ' H' n x' => ⟨S', n, x'⟩, k.rn⟩
  · refine .inl ⟨i1 (by omega), ?_⟩
    rw [List.drop_of_length_le (by omega)] at hf
    exact k.nx _ _ _ hf x⟩
end
end Kn
set_option Elab.async false
set_option maxRecDepth 100000
set_option linter.all false
set_option autoImplicit false
namespace Kn
open PySem L2
theorem wipe_get (σ : St) (j : Nat) : ∀ vs : List Nat, (wipe σ vs)[j]? = if j ∈ vs ∧ j < σ.length then some none else σ[j]?
  | [] => by simp [wipe]
  | v :: vs => by
    unfold wipe
    rw [List.getElem?_set, wipe_length, wipe_get σ j vs]
    by_cases q : v = j
    · subst q
      rw [if_pos rfl]
      by_cases c : v < σ.length
      · simp [c]
      · simp [c]
    · rw [if_neg q]
      simp [List.mem_cons, show ¬ j = v from fun z => q z.symm]
theorem wipe_wipe (σ : St) (vs : List Nat) : wipe (wipe σ vs) vs = wipe σ vs := by
  apply List.ext_getElem?
  intro j
  rw [wipe_get (wipe σ vs), wipe_length, wipe_get σ j vs]
  split <;> rfl
theorem wipe_set {σ : St} {vs : List Nat} {i : Nat} {v : Option V} (h : i ∈ vs) : wipe (σ.set i v) vs = wipe σ vs := by
  apply List.ext_getElem?
  intro j
  rw [wipe_get, wipe_get, List.length_set, List.getElem?_set]
  by_cases q : i = j
  · subst q
    by_cases c : i < σ.length
    · rw [if_pos ⟨h, c⟩, if_pos ⟨h, c⟩]
    · simp [c]
  · rw [if_neg q]
class InL (i : Nat) (vs : List Nat) : Prop where
  mem : i ∈ vs
instance inMapH {i : Nat} {s : Str} {l : List (Str × Nat)} : InL i (List.map (fun x : Str × Nat => x.2) ((s, i) :: l)) := ⟨by simp⟩
class GW (g : TG) (vs : List Nat) : Prop where
  w : ∀ (x : V) (σ : St) (H : Hp) (Q : St → Hp → Prop), (g x σ H fun σ2 H2 => wipe σ2 vs = wipe σ vs → Q σ2 H2) → g x σ H fun σ2 H2 => wipe σ2 vs = wipe σ vs ∧ Q σ2 H2
instance gwName {i : Nat} {vs : List Nat} [h : InL i vs] : GW (gName i) vs := ⟨fun x σ H Q q => ⟨wipe_set h.mem, q (wipe_set h.mem)⟩⟩
def wipeR (ρ : List (Option PC)) : List Nat → List (Option PC)
  | [] => ρ
  | v :: vs => (wipeR ρ vs).set v none
theorem wipeR_length (ρ : List (Option PC)) : ∀ vs : List Nat, (wipeR ρ vs).length = ρ.length
  | [] => rfl
  | v :: vs => by unfold wipeR; rw [List.length_set, wipeR_length ρ vs]
theorem wipeR_some {ρ : List (Option PC)} {i : Nat} {x : PC} : ∀ {vs : List Nat}, (wipeR ρ vs)[i]? = some (some x) → ρ[i]? = some (some x) ∧ i ∉ vs
  | [], h => ⟨h, by simp⟩
  | v :: vs, h => by
    unfold wipeR at h
    by_cases hi : v = i
    · subst hi
      by_cases hv : v < (wipeR ρ vs).length
      · rw [List.getElem?_set_self hv] at h; cases h
      · rw [List.getElem?_eq_none (by simpa using hv)] at h; cases h
    · rw [List.getElem?_set_ne hi] at h
      obtain ⟨h1, h2⟩ := wipeR_some h
      exact ⟨h1, by simp only [List.mem_cons, not_or]; exact ⟨fun e => hi e.symm, h2⟩⟩
def PSt.wipe (S : PSt) (vs : List Nat) : PSt := ⟨wipeR S.ρ vs, S.W⟩
section
variable {K : PySem.W.Frag} {e : Ent}
theorem RU.wipe {σ : St} {H : Hp} {S : PSt} {T : List Tm} {U : Addr → Prop} (x : RU K e σ H S T U) (vs : List Nat) (hT : NoOwn T) : RU K e (L2.wipe σ vs) H (S.wipe vs) T U := x.slots (by rw [wipe_length, wipeR_length]; exact x.len) (fun i c hi => by
  obtain ⟨h1, h2⟩ := wipeR_some hi
  exact ⟨h1, by rw [wipe_get, if_neg (fun z => h2 z.1)]⟩) hT
theorem RU.unwipe {σ : St} {H : Hp} {S : PSt} {T : List Tm} {U : Addr → Prop} {vs : List Nat} (x : RU K e (L2.wipe σ vs) H (S.wipe vs) T U) (hT : NoOwn T) : RU K e σ H (S.wipe vs) T U := x.slots (by have := x.len; rw [wipe_length] at this; exact this) (fun i c hi => by
  obtain ⟨h1, h2⟩ := wipeR_some (ρ := S.ρ) hi
  exact ⟨hi, by rw [wipe_get, if_neg (fun z => h2 z.1)]⟩) hT
def notOwn : Tm → Bool
  | .v _ (.own _) => false
  | _ => true
theorem noOwn_filter (T : List Tm) : NoOwn (T.filter notOwn) := fun p hp w j z => by
  rw [List.mem_filter] at hp
  rw [z] at hp
  exact absurd hp.2 Bool.false_ne_true
theorem RU.back {σ : St} {H H0 : Hp} {S S0 : PSt} {T T1 : List Tm} {U U0 : Addr → Prop} (x0 : RU K e σ H0 S0 T U0) (x : RU K e σ H S (T1 ++ T.filter notOwn) U) : RU K e σ H S (T1 ++ T) U := { x with
  tmp := fun p hp => by
    rcases List.mem_append.mp hp with hp | hp
    · exact x.tmp p (List.mem_append_left _ hp)
    · by_cases c : notOwn p = true
      · exact x.tmp p (List.mem_append_right _ (List.mem_filter.mpr ⟨hp, c⟩))
      · match p, c, x0.tmp p hp with
        | .v w (.own j), _, h => exact h
        | .v w (.d d), c, _ => exact (c rfl).elim
        | .pin b o w, c, _ => exact (c rfl).elim
        | .nw m ds, c, _ => exact (c rfl).elim }
def compD (g : TDG) (tt : TDT) (te : TDE) (vs : List Nat) (Q : List D → PSt → Prop) : List D → List D → PSt → Prop
  | [], acc, S => Q acc S
  | d :: ds, acc, S => ∃ N : List D → PSt → Prop, (∀ a S', N a S' → compD g tt te vs Q ds a S') ∧
    g d S fun S2 => tt S2 fun b S3 => if b = true then te S3 fun r S4 => frc r S4 fun y S5 => acc.length ≤ 999999 ∧ N (acc ++ [y]) (S5.wipe vs) else N acc (S3.wipe vs)
def tnLc (wi : TDI) (g : TDG) (tt : TDT) (te : TDE) (vs : List Nat) : TDN := fun S Q => wi S fun ds S1 => compD g tt te vs Q ds [] (S1.wipe vs)
instance simLc {wi : TI} {g : TG} {tt : TT} {te : TE} {vs : List Nat} {wi' : TDI} {g' : TDG} {tt' : TDT} {te' : TDE} [h1 : SimI K e wi wi'] [h2 : SimG K e g g'] [hw : GW g vs] [h3 : SimT K e tt tt'] [h4 : SimE K e te te'] : SimN K e (tLc wi g tt te vs) (tnLc wi' g' tt' te' vs) := ⟨fun σ H S T Qd Q x0 h k => by
  obtain ⟨U0, x0⟩ := x0
  have xf : R K e σ H S (T.filter notOwn) := ⟨U0, x0.less fun p hp => (List.mem_filter.mp hp).1⟩
  have hT := noOwn_filter T
  refine h1.run σ H S (T.filter notOwn) _ _ xf h fun ds S1 J H1 T1 hd pT it x1 => ?_
  intro l hl
  have hTT : NoOwn (T1 ++ T.filter notOwn) := pT.1.app hT
  obtain ⟨U1, x1⟩ := x1
  have nt : NoTm (T1 ++ T.filter notOwn) l := by
    obtain ⟨_, _, _, f⟩ := x1.moreU (o := .lst []) hl
    exact f
  refine ⟨fun i m H => m = ds.length - i ∧ i ≤ ds.length ∧ ∃ S acc, compD g' tt' te' vs Qd (ds.drop i) acc S ∧ (∃ S0 : PSt, S = S0.wipe vs) ∧ RN K e (wipe σ vs) H S (T1 ++ T.filter notOwn) l acc, ⟨_, rfl, Nat.zero_le _, S1.wipe vs, [], hd, ⟨S1, rfl⟩, ?_⟩, ?_⟩
  · exact (x1.wipe vs hTT).newL hl .nil
  rintro i m H ⟨rfl, hi, S, acc, hf, ⟨S0, hS0⟩, x⟩
  obtain ⟨U, xs, xu, ow, ns, _, hlm, hxs⟩ := x.ex
  have xr : R K e (wipe σ vs) H S (T1 ++ (.nw l acc :: T.filter notOwn)) := ⟨U, (xu.push (p := .nw l acc) ⟨ow, ns, xs, hlm, hxs⟩).less fun p hp => by
    rcases List.mem_append.mp hp with hp | hp
    · exact List.mem_cons_of_mem _ (List.mem_append_left _ hp)
    · rcases List.mem_cons.mp hp with rfl | hp
      · exact List.mem_cons_self
      · exact List.mem_cons_of_mem _ (List.mem_append_right _ hp)⟩
  have hTn : NoOwn (T1 ++ (.nw l acc :: T.filter notOwn)) := pT.1.app fun p hp w j z => by
    rcases List.mem_cons.mp hp with rfl | hp
    · cases z
    · exact hT p hp w j z
  obtain ⟨i1, i2⟩ := it i _ H S _ xr
  have back : ∀ {σ2 : St} {H2 : Hp} {S2 : PSt}, wipe σ2 vs = wipe σ vs → R K e σ2 H2 S2 (T1 ++ (.nw l acc :: T.filter notOwn)) → RN K e (wipe σ vs) H2 (S2.wipe vs) (T1 ++ T.filter notOwn) l acc := by
    intro σ2 H2 S2 e2 x2
    obtain ⟨U2, x2⟩ := x2
    have x3 := x2.wipe vs hTn
    rw [e2] at x3
    obtain ⟨o3, n3, v3, h3, d3⟩ := x3.tmp (.nw l acc) (by simp)
    exact ⟨U2, v3, x3.less fun p hp => by
      rcases List.mem_append.mp hp with hp | hp
      · exact List.mem_append_left _ hp
      · exact List.mem_append_right _ (List.mem_cons_of_mem _ hp), o3, n3, nt, h3, d3⟩
  by_cases c : i < ds.length
  · obtain ⟨g1, g2⟩ := i2 c
    rw [List.drop_eq_getElem_cons c] at hf
    obtain ⟨N, hN, hf⟩ := hf
    refine .inr ⟨g1, fun H' => ∃ S' acc', N acc' S' ∧ (∃ S0 : PSt, S' = S0.wipe vs) ∧ RN K e (wipe σ vs) H' S' (T1 ++ T.filter notOwn) l acc', ?_, fun v H' hy => ?_⟩
    · rintro H' ⟨S', acc', n, hS', x'⟩
      exact ⟨ds.length - (i + 1), by omega, rfl, by omega, S', acc', hN _ _ n, hS', x'⟩
    · obtain ⟨d, hd', x'⟩ := g2 v H' hy
      have : d = ds[i] := by rw [List.getElem?_eq_getElem c] at hd'; exact (Option.some.inj hd').symm
      subst this
      have ww := hw.w v (wipe σ vs) H'
      rw [wipe_wipe] at ww
      refine ww _ (h2.run v _ (wipe σ vs) H' S (T1 ++ (.nw l acc :: T.filter notOwn)) _ _ hTn x' hf fun S2 σ2 H2 hb x2 e2 => ?_)
      refine h3.run σ2 H2 S2 _ _ _ x2 hb fun b S3 H3 hb x3 => ?_
      cases b
      · exact ⟨_, _, hb, ⟨_, rfl⟩, back e2 x3⟩
      · refine h4.run σ2 H3 S3 _ _ _ x3 hb fun r S4 y H4 hr x4 => x4.frc hr fun dy S5 h5 x5 => ?_
        have x6 : R K e σ2 H4 S5 (T1 ++ (.nw l acc :: T.filter notOwn)) := x5.pop
        obtain ⟨U6, v6, xu6, o6, n6, t6, hl6, d6⟩ := (back e2 x6).ex
        obtain ⟨U5, x5⟩ := x5
        have x7 := x5.wipe vs (fun p hp w j z => by
          rcases List.mem_cons.mp hp with rfl | hp
          · cases z
          · exact hTn p hp w j z)
        rw [e2] at x7
        obtain ⟨o3, n3, v3, h3, d3⟩ := x7.tmp (.nw l acc) (by simp)
        have rn : RN K e (wipe σ vs) H4 (S5.wipe vs) (.v y (.d dy) :: (T1 ++ T.filter notOwn)) l acc := ⟨U5, v3, x7.less fun p hp => by
          rcases List.mem_cons.mp hp with rfl | hp
          · exact List.mem_cons_self
          · rcases List.mem_append.mp hp with hp | hp
            · exact List.mem_cons_of_mem _ (List.mem_append_left _ hp)
            · exact List.mem_cons_of_mem _ (List.mem_append_right _ (List.mem_cons_of_mem _ hp)), o3, n3, fun ds hm => by
          rcases List.mem_cons.mp hm with z | z
          · cases z
          · exact nt ds z, h3, d3⟩
        obtain ⟨vs', e1, e3, rn'⟩ := rn.app
        exact ⟨vs', e1, Nat.lt_of_le_of_lt (by rw [e3]; exact h5.1) (by decide), _, _, h5.2, ⟨_, rfl⟩, rn'⟩
  · refine .inl ⟨i1 (by omega), ?_⟩
    rw [List.drop_of_length_le (by omega)] at hf
    subst hS0
    refine k _ _ _ _ hf ⟨U, xs, ?_⟩
    have x5 := xu.unwipe hTT
    have x6 : RU K e σ H (S0.wipe vs) ([] ++ T.filter notOwn) U := x5.less fun p hp => List.mem_append_right _ hp
    have x7 := x0.back x6
    refine ⟨x7, ow, fun j c hj oc => ?_, fun ds hm => ?_, hlm, hxs⟩
    · obtain ⟨h1, h2⟩ := wipeR_some (ρ := S0.ρ) hj
      have := ns j c hj oc
      rw [wipe_get, if_neg (fun z => h2 z.1)] at this
      exact this
    · refine nt ds (List.mem_append_right _ (List.mem_filter.mpr ⟨hm, rfl⟩))⟩
end
end Kn
set_option Elab.async false
set_option maxRecDepth 100000
set_option linter.all false
set_option autoImplicit false
namespace Kn
open PySem L2
structure Exn where
  cls : Addr
  fs : List (Str × D)
def ExOk (K : PySem.W.Frag) (U : Addr → Prop) (W : Wd) (H : Hp) (x : Exn) (c : Value) (d : Option Addr) : Prop :=
  c = .ref x.cls ∧ ((x.fs = [] ∧ d = none) ∨ (x.fs ≠ [] ∧ ∃ b vs, d = some b ∧ ¬ U b ∧ H b = some (.xd vs) ∧ DvF K W.Tp (Hd U H) vs x.fs))
class WLk (K : PySem.W.Frag) (e : Ent) (Wx : WX) (w : outParam (Exn → PSt → Prop)) : Prop where
  run : ∀ (x : Exn) (S : PSt) (σ : St) (H : Hp) (U : Addr → Prop) (c : Value) (d : Option Addr), w x S → RU K e σ H S [] U → ExOk K U S.W H x c d → Wx c d σ H
instance wlk0 {K : PySem.W.Frag} {e : Ent} : WLk K e (fun _ _ _ _ => False) (fun _ _ => False) := ⟨fun x S σ H U c d w _ _ => w⟩
abbrev FSpec := List D → Wd → (D → Wd → Prop) → (Exn → Wd → Prop) → Prop
def lift (K : PySem.W.Frag) (F : FSpec) : Sp := fun vs H Q E => ∃ (U : Addr → Prop) (W : Wd) (ds : List D) (Qd : D → Wd → Prop) (Ed : Exn → Wd → Prop), Rw K U W H ∧ DvL K W.Tp (Hd U H) vs ds ∧ F ds W Qd Ed ∧
  (∀ d W' v H' U', Qd d W' → Rw K U' W' H' → Fr ⟨U, W, H⟩ U' W' H' → Dv K W'.Tp (Hd U' H') v d → Q v H') ∧
  (∀ x W' c dd H' U', Ed x W' → Rw K U' W' H' → Fr ⟨U, W, H⟩ U' W' H' → ExOk K U' W' H' x c dd → E c dd H')
section
variable {K : PySem.W.Frag} {e : Ent}
theorem RU.callBack {σ : St} {H H' : Hp} {S : PSt} {T : List Tm} {U U' : Addr → Prop} {W' : Wd} (x : RU K e σ H S T U) (r : Rw K U' W' H') (f : Fr ⟨U, S.W, H⟩ U' W' H') {v : V} {d : D} (hv : Dv K W'.Tp (Hd U' H') v d) : R K e σ H' ⟨S.ρ, W'⟩ (.v v (.d d) :: T) :=
  ⟨U', (x.to r f).push hv⟩
def CallF (F : FSpec) (ds : List D) (S : PSt) (Q : Rv → PSt → Prop) (w : Exn → PSt → Prop) : Prop := F ds S.W (fun d W' => Q (.d d) ⟨S.ρ, W'⟩) (fun x W' => w x ⟨S.ρ, W'⟩)
def tdCall (F : FSpec) (w : Exn → PSt → Prop) (t : TDA) : TDE := fun S Q => t S fun rs S1 => frcL rs S1 fun ds S2 => CallF F ds S2 Q w
instance simCall {F : FSpec} {Wx : WX} {w : Exn → PSt → Prop} {t : TA} {t' : TDA} [h1 : SimA K e t t'] [h2 : WLk K e Wx w] : SimE K e (tCallS (lift K F) (WE Wx) t) (tdCall F w t') := ⟨fun σ H S T Qd Q x h k => by
  refine h1.run σ H S T _ _ x h fun rs S1 vs H1 hc hl x1 => ?_
  refine R.frcL hl x1 hc fun ds S2 h3 hl2 x2 => ?_
  obtain ⟨U, x2⟩ := x2
  have xT := x2.less (T' := T) fun p hp => List.mem_append_right _ hp
  refine ⟨U, S2.W, ds, _, _, x2.wo, RU.tms hl2 x2, h3, fun d W' v H' U' q r f dv => k _ _ _ _ q (xT.callBack r f dv), fun x W' c dd H' U' q r f ex => ?_⟩
  exact h2.run x ⟨S2.ρ, W'⟩ σ H' U' c dd q ((xT.to r f).less fun p hp => by cases hp) ex⟩
def S0 (N : List Str) (ds : List D) (W : Wd) : PSt := ⟨ds.map (fun d => some (.val d)) ++ List.replicate (N.length - ds.length) none, W⟩
theorem RU.start {N : List Str} {H : Hp} {vs : List V} {ds : List D} {U : Addr → Prop} {W : Wd} (r : Rw K U W H) (hv : DvL K W.Tp (Hd U H) vs ds) : RU K ⟨U, W, H⟩ (start N vs) H (S0 N ds W) [] U where
  wo := r
  fr := Fr.refl U W H
  ed := r.dom
  len := by
    show (vs.map some ++ List.replicate (N.length - vs.length) none).length = _
    simp [S0, hv.len]
  slot := fun i c h => by
    have h : (ds.map (fun d => some (PC.val d)) ++ List.replicate (N.length - ds.length) none)[i]? = some (some c) := h
    by_cases q : i < ds.length
    · rw [List.getElem?_append_left (by simpa using q), List.getElem?_map] at h
      obtain ⟨d, h1, h2⟩ := Option.map_eq_some_iff.mp h
      cases h2
      obtain ⟨v, h3, h4⟩ := hv.get h1
      refine ⟨v, ?_, h4⟩
      unfold L2.start
      have hlt : i < vs.length := by rw [hv.len]; exact q
      rw [List.getElem?_append_left (by simpa using hlt), List.getElem?_map, h3]; rfl
    · rw [List.getElem?_append_right (by simpa using q), List.getElem?_replicate] at h
      split at h
      · cases h
      · cases h
  sep := fun i j c c' l n hi oi hj oj si sj => by
    have hi : (ds.map (fun d => some (PC.val d)) ++ List.replicate (N.length - ds.length) none)[i]? = some (some c) := hi
    by_cases q : i < ds.length
    · rw [List.getElem?_append_left (by simpa using q), List.getElem?_map] at hi
      obtain ⟨d, h1, h2⟩ := Option.map_eq_some_iff.mp hi
      cases h2
      exact oi
    · rw [List.getElem?_append_right (by simpa using q), List.getElem?_replicate] at hi
      split at hi
      · cases hi
      · cases hi
  tmp := fun p hp => by cases hp
end
section
variable {P : Program} {w : World} {K : PySem.W.Frag} {mg : Str → Option Value} {base : Heap}
theorem Fz.okD {x : Str} {st : Stmt} {ps N : List Str} {k : Nat} {Fs : FSpec} (F : Fz K mg x st ps) (S : FnScope N ps (defScope st)) (hl : ∀ ds W Q E, Fs ds W Q E → ds.length = ps.length)
    (hbody : ∀ (f : Addr) (cdv : Value) (A : Around) (outer : List Env) (s : Shared) (H : Hp) (E : XK) (e : Ent) (ds : List D) (Qd : D → Wd → Prop) (Ed : Exn → Wd → Prop), Room k (A.deeper (PyProof.Rows.envOfC x (defScope st) s.heap.objs.size f cdv)) → WLk K e (fun c d _ H => E c d H) (fun x S => Ed x S.W) → Fs ds e.W Qd Ed →
      ∃ t td, PSs (cxOf (L2.CX P w) P w K mg base N x (defScope st) f cdv A outer s H E) (defBody st) t ∧ SimZ K e t td ∧ td ⟨fun S => Qd .non S.W, Qd, fun _ => False, fun _ => False, fun _ _ => False⟩ (S0 N ds e.W)) : Fx P w K mg base (L2.CX P w) x (k + 1) ps (lift K Fs) := by
  refine F.okX S (fun vs H Q E h => ?_) (fun f cdv A outer s H vs Q E hr h => ?_)
  · obtain ⟨U, W, ds, Qd, Ed, r, dv, hF, _⟩ := h
    rw [dv.len]; exact hl _ _ _ _ hF
  · obtain ⟨U, W, ds, Qd, Ed, r, dv, hF, kq, ke⟩ := h
    obtain ⟨t, td, hp, hs, ht⟩ := hbody f cdv A outer s H E ⟨U, W, H⟩ ds Qd Ed hr ⟨fun x S σ H' U' c d hw ru ex => ke x S.W c d H' U' hw ru.wo ru.fr ex⟩ hF
    refine ⟨t, hp, hs.run (start N vs) H (S0 N ds W) _ _ ⟨U, RU.start r dv⟩ ht ⟨fun S' σ' H' q ⟨U', x'⟩ => ?_, fun d S' σ' v H' q ⟨U', x'⟩ => ?_, fun _ _ _ q => q.elim, fun _ _ _ q => q.elim, fun _ _ _ _ _ q => q.elim⟩⟩
    · exact kq _ _ _ _ U' q x'.wo x'.fr .non
    · exact kq _ _ _ _ U' q x'.wo x'.fr (x'.tmp (.v v (.d d)) (by simp))
end
theorem Fz.noneD {P : Program} {w : World} {K : PySem.W.Frag} {mg : Str → Option Value} {base : Heap} {CX : CXT} {x : Str} {st : Stmt} {ps : List Str} {k : Nat} {Fs : FSpec} (F : Fz K mg x st ps) (h : ∀ ds W Q E, ¬ Fs ds W Q E) : Fx P w K mg base CX x k ps (lift K Fs) := F.none fun vs H Q E ⟨U, W, ds, Qd, Ed, _, _, z, _⟩ => h _ _ _ _ z
section
variable {K : PySem.W.Frag} {e : Ent}
end
section
variable {P : Program} {w : World} {K : PySem.W.Frag} {mg : Str → Option Value} {base : Heap}
end
def tRaise (t : St → Hp → XK → Prop) (W : WX) : TS := fun _ σ H => t σ H fun cls d H' => W cls d σ H'
def tMkO (C : Addr) : St → Hp → XK → Prop := fun _ H Q => Q (.ref C) none H
theorem ps_raiseU {X : Cx} {W : WX} {C : Addr} {ex : Expr} {pos : Pos} (hc : X.calm = true) (tk : Takes X W) (he : PMk X ex (fun _ H Q => Q (.ref C) none H)) : PS X (.Raise (some ex) none pos) (tRaise (tMkO C) W) := ps_raise hc tk he
section
variable {K : PySem.W.Frag} {e : Ent}
def tdRaise (C : Addr) (w : Exn → PSt → Prop) : TDS := fun _ S => w ⟨C, []⟩ S
instance simRaise {C : Addr} {Wx : WX} {w : Exn → PSt → Prop} [h : WLk K e Wx w] : SimS K e (tRaise (tMkO C) Wx) (tdRaise C w) := ⟨fun σ H S T Ed E hT ⟨U, x⟩ q k => h.run ⟨C, []⟩ S σ H U _ _ q (x.less fun p hp => by cases hp) ⟨rfl, .inl ⟨rfl, rfl⟩⟩⟩
def mutO (S : PSt) (j : Nat) (F : List D → (List D → Prop) → Prop) (Q : List D → PSt → Prop) : Option (Option PC) → Prop
  | some (some (.ownL ds)) => F ds fun es => Q es (S.set j (.ownL es))
  | _ => False
def mutC (S : PSt) (a : Addr) (F : List D → (List D → Prop) → Prop) (Q : List D → PSt → Prop) : Option Cell → Prop
  | some (.lst ds) => F ds fun es => Q es ⟨S.ρ, S.W.put a (.lst es)⟩
  | _ => False
def mutL (S : PSt) (r : Rv) (F : List D → (List D → Prop) → Prop) (Q : List D → PSt → Prop) : Prop := match r with
  | .own j => mutO S j F Q S.ρ[j]?
  | .d (.ref a) => mutC S a F Q (S.W.ω a)
  | _ => False
theorem R.mutL {σ : St} {H : Hp} {S : PSt} {T : List Tm} {v : V} {r : Rv} {F : List D → (List D → Prop) → Prop} {Q : List D → PSt → Prop} {C : Prop} (x : R K e σ H S (.v v r :: T)) (h : Kn.mutL S r F Q)
    (k : ∀ (l : Addr) (vs : List V) (ds : List D) (U : Addr → Prop) (Qs : List D → Prop), v = .ref l → H l = some (.lst vs) → DvL K S.W.Tp (Hd U H) vs ds → RU K e σ H S (.v v r :: T) U → F ds Qs →
      (∀ (vs' : List V) (es : List D), Qs es → DvL K S.W.Tp (Hd U H) vs' es → ∃ S', Q es S' ∧ RU K e σ (upd H l (.lst vs')) S' T U ∧ S'.W.Tp = S.W.Tp) → C) : C := by
  obtain ⟨U, x⟩ := x
  match r, x, h with
  | .own j, x, h =>
    have hs : σ[j]? = some (some v) := x.tmp (.v v (.own j)) (by simp)
    have xT := x.less (T' := T) fun p hp => List.mem_cons_of_mem _ hp
    have h : mutO S j F Q S.ρ[j]? := h
    match q : S.ρ[j]?, h with
    | some (some (.ownL ds)), h =>
      obtain ⟨l, vs, e1, ow, e2, e3⟩ := x.ownL q
      rw [hs] at e1; cases e1
      refine k l vs ds U _ rfl e2 e3 x h fun vs' es q1 d1 => ⟨_, q1, ?_, rfl⟩
      exact xT.updO (c' := .ownL es) q trivial trivial hs ow ⟨l, vs', rfl, ow, upd_same, DvL.le (Same.lq (Hd.upd ow.u)) (fun _ z => z) d1⟩
  | .d (.ref a), x, h =>
    have hv : Dv K S.W.Tp (Hd U H) v (.ref a) := x.tmp (.v v (.d (.ref a))) (by simp)
    cases hv
    have xT := x.less (T' := T) fun p hp => List.mem_cons_of_mem _ hp
    have h : mutC S a F Q (S.W.ω a) := h
    cases q : S.W.ω a with
    | none => rw [q] at h; exact h.elim
    | some c =>
      rw [q] at h
      cases c with
      | lst ds =>
        obtain ⟨u, vs, e2, e3⟩ := x.wo.cell a _ q
        refine k a vs ds U _ rfl e2 e3 x h fun vs' es q1 d1 => ⟨_, q1, ?_, rfl⟩
        exact xT.updC (c' := .lst es) q trivial ⟨vs', upd_same, DvL.le (Same.lq (Hd.upd u)) (fun _ z => z) d1⟩
      | ins C fs => exact h.elim
      | dct ks => exact h.elim
      | lk od vs ks => exact h.elim
      | dtn w o ks => exact h.elim
def tdApp (to : TDE) (t : TDA) : TDE := fun S Q => to S fun rx S1 => (∃ ds, derefD S1 rx = some (.lst ds)) ∧ t S1 fun rs S2 => arg1 rs fun r => frc r S2 fun d S3 => mutL S3 rx (fun ds k => ds.length ≤ 999999 ∧ k (ds ++ [d])) fun _ S4 => Q (.d .non) S4
theorem swap2 {σ : St} {H : Hp} {S : PSt} {T : List Tm} {p q : Tm} (x : R K e σ H S (p :: q :: T)) : R K e σ H S (q :: p :: T) := x.less fun r hr => by
  simp at hr ⊢
  rcases hr with h | h | h
  · exact .inr (.inl h)
  · exact .inl h
  · exact .inr (.inr h)
theorem tyV_list {σ : St} {H : Hp} {S : PSt} {T : List Tm} {v : V} {r : Rv} {ds : List D} (x : R K e σ H S (.v v r :: T)) (h : derefD S r = some (.lst ds)) : tyV K "list" v H := by
  obtain ⟨U, _, vw, _⟩ := x.one h
  obtain ⟨a, xs, rfl, h1, _⟩ : Vw K S.W.Tp U H v (.lst ds) := vw
  exact .inl ⟨rfl, _, SqL.of h1⟩
instance simApp {to : TE} {t : TA} {to' : TDE} {t' : TDA} [h1 : SimE K e to to'] [h2 : SimA K e t t'] : SimE K e (tBM K "list" rAppend to t) (tdApp to' t') := ⟨fun σ H S T Qd Q x h k => by
  refine h1.run σ H S T _ _ x h fun rx S1 v H1 hr x1 => ?_
  obtain ⟨⟨ds0, hd0⟩, hr⟩ := hr
  refine ⟨tyV_list x1 hd0, h2.run σ H1 S1 _ _ _ x1 hr fun rs S2 vs H2 hr hl x2 => ?_⟩
  obtain ⟨r, rfl, hr⟩ := arg1_inv hr
  obtain ⟨y, rfl⟩ := len1 hl
  refine R.frc (T := .v v rx :: T) x2 hr fun d S3 h3 x3 => ?_
  refine (swap2 x3).mutL h3 fun l xs ds U Qs e1 e2 e3 x4 hq kk => ?_
  obtain ⟨S4, q4, x5, _⟩ := kk (xs ++ [y]) (ds ++ [d]) hq.2 (e3.app (.cons (x4.tmp (.v y (.d d)) (by simp)) .nil))
  exact ⟨l, xs, y, e1, rfl, e2, bigl_of (by rw [e3.len]; have := hq.1; omega), k _ _ _ _ q4 ⟨U, (x5.less fun p hp => List.mem_cons_of_mem _ hp).push .non⟩⟩⟩
end
end Kn
set_option Elab.async false
set_option maxRecDepth 100000
set_option linter.all false
set_option autoImplicit false
namespace Kn
open PySem L2
theorem hu65_of {A : Around} {k : Nat} (hr : Room k A) : A.units + 65 < cLine := by have := hr.un; omega
theorem Fx.toX {P : Program} {w : World} {K : PySem.W.Frag} {mg : Str → Option Value} {base : Heap} {x : Str} {k : Nat} {ps : List Str} {sp : Sp} (F : Fx P w K mg base CX0 x k ps sp) : Fx P w K mg base (L2.CX P w) x k ps sp := by
  obtain ⟨f, fd, F1, m⟩ := F.ex
  refine ⟨f, fd, ⟨F1.len, fun A outer s H args us vs Q E hr e0 b v h => codeAny_mono (F1.run A outer s H args us vs Q E hr e0 b v h) fun r s' hq => ?_⟩, m⟩
  cases r with
  | error er => exact hq.elim
  | ok fl => cases fl <;> exact hq
theorem Fx.imp {P : Program} {w : World} {K : PySem.W.Frag} {mg : Str → Option Value} {base : Heap} {CX : CXT} {x : Str} {k : Nat} {ps : List Str} {sp sp' : Sp} (F : Fx P w K mg base CX x k ps sp) (h : ∀ vs H Q E, sp' vs H Q E → sp vs H Q E) : Fx P w K mg base CX x k ps sp' :=
  let ⟨f, fd, F1, m⟩ := F.ex
  ⟨f, fd, F1.imp h, m⟩
def F_take : FSpec := fun ds W Q _ => ∃ m : Int, ds = [.tape, .int m] ∧ 0 < m ∧ ∀ r : Int, 0 ≤ r → r < m → Q (.int r) W
theorem take_lift {K : PySem.W.Frag} {vs : List V} {H : Hp} {Q : VK} {E : XK} (h : lift K F_take vs H Q E) : spTake vs H Q E := by
  obtain ⟨U, W, ds, Qd, Ed, r, dv, ⟨m, rfl, hm, hq⟩, kq, _⟩ := h
  cases dv with
  | cons d1 dv =>
  cases dv with
  | cons d2 dv =>
  cases dv
  cases d1 with
  | tape ht =>
  cases d2
  rename_i t
  have htp := (r.tape t ht).2.1
  have hut := (r.tape t ht).1
  refine ⟨t, m, rfl, htp, hm, fun x H' h0 h1 d => ?_⟩
  have kp : ∀ b o, H b = some o → b ≠ t → H' b = some o := d.keep
  refine kq (.int x) W _ H' U (hq x h0 h1) ?_ ?_ (.int x)
  · have sm : Same (Hd U H) (Hd U H') := fun b o q => by
      obtain ⟨q, n⟩ := Hd.of q
      exact Hd.get (kp b o q fun z => n (z ▸ hut)) n
    refine ⟨fun b u => ?_, fun b hb => ?_, fun a c hc => ?_⟩
    · by_cases q : b = t
      · subst q
        obtain ⟨ns, z⟩ := d.tape
        rw [z]; intro z; cases z
      · cases z : H b with
        | none => exact absurd z (r.dom b u)
        | some o => rw [kp b o z q]; intro z; cases z
    · obtain ⟨a1, a2, a3⟩ := r.tape b hb
      refine ⟨a1, ?_, a3⟩
      by_cases q : b = t
      · subst q; exact d.tape
      · exact a2.le fun o z => kp b o z q
    · obtain ⟨u, ck⟩ := r.cell a c hc
      refine ⟨u, ck.le (Same.lq sm) (fun _ z => z) fun o z => kp a o z fun q => ?_⟩
      have := (r.tape t ht).2.2
      rw [← q, hc] at this; cases this
  · refine ⟨fun b o q n => .inl (kp b o q fun z => n (.inl (z ▸ ht))), fun _ u => u, fun _ u => .inl u, fun _ z => .inl z, fun _ z => z, fun b q => ?_, fun _ _ z _ => z⟩
    by_cases z : b = t
    · subst z
      obtain ⟨ns, z⟩ := d.tape
      rw [z]; intro z; cases z
    · cases q2 : H b with
      | none => exact absurd q2 q
      | some o => rw [kp b o q2 z]; intro z; cases z
def F_tape : FSpec := fun ds W Q _ => ∃ k n : Int, ds = [.scr, .int k, .int n] ∧ 0 ≤ k ∧ 0 ≤ n ∧ n ≤ 1000 ∧ ∀ Tp' : Addr → Prop, (∀ t, W.Tp t → Tp' t) → Q .tape ⟨Tp', W.ω⟩
theorem tape_lift {K : PySem.W.Frag} {vs : List V} {H : Hp} {Q : VK} {E : XK} (h : lift K F_tape vs H Q E) : ∃ (a : Addr) (k n : Int) (ns : List Int), vs = [.ref a, .int k, .int n] ∧ SqL K H a (ns.map V.int) ∧ 0 ≤ k ∧ 0 ≤ n ∧ n ≤ 1000 ∧
    ∀ (t : Addr) (H' : Hp), H t = none → Same H H' → Tape H' t → Q (.ref t) H' := by
  obtain ⟨U, W, ds, Qd, Ed, r, dv, ⟨k, n, rfl, hk, hn0, hn, hq⟩, kq, _⟩ := h
  cases dv with
  | cons d1 dv =>
  cases dv with
  | cons d2 dv =>
  cases dv with
  | cons d3 dv =>
  cases dv
  cases d1 with
  | scr hs hl =>
  cases d2
  cases d3
  rename_i a ns
  refine ⟨a, k, n, ns, rfl, Same.seq Hd.sub hs, hk, hn0, hn, fun t H' ht sm tp => ?_⟩
  have nt : ∀ b o, H b = some o → b ≠ t := fun b o q => ne_of_none q ht
  have smd : Same (Hd U H) (Hd (fun b => U b ∨ b = t) H') := fun b o q => by
    obtain ⟨q, n⟩ := Hd.of q
    exact Hd.get (sm b o q) fun z => z.elim n (nt b o q)
  refine kq .tape ⟨fun b => W.Tp b ∨ b = t, W.ω⟩ (.ref t) H' (fun b => U b ∨ b = t) (hq _ fun _ z => .inl z) ?_ ?_ (.tape (.inr rfl))
  · refine ⟨fun b u => ?_, fun b hb => ?_, fun a c hc => ?_⟩
    · rcases u with u | rfl
      · cases z : H b with
        | none => exact absurd z (r.dom b u)
        | some o => rw [sm b o z]; intro z; cases z
      · obtain ⟨ms, z⟩ := tp
        rw [z]; intro z; cases z
    · rcases hb with hb | rfl
      · obtain ⟨a1, a2, a3⟩ := r.tape b hb
        exact ⟨.inl a1, a2.le fun o z => sm b o z, a3⟩
      · refine ⟨.inr rfl, tp, ?_⟩
        show W.ω b = none
        cases z : W.ω b with
        | none => rfl
        | some c => exact absurd ht (r.dom b (r.cell b c z).1)
    · obtain ⟨u, ck⟩ := r.cell a c hc
      exact ⟨.inl u, ck.le (Same.lq smd) (fun _ z => .inl z) fun o z => sm a o z⟩
  · refine ⟨fun b o q _ => .inl (sm b o q), fun _ u => .inl u, fun b u => u.elim .inl fun z => .inr (z ▸ ht), fun b z => ?_, fun _ z => .inl z, fun b q => ?_, fun _ _ z _ => z⟩
    · rcases z with (z | z) | z
      · exact .inl (.inl z)
      · exact .inr (z ▸ ht)
      · exact .inl (.inr z)
    · cases q2 : H b with
      | none => exact absurd q2 q
      | some o => rw [sm b o q2]; intro z; cases z
end Kn
set_option Elab.async false
set_option maxRecDepth 100000
set_option linter.all false
set_option autoImplicit false
namespace Kn
open PySem L2
section
variable {α : Type} {g : TDG} {tt : TDT} {te : TDE} {vs : List Nat} {Q : List D → PSt → Prop} {tb : TDS} {E : DEnds} {S : PSt}
def turnD (g : TDG) (tt : TDT) (te : TDE) (vs : List Nat) (d : D) (S : PSt) (N : D → PSt → Prop) (M : PSt → Prop) : Prop := g d S fun S2 => tt S2 fun b S3 => if b = true then te S3 fun r S4 => frc r S4 fun y S5 => N y (S5.wipe vs) else M (S3.wipe vs)
theorem compD_fm (h : α → D) (f : α → Option D) : ∀ (xs : List α) (acc : List D), acc.length + xs.length ≤ 1000000 → (∀ x ∈ xs, ∀ (N : D → PSt → Prop) (M : PSt → Prop), (∀ y, f x = some y → N y S) → (f x = none → M S) → turnD g tt te vs (h x) S N M) → Q (acc ++ xs.filterMap f) S → compD g tt te vs Q (xs.map h) acc S
  | [], acc, _, _, q => by simpa [compD] using q
  | x :: xs, acc, hl, hs, q => by
    refine ⟨fun a S' => S' = S ∧ a = acc ++ (f x).toList, ?_, hs x (by simp) (fun y S' => acc.length ≤ 999999 ∧ S' = S ∧ acc ++ [y] = acc ++ (f x).toList) (fun S' => S' = S ∧ acc = acc ++ (f x).toList) (fun y hy => ⟨by simp at hl; omega, rfl, by rw [hy]; rfl⟩) fun hy => ⟨rfl, by rw [hy]; simp⟩⟩
    rintro a S' ⟨e, rfl⟩
    rw [e]
    refine compD_fm h f xs _ ?_ (fun y hy => hs y (by simp [hy])) ?_
    · cases f x <;> simp at hl ⊢ <;> omega
    · cases e : f x <;> simp [e] at q ⊢ <;> exact q
theorem compD_map (h f : α → D) (xs : List α) (acc : List D) (hl : acc.length + xs.length ≤ 1000000) (hs : ∀ x ∈ xs, ∀ (N : D → PSt → Prop) (M : PSt → Prop), N (f x) S → turnD g tt te vs (h x) S N M) (q : Q (acc ++ xs.map f) S) : compD g tt te vs Q (xs.map h) acc S :=
  compD_fm h (fun x => some (f x)) xs acc hl (fun x hx N M h1 _ => hs x hx N M (h1 _ rfl)) (by simpa [List.filterMap_eq_map] using q)
inductive All2 {α β : Type} (P : α → β → Prop) : List α → List β → Prop
  | nil : All2 P [] []
  | cons {a : α} {b : β} {as : List α} {bs : List β} : P a b → All2 P as bs → All2 P (a :: as) (b :: bs)
theorem All2.len {α β : Type} {P : α → β → Prop} : ∀ {as : List α} {bs : List β}, All2 P as bs → as.length = bs.length
  | _, _, .nil => rfl
  | _, _, .cons _ t => by simp [All2.len t]
theorem All2.mem {α β : Type} {P : α → β → Prop} {Q : β → Prop} (h : ∀ a b, P a b → Q b) : ∀ {as : List α} {bs : List β}, All2 P as bs → ∀ b ∈ bs, Q b
  | _, _, .cons p t, b, hb => by
    rcases List.mem_cons.mp hb with rfl | hb
    · exact h _ _ p
    · exact All2.mem h t b hb
theorem forD_ix (h : α → D) (xs : List α) (I : Nat → PSt → Prop) (h0 : I 0 S) (hs : ∀ (i : Nat) x S, xs[i]? = some x → I i S → g (h x) S fun S2 => tb ⟨I (i + 1), E.rt, E.nx, I (i + 1), E.rn⟩ S2) (hd : ∀ S, I xs.length S → E.nx S) : forD g tb E (xs.map h) S := by
  have key : ∀ (ys : List α) (i : Nat) (S : PSt), i ≤ xs.length → xs.drop i = ys → I i S → forD g tb E (ys.map h) S := by
    intro ys
    induction ys with
    | nil =>
      intro i S hle e hi
      have hge : i = xs.length := by
        have := congrArg List.length e
        simp at this; omega
      subst hge
      exact hd S hi
    | cons y ys ih =>
      intro i S hle e hi
      have hlt : i < xs.length := by
        have := congrArg List.length e
        simp at this; omega
      have hy : xs[i]? = some y := by
        rw [List.drop_eq_getElem_cons hlt] at e
        rw [List.getElem?_eq_getElem hlt]
        exact congrArg some (List.cons.inj e).1
      refine ⟨I (i + 1), fun S' h' => ih (i + 1) S' hlt ?_ h', hs i y S hy hi⟩
      rw [List.drop_eq_getElem_cons hlt] at e
      exact (List.cons.inj e).2
  exact key xs 0 S (Nat.zero_le _) (by simp) h0
theorem forD_id (xs : List D) (I : Nat → PSt → Prop) (h0 : I 0 S) (hs : ∀ (i : Nat) x S, xs[i]? = some x → I i S → g x S fun S2 => tb ⟨I (i + 1), E.rt, E.nx, I (i + 1), E.rn⟩ S2) (hd : ∀ S, I xs.length S → E.nx S) : forD g tb E xs S := by
  have := forD_ix (g := g) (tb := tb) (E := E) (S := S) id xs I h0 hs hd
  rwa [List.map_id] at this
end
theorem eqOk_ii (a b : Int) : eqOk (.int a) (.int b) ↔ True := iff_true_intro (.inl rfl)
theorem eqOk_ss (a b : Str) : eqOk (.str a) (.str b) ↔ True := iff_true_intro (.inl rfl)
theorem eqOk_bb (a b : Bool) : eqOk (.bl a) (.bl b) ↔ True := iff_true_intro (.inl rfl)
theorem eqOk_nn : eqOk .non .non ↔ True := iff_true_intro (.inl rfl)
theorem eqOk_ns (a : Str) : eqOk .non (.str a) ↔ True := iff_true_intro (.inl rfl)
theorem eqOk_sn (a : Str) : eqOk (.str a) .non ↔ True := iff_true_intro (.inl rfl)
theorem eqOk_ni (a : Int) : eqOk .non (.int a) ↔ True := iff_true_intro (.inl rfl)
theorem eqOk_in (a : Int) : eqOk (.int a) .non ↔ True := iff_true_intro (.inl rfl)
theorem eqOk_si (a : Str) (b : Int) : eqOk (.str a) (.int b) ↔ True := iff_true_intro (.inl rfl)
theorem eqOk_is (a : Int) (b : Str) : eqOk (.int a) (.str b) ↔ True := iff_true_intro (.inl rfl)
theorem at_get {α : Type} {xs : List α} {i : Int} {j : Nat} {x : α} (h : i = (j : Int)) (hx : xs[j]? = some x) : atI xs i = some x := by rw [h]; exact atI_nat hx
section
variable {α : Type} (a b c d f : α) (xs : List α)
theorem atI_0 : atI (a :: xs) 0 = some a := at_get (j := 0) rfl rfl
theorem atI_1 : atI (a :: b :: xs) 1 = some b := at_get (j := 1) rfl rfl
theorem atI_2 : atI (a :: b :: c :: xs) 2 = some c := at_get (j := 2) rfl rfl
theorem atI_3 : atI (a :: b :: c :: d :: xs) 3 = some d := at_get (j := 3) rfl rfl
theorem atI_4 : atI (a :: b :: c :: d :: f :: xs) 4 = some f := at_get (j := 4) rfl rfl
theorem cut1 : cut (a :: xs) (some 1) none = xs := by
  unfold cut
  rw [show HT.sIx (a :: xs).length 0 (some (1 : Int)) = 1 from sIx_nat (i := 1) rfl (by simp), show HT.sIx (a :: xs).length (a :: xs).length none = (a :: xs).length from rfl]
  simp
end
theorem take_succ_get {α : Type} {l : List α} {i : Nat} {y : α} (h : l[i]? = some y) : l.take (i + 1) = l.take i ++ [y] := by
  obtain ⟨hi, e⟩ := List.getElem?_eq_some_iff.mp h
  rw [List.take_succ_eq_append_getElem hi, e]
end Kn
set_option Elab.async false
set_option maxRecDepth 100000
set_option linter.all false
set_option autoImplicit false
namespace Kn
open PySem L2
section
variable {K : PySem.W.Frag} {e : Ent}
def mutDO (S : PSt) (j : Nat) (F : List (Key × D) → (List (Key × D) → Prop) → Prop) (Q : PSt → Prop) : Option (Option PC) → Prop
  | some (some (.ownD ds)) => F ds fun es => Q (S.set j (.ownD es))
  | _ => False
def mutDC (S : PSt) (a : Addr) (F : List (Key × D) → (List (Key × D) → Prop) → Prop) (Q : PSt → Prop) : Option Cell → Prop
  | some (.dct ds) => F ds fun es => Q ⟨S.ρ, S.W.put a (.dct es)⟩
  | _ => False
def mutD (S : PSt) (r : Rv) (F : List (Key × D) → (List (Key × D) → Prop) → Prop) (Q : PSt → Prop) : Prop := match r with
  | .own j => mutDO S j F Q S.ρ[j]?
  | .d (.ref a) => mutDC S a F Q (S.W.ω a)
  | _ => False
theorem R.mutD {σ : St} {H : Hp} {S : PSt} {T : List Tm} {v : V} {r : Rv} {F : List (Key × D) → (List (Key × D) → Prop) → Prop} {Q : PSt → Prop} {C : Prop} (x : R K e σ H S (.v v r :: T)) (h : Kn.mutD S r F Q)
    (k : ∀ (l : Addr) (vs : List (Key × V)) (ds : List (Key × D)) (U : Addr → Prop) (Qs : List (Key × D) → Prop), v = .ref l → H l = some (.dK vs) → DvK K S.W.Tp (Hd U H) vs ds → RU K e σ H S (.v v r :: T) U → F ds Qs →
      (∀ (vs' : List (Key × V)) (es : List (Key × D)), Qs es → DvK K S.W.Tp (Hd U H) vs' es → ∃ S', Q S' ∧ RU K e σ (upd H l (.dK vs')) S' T U) → C) : C := by
  obtain ⟨U, x⟩ := x
  match r, x, h with
  | .own j, x, h =>
    have hs : σ[j]? = some (some v) := x.tmp (.v v (.own j)) (by simp)
    have xT := x.less (T' := T) fun p hp => List.mem_cons_of_mem _ hp
    have h : mutDO S j F Q S.ρ[j]? := h
    match q : S.ρ[j]?, h with
    | some (some (.ownD ds)), h =>
      obtain ⟨l, vs, e1, ow, e2, e3⟩ := x.ownD q
      rw [hs] at e1; cases e1
      refine k l vs ds U _ rfl e2 e3 x h fun vs' es q1 d1 => ⟨_, q1, ?_⟩
      exact xT.updO (c' := .ownD es) q trivial trivial hs ow ⟨l, vs', rfl, ow, upd_same, DvK.le (Same.lq (Hd.upd ow.u)) (fun _ z => z) d1⟩
  | .d (.ref a), x, h =>
    have hv : Dv K S.W.Tp (Hd U H) v (.ref a) := x.tmp (.v v (.d (.ref a))) (by simp)
    cases hv
    have xT := x.less (T' := T) fun p hp => List.mem_cons_of_mem _ hp
    have h : mutDC S a F Q (S.W.ω a) := h
    cases q : S.W.ω a with
    | none => rw [q] at h; exact h.elim
    | some c =>
      rw [q] at h
      cases c with
      | dct ds =>
        obtain ⟨u, vs, e2, e3⟩ := x.wo.cell a _ q
        refine k a vs ds U _ rfl e2 e3 x h fun vs' es q1 d1 => ⟨_, q1, ?_⟩
        exact xT.updC (c' := .dct es) q trivial ⟨vs', upd_same, DvK.le (Same.lq (Hd.upd u)) (fun _ z => z) d1⟩
      | ins C fs => exact h.elim
      | lst ks => exact h.elim
      | lk od vs ks => exact h.elim
      | dtn w o ks => exact h.elim
def tdDPut (td ty tv : TDE) : TDS := fun E S => tv S fun rv S1 => td S1 fun rx S2 => ty S2 fun ry S3 => frc rv S3 fun d S4 => dd1 S4 ry fun dk => opt (keyD dk) fun k => mutD S4 rx (fun ks c => ks.length ≤ 999999 ∧ c (put ks k d)) E.nx
instance simDPut {td ty tv : TE} {td' ty' tv' : TDE} [h1 : SimE K e td td'] [h2 : SimE K e ty ty'] [h3 : SimE K e tv tv'] : SimS K e (sDPut td ty tv) (tdDPut td' ty' tv') := ⟨fun σ H S T Ed E hT x h k => by
  refine h3.run σ H S T _ _ x h fun rv S1 v H1 hr x1 => ?_
  refine h1.run σ H1 S1 _ _ _ x1 hr fun rx S2 xx H2 hr x2 => ?_
  refine h2.run σ H2 S2 _ _ _ x2 hr fun ry S3 y H3 hr x3 => ?_
  have x3' : R K e σ H3 S3 (.v v rv :: .v y ry :: .v xx rx :: T) := x3.less fun p hp => by
    simp at hp ⊢
    rcases hp with h | h | h | h <;> simp [h]
  refine x3'.frc hr fun d S4 h4 x4 => ?_
  obtain ⟨dk, hk, h4⟩ := dd1_inv h4
  obtain ⟨key, hkey, h4⟩ := opt_inv h4
  have x4' : R K e σ H3 S4 (.v y ry :: .v xx rx :: .v v (.d d) :: T) := x4.less fun p hp => by
    simp at hp ⊢
    rcases hp with h | h | h | h <;> simp [h]
  obtain ⟨Uy, _, vy, _⟩ := x4'.one hk
  have ey := keyD_v vy hkey
  refine R.mutD (v := xx) (r := rx) (T := .v v (.d d) :: T) x4'.pop h4 fun l vs ds U Qs e1 e2 e3 x5 hq kk => ?_
  obtain ⟨S5, q5, x6⟩ := kk (putK vs key v) _ hq.2 (e3.put (x5.tmp (.v v (.d d)) (by simp)))
  refine ⟨l, _, e1, .inl ⟨vs, key, e2, ey, bigl_of (by rw [e3.len]; have := hq.1; omega), rfl⟩, k.nx _ _ _ q5 ⟨U, x6.less fun p hp => List.mem_cons_of_mem _ hp⟩⟩⟩
def rDictOf : List V → Hp → VK → Prop := fun xs H Q => ∃ (a : Addr) (kvs : List (Key × V)), xs = [.ref a] ∧ Rd H a (.dK kvs) ∧ ∀ p, H p = none → Q (.ref p) (upd H p (.dK kvs))
theorem call_dictU {X : Cx} (K : PySem.W.Frag) (hc : X.calm = true) (h : X.K = K := by rfl) : CallR X (.type "dict") rDictOf := call_dictD
def tkDict (t : TDA) : TDK := fun S Q => t S fun rs S1 => arg1 rs fun r => dd1 S1 r fun d => match d with
  | .dct ks => Q ks S1
  | _ => False
instance simDictOf {t : TA} {t' : TDA} [h1 : SimA K e t t'] : SimK K e (tCB rDictOf t) (tkDict t') := ⟨fun σ H S T Qd Q x h k => by
  refine h1.run σ H S T _ _ x h fun rs S1 vs H1 hr hl x1 => ?_
  obtain ⟨r, rfl, hr⟩ := arg1_inv hr
  obtain ⟨v, rfl⟩ := len1 hl
  obtain ⟨d, hd, hr⟩ := dd1_inv hr
  obtain ⟨U, wT, vw, _⟩ := R.one (T := T) x1 hd
  match d, hr, vw with
  | .dct ks, hr, ⟨a, xs, e1, g1, g2⟩ =>
    subst e1
    exact ⟨a, xs, rfl, g1, fun p hp => k _ _ _ _ hr (wT.newD hp g2)⟩⟩
end
end Kn
set_option Elab.async false
set_option maxRecDepth 100000
set_option linter.all false
set_option autoImplicit false
namespace Kn
open PySem L2
section
variable {K : PySem.W.Frag} {e : Ent} {σ : St} {H : Hp} {S : PSt} {T : List Tm}
theorem RU.share {U : Addr → Prop} {l : Addr} {c : Cell} (x : RU K e σ H S T U) (ow : Ow e U S.W l) (ns : NoSlot σ S l) (nt : NoTm T l) (ck : CellOk K S.W.Tp U H l c) : RU K e σ H ⟨S.ρ, S.W.put l c⟩ T U := by
  exact {
    wo := {
      dom := x.wo.dom
      tape := fun t ht => by
        obtain ⟨a, b, d⟩ := x.wo.tape t ht
        refine ⟨a, b, ?_⟩
        have : t ≠ l := fun z => ow.tp (z ▸ ht)
        show (S.W.put l c).ω t = none
        rw [Wd.put_ne this]; exact d
      cell := fun a c1 h => by
        have h : (S.W.put l c).ω a = some c1 := h
        by_cases q : a = l
        · subst q
          rw [Wd.put_same] at h
          cases h
          exact ⟨ow.u, ck⟩
        · rw [Wd.put_ne q] at h
          exact x.wo.cell a c1 h }
    fr := { x.fr with
      wnew := fun b h => by
        by_cases q : b = l
        · subst q; exact .inr ow.e0
        · refine x.fr.wnew b ?_
          rcases h with h | ⟨c1, h⟩
          · exact .inl h
          · have h : (S.W.put l c).ω b = some c1 := h
            rw [Wd.put_ne q] at h; exact .inr ⟨c1, h⟩
      lk := fun b c1 h n => by
        show (S.W.put l c).ω b = some c1
        by_cases q : b = l
        · subst q
          have := x.fr.lk b c1 h n
          rw [ow.w] at this; cases this
        · rw [Wd.put_ne q]; exact x.fr.lk b c1 h n }
    ed := x.ed
    len := x.len
    slot := fun i c1 h => by
      obtain ⟨v, h1, h2⟩ := x.slot i c1 h
      refine ⟨v, h1, ?_⟩
      cases c1 with
      | val d => exact h2
      | ownL es =>
        obtain ⟨l', vs, e1, o, e2, e3⟩ := h2
        refine ⟨l', vs, e1, ⟨o.u, o.e0, o.tp, ?_⟩, e2, e3⟩
        show (S.W.put l c).ω l' = none
        rw [Wd.put_ne fun z => ns i _ h trivial (by rw [h1, e1, z])]; exact o.w
      | ownD es =>
        obtain ⟨l', vs, e1, o, e2, e3⟩ := h2
        refine ⟨l', vs, e1, ⟨o.u, o.e0, o.tp, ?_⟩, e2, e3⟩
        show (S.W.put l c).ω l' = none
        rw [Wd.put_ne fun z => ns i _ h trivial (by rw [h1, e1, z])]; exact o.w
    sep := x.sep
    tmp := fun p hp => by
      have h := x.tmp p hp
      match p, h, hp with
      | .v v (.d d), h, _ => exact h
      | .v v (.own j), h, _ => exact h
      | .pin b o w, h, _ => exact h
      | .nw l' es, h, hp =>
        obtain ⟨o, a, b⟩ := h
        refine ⟨⟨o.u, o.e0, o.tp, ?_⟩, a, b⟩
        show (S.W.put l c).ω l' = none
        rw [Wd.put_ne fun z => by subst z; exact nt es hp]; exact o.w }
theorem RN.share {l : Addr} {ds : List D} (y : RN K e σ H S T l ds) : S.W.ω l = none ∧ ¬ S.W.Tp l ∧ R K e σ H ⟨S.ρ, S.W.put l (.lst ds)⟩ (.v (.ref l) (.d (.ref l)) :: T) := by
  obtain ⟨U, xs, x, ow, ns, nt, hl, dv⟩ := y.ex
  exact ⟨ow.w, ow.tp, U, RU.push (x.share (c := .lst ds) ow ns nt ⟨xs, hl, dv⟩) (.ref l)⟩
def refC (Q : List D → Prop) : Option Cell → Prop
  | some (.lst ds) => Q ds
  | _ => False
def refF (S : PSt) (Q : Addr → List D → Prop) : Rv → Prop
  | .d (.ref a) => refC (Q a) (S.W.ω a)
  | _ => False
end
end Kn
set_option Elab.async false
set_option maxRecDepth 100000
set_option linter.all false
set_option autoImplicit false
namespace Kn
open PySem L2
section
variable {K : PySem.W.Frag} {e : Ent} {σ : St} {H : Hp} {S : PSt} {T : List Tm} {U : Addr → Prop}
def fldF (C : Addr) (f : Str) (Q : D → Prop) : D → Prop
  | .obj C' fs => C' = C ∧ opt (look fs f) Q
  | _ => False
theorem fldF_inv {C : Addr} {f : Str} {Q : D → Prop} {d : D} (h : fldF C f Q d) : ∃ fs v, d = .obj C fs ∧ look fs f = some v ∧ Q v := by
  cases d with
  | obj C' fs =>
    obtain ⟨rfl, h⟩ := h
    cases q : look fs f with
    | none => rw [q] at h; exact h.elim
    | some v => rw [q] at h; exact ⟨fs, v, rfl, q, h⟩
  | _ => exact h.elim
def tdFldC (C : Addr) (f : Str) (t : TDE) : TDE := fun S Q => t S fun r S1 => dd1 S1 r (fldF C f fun d => Q (.d d) S1)
instance simFldC {C : Addr} {f : Str} {ta : TE} {ta' : TDE} [h1 : SimE K e ta ta'] : SimE K e (tFldC C f ta) (tdFldC C f ta') := ⟨fun σ H S T Qd Q x h k => by
  refine h1.run σ H S T _ _ x h fun r S1 v H1 hr x1 => ?_
  obtain ⟨d, hd, hr⟩ := dd1_inv hr
  obtain ⟨fs, y, rfl, hl, q⟩ := fldF_inv hr
  obtain ⟨U, xT, vw, x2⟩ := x1.one hd
  obtain ⟨a, dx, xs, rfl, ha, dv⟩ : Vw K S1.W.Tp U H1 v (.obj C fs) := vw
  obtain ⟨z, hz, dz⟩ := DvF.look_some dv hl
  exact ⟨a, dx, xs, z, rfl, ha, hz, k _ _ _ _ q ⟨U, xT.push dz⟩⟩⟩
def insC (C : Addr) (Q : List (Str × D) → Prop) : Option Cell → Prop
  | some (.ins C' fs) => C' = C ∧ Q fs
  | _ => False
def insF (S : PSt) (C : Addr) (Q : Addr → List (Str × D) → Prop) : Rv → Prop
  | .d (.ref a) => insC C (Q a) (S.W.ω a)
  | _ => False
theorem insF_inv {S : PSt} {C : Addr} {Q : Addr → List (Str × D) → Prop} {r : Rv} (h : insF S C Q r) : ∃ a fs, r = .d (.ref a) ∧ S.W.ω a = some (.ins C fs) ∧ Q a fs := by
  cases r with
  | own j => exact h.elim
  | d d =>
    cases d with
    | ref a =>
      have h : insC C (Q a) (S.W.ω a) := h
      cases q : S.W.ω a with
      | none => rw [q] at h; exact h.elim
      | some c =>
        rw [q] at h
        cases c with
        | ins C' fs =>
          obtain ⟨z, h2⟩ := h
          subst z
          exact ⟨a, fs, rfl, q, h2⟩
        | lst ks => exact h.elim
        | dct ks => exact h.elim
        | lk od vs ks => exact h.elim
        | dtn w o ks => exact h.elim
    | _ => exact h.elim
def tdSetC (C : Addr) (f : Str) (ta tv : TDE) : TDS := fun E S => tv S fun r S1 => frc r S1 fun d S2 => ta S2 fun rx S3 => insF S3 C (fun a fs => fs.length < 1000 ∧ E.nx ⟨S3.ρ, S3.W.put a (.ins C (putFd f d fs))⟩) rx
instance simSetC {C : Addr} {f : Str} {ta tv : TE} {ta' tv' : TDE} [h1 : SimE K e ta ta'] [h2 : SimE K e tv tv'] : SimS K e (sFldC C f ta tv) (tdSetC C f ta' tv') := ⟨fun σ H S T Ed E hT x h k => by
  refine h2.run σ H S T _ _ x h fun r S1 y H1 hr x1 => x1.frc hr fun d S2 h3 x2 => ?_
  refine h1.run σ H1 S2 _ _ _ x2 h3 fun rx S3 v H2 hq x3 => ?_
  obtain ⟨a, fs, rfl, hw, hl, q⟩ := insF_inv hq
  obtain ⟨U, x3⟩ := x3
  have hv : Dv K S3.W.Tp (Hd U H2) v (.ref a) := x3.tmp (.v v (.d (.ref a))) (by simp)
  cases hv
  obtain ⟨u, dx, vs, e2, e3⟩ := x3.wo.cell a _ hw
  have dy : Dv K S3.W.Tp (Hd U H2) y d := x3.tmp (.v y (.d d)) (by simp)
  refine ⟨a, dx, vs, rfl, e2, by rw [e3.len]; exact hl, k.nx _ _ _ q ⟨U, ?_⟩⟩
  have xT := x3.less (T' := T) fun p hp => List.mem_cons_of_mem _ (List.mem_cons_of_mem _ hp)
  exact xT.updC (c' := .ins C (putFd f d fs)) hw trivial ⟨dx, _, upd_same, DvF.le (Same.lq (Hd.upd u)) (fun _ z => z) (DvF.put dy e3)⟩⟩
class DvC (vs : List V) (ds : outParam (List D)) : Prop where
  run : ∀ (K : PySem.W.Frag) (Tp : Addr → Prop) (H : Hp), DvL K Tp H vs ds
instance dvcNil : DvC [] [] := ⟨fun _ _ _ => .nil⟩
theorem DvL.cat {Tp : Addr → Prop} {H : Hp} : ∀ {vs ws : List V} {ds es : List D}, DvL K Tp H vs ds → DvL K Tp H ws es → DvL K Tp H (vs ++ ws) (ds ++ es)
  | _, _, _, _, .nil, h => h
  | _, _, _, _, .cons a t, h => .cons a (DvL.cat t h)
open Classical in
noncomputable def Wd.del (W : Wd) (a : Addr) : Wd := ⟨W.Tp, fun b => if b = a then none else W.ω b⟩
theorem Wd.del_same {W : Wd} {a : Addr} : (W.del a).ω a = none := by unfold Wd.del; simp
theorem Wd.del_ne {W : Wd} {a b : Addr} (h : b ≠ a) : (W.del a).ω b = W.ω b := by unfold Wd.del; simp [h]
theorem Wd.del_put {W : Wd} {a : Addr} {c : Cell} (h : W.ω a = none) : (W.put a c).del a = W := by
  obtain ⟨Tp, ω⟩ := W
  unfold Wd.del Wd.put
  congr 1
  funext b
  by_cases q : b = a
  · subst q; simp only [if_true]; exact h.symm
  · simp only [if_neg q]
theorem RU.newI (x : RU K e σ H S T U) {a dx C : Addr} (ha : H a = none) (hx : H dx = none) (ne : dx ≠ a) : S.W.ω a = none ∧ ¬ S.W.Tp a ∧ RU K e σ (upd (upd H dx (.own a)) a (.ins C dx [])) ⟨S.ρ, S.W.put a (.ins C [])⟩ T (fun b => U b ∨ b = a) := by
  have x1 := x.alloc (o := .own a) hx
  obtain ⟨x2, o, ns, nt⟩ := x1.moreU (o := .ins C dx []) (p := a) (by rw [upd_ne ne.symm]; exact ha)
  exact ⟨o.w, o.tp, x2.share (c := .ins C []) o ns nt ⟨dx, [], upd_same, .nil⟩⟩
theorem RU.del (x : RU K e σ H S T U) {a : Addr} {c : Cell} (h : S.W.ω a = some c) (mc : c.isMut) (e0 : e.H a = none) : RU K e σ H ⟨S.ρ, S.W.del a⟩ T U ∧ Ow e U (S.W.del a) a ∧ NoSlot σ S a ∧ NoTm T a := by
  have u := (x.wo.cell a c h).1
  have ntp : ¬ S.W.Tp a := fun z => by have := (x.wo.tape a z).2.2; rw [h] at this; cases this
  have ns : NoSlot σ S a := fun i c1 h1 oc z => by
    obtain ⟨v, h2, h3⟩ := x.slot i c1 h1
    rw [h2] at z; cases z
    match c1, oc, h3 with
    | .ownL ds, _, ⟨l, vs, e1, o, _⟩ => cases e1; have := o.w; rw [h] at this; cases this
    | .ownD ds, _, ⟨l, vs, e1, o, _⟩ => cases e1; have := o.w; rw [h] at this; cases this
  have nt : NoTm T a := fun ds hm => by
    obtain ⟨o, _⟩ := x.tmp _ hm
    have := o.w; rw [h] at this; cases this
  have dn : ∀ b, S.W.ω b = none → (S.W.del a).ω b = none := fun b z => by
    by_cases q : b = a
    · subst q; exact Wd.del_same
    · rw [Wd.del_ne q]; exact z
  refine ⟨?_, ⟨u, e0, ntp, Wd.del_same⟩, ns, nt⟩
  exact {
    wo := {
      dom := x.wo.dom
      tape := fun t ht => let ⟨p, q, r⟩ := x.wo.tape t ht; ⟨p, q, dn t r⟩
      cell := fun b c1 hb => by
        have hb : (S.W.del a).ω b = some c1 := hb
        by_cases q : b = a
        · subst q; rw [Wd.del_same] at hb; cases hb
        · rw [Wd.del_ne q] at hb; exact x.wo.cell b c1 hb }
    fr := { x.fr with
      wnew := fun b hb => by
        refine x.fr.wnew b ?_
        rcases hb with hb | ⟨c1, hb⟩
        · exact .inl hb
        · have hb : (S.W.del a).ω b = some c1 := hb
          by_cases q : b = a
          · subst q; rw [Wd.del_same] at hb; cases hb
          · rw [Wd.del_ne q] at hb; exact .inr ⟨c1, hb⟩
      lk := fun b c1 hb n => by
        show (S.W.del a).ω b = some c1
        have hb := x.fr.lk b c1 hb n
        by_cases q : b = a
        · subst q; rw [h] at hb; cases hb; exact (n mc).elim
        · rw [Wd.del_ne q]; exact hb }
    ed := x.ed
    len := x.len
    slot := fun i c1 h1 => by
      obtain ⟨v, h2, h3⟩ := x.slot i c1 h1
      refine ⟨v, h2, ?_⟩
      cases c1 with
      | val d => exact h3
      | ownL es =>
        obtain ⟨l', vs, e1, o, e2, e3⟩ := h3
        exact ⟨l', vs, e1, ⟨o.u, o.e0, o.tp, dn _ o.w⟩, e2, e3⟩
      | ownD es =>
        obtain ⟨l', vs, e1, o, e2, e3⟩ := h3
        exact ⟨l', vs, e1, ⟨o.u, o.e0, o.tp, dn _ o.w⟩, e2, e3⟩
    sep := x.sep
    tmp := fun p hp => by
      have h := x.tmp p hp
      match p, h, hp with
      | .v v (.d d), h, _ => exact h
      | .v v (.own j), h, _ => exact h
      | .pin b o w, h, _ => exact h
      | .nw l' es, ⟨o, a1, b1⟩, hp => exact ⟨⟨o.u, o.e0, o.tp, dn _ o.w⟩, a1, b1⟩ }
theorem RU.freezeI (x : RU K e σ H S T U) {a C : Addr} {fs : List (Str × D)} (h : S.W.ω a = some (.ins C fs)) (e0 : e.H a = none) : R K e σ H ⟨S.ρ, S.W.del a⟩ (.v (.ref a) (.d (.obj C fs)) :: T) := by
  obtain ⟨x1, o, ns, nt⟩ := x.del h trivial e0
  obtain ⟨u, dx, vs, e2, e3⟩ := x.wo.cell a _ h
  exact ⟨_, (x1.thaw o ns nt).push (.obj (Hd.get e2 fun z => z.2 rfl) (DvF.le (Same.lq Hd.less) (fun _ z => z) e3))⟩
theorem insC_inv {C : Addr} {Q : List (Str × D) → Prop} {o : Option Cell} (h : insC C Q o) : ∃ fs, o = some (.ins C fs) ∧ Q fs := by
  cases o with
  | none => exact h.elim
  | some c =>
    cases c with
    | ins C' fs =>
      obtain ⟨z, h2⟩ := h
      subst z
      exact ⟨fs, rfl, h2⟩
    | lst ks => exact h.elim
    | dct ks => exact h.elim
    | lk od vs ks => exact h.elim
    | dtn w o ks => exact h.elim
def tdMakeF (C : Addr) (F : FSpec) (w : Exn → PSt → Prop) (dds : List D) (t : TDA) : TDE := fun S Q => t S fun rs S1 => frcL rs S1 fun ds S2 => ∀ a : Addr, S2.W.ω a = none → ¬ S2.W.Tp a → CallF F (.ref a :: (ds ++ dds)) ⟨S2.ρ, S2.W.put a (.ins C [])⟩ (fun r S' => r = .d .non ∧ insC C (fun fs => Q (.d (.obj C fs)) ⟨S'.ρ, S'.W.del a⟩) (S'.W.ω a)) (fun x S' => insC C (fun _ => w x ⟨S'.ρ, S'.W.del a⟩) (S'.W.ω a))
def tMakeF (C : Addr) (sp : Sp) (dvs : List V) (E : St → XK) (t : TA) : TE := tMakeX C sp dvs E t
theorem mkF_of {X : Cx} {ex : Expr} {C : Addr} {sp : Sp} {dvs : List V} {E : St → XK} {t : TA} (h : PE X ex (tMakeX C sp dvs E t)) : PE X ex (tMakeF C sp dvs E t) := h
theorem Dv.non_inv {Tp : Addr → Prop} {H : Hp} {v : V} (h : Dv K Tp H v .non) : v = .non := by cases h; rfl
theorem exc_del {Wx : WX} {w : Exn → PSt → Prop} (h2 : WLk K e Wx w) {a C : Addr} {fs : List (Str × D)} {ρ : List (Option PC)} {W' : Wd} {x : Exn} {c : Value} {dd : Option Addr} (hw : W'.ω a = some (.ins C fs)) (e0 : e.H a = none) (q : w x ⟨ρ, W'.del a⟩) (r : RU K e σ H ⟨ρ, W'⟩ T U) (ex : ExOk K U W' H x c dd) : Wx c dd σ H := by
  obtain ⟨x1, _, _, _⟩ := RU.del (S := ⟨ρ, W'⟩) r hw trivial e0
  exact h2.run x ⟨ρ, W'.del a⟩ σ H U c dd q (x1.less fun p hp => by cases hp) ex
instance simMakeF {C : Addr} {F : FSpec} {dvs : List V} {dds : List D} {Wx : WX} {w : Exn → PSt → Prop} {t : TA} {t' : TDA} [h1 : SimA K e t t'] [h2 : WLk K e Wx w] [hd : DvC dvs dds] :
    SimE K e (tMakeF C (lift K F) dvs (WE Wx) t) (tdMakeF C F w dds t') := ⟨fun σ H S T Qd Q x h k => by
  refine h1.run σ H S T _ _ x h fun rs S1 vs H1 hc hl x1 => ?_
  refine R.frcL hl x1 hc fun ds S2 h3 hl2 x2 => ?_
  intro a dx ha hx ne
  obtain ⟨U, x2⟩ := x2
  obtain ⟨w0, tp0, x3⟩ := x2.newI (C := C) ha hx ne
  have e0 := x2.free0 ha
  have xT := x3.less (T' := T) fun p hp => List.mem_append_right _ hp
  refine ⟨_, _, .ref a :: (ds ++ dds), _, _, x3.wo, .cons (.ref a) (DvL.cat (RU.tms hl2 x3) (hd.run K _ _)), h3 a w0 tp0, fun d W' v H' U' q r f dv => ?_, fun x W' c dd H' U' q r f ex => ?_⟩
  · obtain ⟨q0, q⟩ := q
    cases q0
    obtain ⟨fs, hw, q⟩ := insC_inv q
    exact ⟨dv.non_inv, k _ _ _ _ q (RU.freezeI (S := ⟨S2.ρ, W'⟩) (xT.to r f) hw e0)⟩
  · obtain ⟨fs, hw, q⟩ := insC_inv q
    exact exc_del h2 hw e0 q (xT.to r f) ex⟩
end
section
variable {P : Program} {w : World} {K : PySem.W.Frag} {mg : Str → Option Value} {base : Heap}
def BodyD (P : Program) (w : World) (K : PySem.W.Frag) (mg : Str → Option Value) (base : Heap) (N : List Str) (qual : Str) (st : Stmt) (k : Nat) (Fs : FSpec) : Prop := ∀ (f : Addr) (cdv : Value) (A : Around) (outer : List Env) (s : Shared) (H : Hp) (E : XK) (e : Ent) (ds : List D) (Qd : D → Wd → Prop) (Ed : Exn → Wd → Prop), Room k (A.deeper (PyProof.Rows.envOfC qual (defScope st) s.heap.objs.size f cdv)) → WLk K e (fun c d _ H => E c d H) (fun x S => Ed x S.W) → Fs ds e.W Qd Ed →
      ∃ t td, PSs (cxOf (L2.CX P w) P w K mg base N qual (defScope st) f cdv A outer s H E) (defBody st) t ∧ SimZ K e t td ∧ td ⟨fun S => Qd .non S.W, Qd, fun _ => False, fun _ => False, fun _ _ => False⟩ (S0 N ds e.W)
theorem BodyD.run {N : List Str} {qual : Str} {st : Stmt} {k : Nat} {Fs : FSpec} (hbody : BodyD P w K mg base N qual st k Fs) (f : Addr) (cdv : Value) (A : Around) (outer : List Env) (s : Shared) (H : Hp) (vs : List V) (Q : VK) (E : XK) (hr : Room k (A.deeper (PyProof.Rows.envOfC qual (defScope st) s.heap.objs.size f cdv))) (h : lift K Fs vs H Q E) :
    ∃ t, PSs (cxOf (L2.CX P w) P w K mg base N qual (defScope st) f cdv A outer s H E) (defBody st) t ∧ t { nx := fun _ H' => Q .non H', rt := Q } (start N vs) H := by
  obtain ⟨U, W, ds, Qd, Ed, r, dv, hF, kq, ke⟩ := h
  obtain ⟨t, td, hp, hs, ht⟩ := hbody f cdv A outer s H E ⟨U, W, H⟩ ds Qd Ed hr ⟨fun x S σ H' U' c d hw ru ex => ke x S.W c d H' U' hw ru.wo ru.fr ex⟩ hF
  refine ⟨t, hp, hs.run (start N vs) H (S0 N ds W) _ _ ⟨U, RU.start r dv⟩ ht ⟨fun S' σ' H' q ⟨U', x'⟩ => ?_, fun d S' σ' v H' q ⟨U', x'⟩ => ?_, fun _ _ _ q => q.elim, fun _ _ _ q => q.elim, fun _ _ _ _ _ q => q.elim⟩⟩
  · exact kq _ _ _ _ U' q x'.wo x'.fr .non
  · exact kq _ _ _ _ U' q x'.wo x'.fr (x'.tmp (.v v (.d d)) (by simp))
theorem lift_len {Fs : FSpec} {ps : List Str} (hl : ∀ ds W Q E, Fs ds W Q E → ds.length = ps.length) (vs : List V) (H : Hp) (Q : VK) (E : XK) (h : lift K Fs vs H Q E) : vs.length = ps.length := by
  obtain ⟨U, W, ds, Qd, Ed, r, dv, hF, _⟩ := h
  rw [dv.len]; exact hl _ _ _ _ hF
theorem Mz.okD {C : Addr} {m qual : Str} {st : Stmt} {ps N : List Str} {dvs : List V} {k : Nat} {Fs : FSpec} (F : Mz K C m qual st ps dvs) (S : FnScope N ps (defScope st)) (hl : ∀ ds W Q E, Fs ds W Q E → ds.length = ps.length) (hbody : BodyD P w K mg base N qual st k Fs) : Mx P w K mg base C m (k + 1) ps dvs (lift K Fs) := F.okX S (lift_len hl) hbody.run
theorem Kz.okD {C : Addr} {qual : Str} {st : Stmt} {ps N : List Str} {dvs : List V} {k : Nat} {Fs : FSpec} (F : Kz K C qual st ps dvs) (S : FnScope N ps (defScope st)) (hl : ∀ ds W Q E, Fs ds W Q E → ds.length = ps.length) (hbody : BodyD P w K mg base N qual st k Fs) : Kx P w K mg base C (k + 1) ps dvs (lift K Fs) := F.okX S (lift_len hl) hbody.run
theorem Pz.okD {C : Addr} {m qual : Str} {st : Stmt} {ps N : List Str} {k : Nat} {Fs : FSpec} (F : Pz K C m qual st ps) (S : FnScope N ps (defScope st)) (hl : ∀ ds W Q E, Fs ds W Q E → ds.length = ps.length) (hbody : BodyD P w K mg base N qual st k Fs) : Pp P w K mg base C m (k + 1) ps (lift K Fs) := F.okX S (lift_len hl) hbody.run
end
end Kn
set_option Elab.async false
set_option maxRecDepth 100000
set_option linter.all false
set_option autoImplicit false
namespace Kn
open PySem L2
section
variable {K : PySem.W.Frag} {e : Ent}
end
end Kn
set_option Elab.async false
set_option maxRecDepth 100000
set_option linter.all false
set_option autoImplicit false
namespace Kn
open PySem L2
section
variable {K : PySem.W.Frag} {e : Ent}
theorem DvF.app {Tp : Addr → Prop} {H : Hp} : ∀ {a b : List (Str × V)} {c d : List (Str × D)}, DvF K Tp H a c → DvF K Tp H b d → DvF K Tp H (a ++ b) (c ++ d)
  | _, _, _, _, .nil, h => h
  | _, _, _, _, .cons h t, g => .cons h (DvF.app t g)
def PSt.unset (S : PSt) (i : Nat) : PSt := ⟨S.ρ.set i none, S.W⟩
theorem RU.unset {σ : St} {H : Hp} {S : PSt} {T : List Tm} {U : Addr → Prop} (x : RU K e σ H S T U) (hT : NoOwn T) (i : Nat) : RU K e (σ.set i none) H (S.unset i) T U :=
  x.slots (by simp [x.len]) (fun j c hj => by
    rw [List.getElem?_set] at hj ⊢
    by_cases q : i = j
    · rw [if_pos q] at hj
      split at hj
      · cases hj
      · cases hj
    · rw [if_neg q] at hj ⊢
      exact ⟨hj, rfl⟩) hT
def DEnds.un (i : Nat) (E : DEnds) : DEnds := { E with nx := fun S => E.nx (S.unset i), bk := fun S => E.bk (S.unset i), ct := fun S => E.ct (S.unset i) }
def exB (K : PySem.W.Frag) (c : Value) (x : Exn) (Y N : Prop) : Prop := ∃ b, PySem.W.exmOne K (.ref x.cls) c = some b ∧ (b = true → Y) ∧ (b = false → N)
def tTryAs (K : PySem.W.Frag) (c : Value) (i : Nat) (tb : WX → TS) (ts : Addr → Value → Option Addr → TS) (Wout : WX) : TS := fun D σ H => tb (wAs K c i ts Wout D) D σ H
def tdTryAs (K : PySem.W.Frag) (c : Value) (i : Nat) (tb : (Exn → PSt → Prop) → TDS) (ts : Addr → Value → Option Addr → TDS) (wo : Exn → PSt → Prop) : TDS := fun E S =>
  tb (fun x S' => exB K c x (∀ a d, ts a (.ref x.cls) d (E.un i) (S'.set i (.val (.exc a x.cls d x.fs)))) (wo x S')) E S
theorem ExOk.dv {U : Addr → Prop} {W : Wd} {H : Hp} {x : Exn} {c : Value} {d : Option Addr} (h : ExOk K U W H x c d) (a : Addr) : c = .ref x.cls ∧ Dv K W.Tp (Hd U H) (.ref a) (.exc a x.cls d x.fs) := by
  obtain ⟨h1, ⟨h2, h3⟩ | ⟨_, b, vs, rfl, nu, hb, t⟩⟩ := h
  · rw [h2, h3]; exact ⟨h1, .exc0 a x.cls⟩
  · exact ⟨h1, .exc1 (Hd.get hb nu) t⟩
def TagW {K : PySem.W.Frag} {e : Ent} {W : WX} {w : Exn → PSt → Prop} (_ : WLk K e W w) : WX := W
instance simTryAs {c : Value} {i : Nat} {tb : WX → TS} {ts : Addr → Value → Option Addr → TS} {Wout : WX} {tb' : (Exn → PSt → Prop) → TDS} {ts' : Addr → Value → Option Addr → TDS} {wo : Exn → PSt → Prop}
    [h1 : ∀ (W : WX) (w : Exn → PSt → Prop) (h : WLk K e W w), SimZ K e (tb (TagW h)) (tb' w)] [h2 : ∀ a cls d, SimZ K e (ts a cls d) (ts' a cls d)] [h3 : WLk K e Wout wo] : SimZ K e (tTryAs K c i tb ts Wout) (tdTryAs K c i tb' ts' wo) := ⟨fun σ H S Ed E x h k => by
  have lk : WLk K e (wAs K c i ts Wout E) (fun x S' => exB K c x (∀ a d, ts' a (.ref x.cls) d (Ed.un i) (S'.set i (.val (.exc a x.cls d x.fs)))) (wo x S')) := ⟨fun x S σ H U cv d hw ru ex => by
    obtain ⟨b, hb, hy, hn⟩ := hw
    have ec := (ex.dv 0).1
    subst ec
    refine ⟨b, hb, fun z a ha => ?_, fun z => h3.run x S σ H U _ d (hn z) ru ex⟩
    refine (h2 a (.ref x.cls) d).run _ H _ (Ed.un i) _ ⟨U, ru.setVal (i := i) (ex.dv a).2 (fun p hp => by cases hp)⟩ (hy z a d) ⟨?_, ?_, ?_, ?_, ?_⟩
    · rintro S' σ' H' q ⟨U', x'⟩; exact k.nx _ _ _ q ⟨U', x'.unset noOwn0 i⟩
    · exact k.rt
    · rintro S' σ' H' q ⟨U', x'⟩; exact k.bk _ _ _ q ⟨U', x'.unset noOwn0 i⟩
    · rintro S' σ' H' q ⟨U', x'⟩; exact k.ct _ _ _ q ⟨U', x'.unset noOwn0 i⟩
    · exact k.rn⟩
  exact (h1 _ _ lk).run σ H S Ed E x h k⟩
def tTryN (K : PySem.W.Frag) (l : List (Value × (Addr → Value → Option Addr → TS))) (tb : WX → TS) (Wout : WX) : TS := fun D σ H => tb (wMany K Wout D l) D σ H
class SimCl (K : PySem.W.Frag) (e : Ent) (l : List (Value × (Addr → Value → Option Addr → TS))) (t : outParam (List (Value × (Addr → Value → Option Addr → TDS)))) : Prop where
  run : ∀ (Ed : DEnds) (E : Ends) (Wout : WX) (wo : Exn → PSt → Prop), Lnk K e [] Ed E → WLk K e Wout wo → WLk K e (wMany K Wout E l) (t.foldr (fun p w x S' => exB K p.1 x (∀ a d, p.2 a (.ref x.cls) d Ed S') (w x S')) wo)
instance simClCons {c : Value} {ts : Addr → Value → Option Addr → TS} {l : List (Value × (Addr → Value → Option Addr → TS))} {ts' : Addr → Value → Option Addr → TDS} {l' : List (Value × (Addr → Value → Option Addr → TDS))} [h1 : ∀ a cls d, SimZ K e (ts a cls d) (ts' a cls d)] [h2 : SimCl K e l l'] : SimCl K e ((c, ts) :: l) ((c, ts') :: l') := ⟨fun Ed E Wout wo k h => ⟨fun x S σ H U cv d hw ru ex => by
  obtain ⟨b, hb, hy, hn⟩ := hw
  have ec := (ex.dv 0).1
  subst ec
  exact ⟨b, hb, fun z a ha => (h1 a (.ref x.cls) d).run σ H S Ed E ⟨U, ru⟩ (hy z a d) k, fun z => (h2.run Ed E Wout wo k h).run x S σ H U _ d (hn z) ru ex⟩⟩⟩
def tdTryN (K : PySem.W.Frag) (l : List (Value × (Addr → Value → Option Addr → TDS))) (tb : (Exn → PSt → Prop) → TDS) (wo : Exn → PSt → Prop) : TDS := fun E S =>
  tb (l.foldr (fun p w x S' => exB K p.1 x (∀ a d, p.2 a (.ref x.cls) d E S') (w x S')) wo) E S
instance simTryN {l : List (Value × (Addr → Value → Option Addr → TS))} {tb : WX → TS} {Wout : WX} {tb' : (Exn → PSt → Prop) → TDS} {l' : List (Value × (Addr → Value → Option Addr → TDS))} {wo : Exn → PSt → Prop}
    [h1 : ∀ (W : WX) (w : Exn → PSt → Prop) (h : WLk K e W w), SimZ K e (tb (TagW h)) (tb' w)] [h2 : SimCl K e l l'] [h3 : WLk K e Wout wo] : SimZ K e (tTryN K l tb Wout) (tdTryN K l' tb' wo) := ⟨fun σ H S Ed E x h k => by
  have lk := h2.run Ed E Wout wo k h3
  exact (h1 _ _ lk).run σ H S Ed E x h k⟩
theorem z_seq {t u : TS} {t' u' : TDS} (h1 : SimZ K e t t') (h2 : SimZ K e u u') : SimZ K e (tSeq t u) (tdSeq t' u') := simZSeq
theorem z_if {c : TT} {t u : TS} {c' : TDT} {t' u' : TDS} (h0 : SimT K e c c') (h1 : SimZ K e t t') (h2 : SimZ K e u u') : SimZ K e (tIfS c t u) (tdIfS c' t' u') := simZIf
theorem z_while {c : TT} {tb : TS} {c' : TDT} {tb' : TDS} (h1 : SimT K e c c') (h2 : SimZ K e tb tb') : SimZ K e (tWhile c tb) (tdWhile c' tb') := simZWhile
theorem z_for {wi : TI} {g : TG} {tb : TS} {wi' : TDI} {g' : TDG} {tb' : TDS} (h1 : SimI0 K e wi wi') (h2 : SimG K e g g') (h3 : SimZ K e tb tb') : SimZ K e (tFor wi g tb) (tdFor wi' g' tb') := simZFor
theorem z_try {c : Value} {i : Nat} {tb : WX → TS} {ts : Addr → Value → Option Addr → TS} {Wout : WX} {tb' : (Exn → PSt → Prop) → TDS} {ts' : Addr → Value → Option Addr → TDS} {wo : Exn → PSt → Prop}
    (h1 : ∀ (W : WX) (w : Exn → PSt → Prop) (h : WLk K e W w), SimZ K e (tb (TagW h)) (tb' w)) (h2 : ∀ a cls d, SimZ K e (ts a cls d) (ts' a cls d)) (h3 : WLk K e Wout wo) : SimZ K e (tTryAs K c i tb ts Wout) (tdTryAs K c i tb' ts' wo) := simTryAs
theorem z_tryN {l : List (Value × (Addr → Value → Option Addr → TS))} {tb : WX → TS} {Wout : WX} {tb' : (Exn → PSt → Prop) → TDS} {l' : List (Value × (Addr → Value → Option Addr → TDS))} {wo : Exn → PSt → Prop}
    (h1 : ∀ (W : WX) (w : Exn → PSt → Prop) (h : WLk K e W w), SimZ K e (tb (TagW h)) (tb' w)) (h2 : SimCl K e l l') (h3 : WLk K e Wout wo) : SimZ K e (tTryN K l tb Wout) (tdTryN K l' tb' wo) := simTryN
theorem z_cl {c : Value} {ts : Addr → Value → Option Addr → TS} {l : List (Value × (Addr → Value → Option Addr → TS))} {ts' : Addr → Value → Option Addr → TDS} {l' : List (Value × (Addr → Value → Option Addr → TDS))} (h1 : ∀ a cls d, SimZ K e (ts a cls d) (ts' a cls d)) (h2 : SimCl K e l l') : SimCl K e ((c, ts) :: l) ((c, ts') :: l') := simClCons
end
end Kn
set_option Elab.async false
set_option maxRecDepth 100000
set_option linter.all false
set_option autoImplicit false
namespace Kn
open PySem L2
section
variable {K : PySem.W.Frag} {e : Ent}
end
end Kn
set_option Elab.async false
set_option maxRecDepth 100000
set_option linter.all false
set_option autoImplicit false
namespace Kn
open PySem L2
section
variable {K : PySem.W.Frag} {e : Ent}
end
end Kn
set_option Elab.async false
set_option maxRecDepth 100000
set_option linter.all false
set_option autoImplicit false
namespace Kn
open PySem L2
section
variable {K : PySem.W.Frag} {e : Ent}
theorem RNd.share {σ : St} {H : Hp} {S : PSt} {T : List Tm} {l : Addr} {ks : List (Key × D)} (y : RNd K e σ H S T l ks) : S.W.ω l = none ∧ ¬ S.W.Tp l ∧ R K e σ H ⟨S.ρ, S.W.put l (.dct ks)⟩ (.v (.ref l) (.d (.ref l)) :: T) := by
  obtain ⟨U, xs, x, ow, ns, nt, hl, dv⟩ := y.ex
  exact ⟨ow.w, ow.tp, U, RU.push (x.share (c := .dct ks) ow ns nt ⟨xs, hl, dv⟩) (.ref l)⟩
end
theorem put_ne {W : Wd} {a b : Addr} {c : Cell} (h : (W.put a c).ω b = none) : b ≠ a := fun z => by
  subst z
  rw [Wd.put_same] at h; cases h
end Kn
set_option Elab.async false
set_option maxRecDepth 100000
set_option linter.all false
set_option autoImplicit false
namespace Kn
open PySem L2
section
variable {K : PySem.W.Frag} {e : Ent}
end
section
variable {P : Program} {w : World} {K : PySem.W.Frag} {mg : Str → Option Value} {base : Heap}
end
end Kn
set_option Elab.async false
set_option maxRecDepth 100000
set_option linter.all false
set_option autoImplicit false
namespace Kn
open PySem L2
section
variable {K : PySem.W.Frag} {e : Ent} {σ : St} {H : Hp} {S : PSt} {T : List Tm} {U : Addr → Prop}
def dctC (Q : List (Key × D) → Prop) : Option Cell → Prop
  | some (.dct ks) => Q ks
  | _ => False
end
end Kn
set_option Elab.async false
set_option maxRecDepth 100000
set_option linter.all false
set_option autoImplicit false
namespace Kn
open PySem L2
section
variable {K : PySem.W.Frag} {e : Ent}
end
end Kn
set_option Elab.async false
set_option maxRecDepth 100000
set_option linter.all false
set_option autoImplicit false
namespace Kn
open PySem L2
section
variable {K : PySem.W.Frag} {e : Ent}
end
end Kn
set_option Elab.async false
set_option maxRecDepth 100000
set_option linter.all false
set_option autoImplicit false
namespace Kn
open PySem L2
section
variable {K : PySem.W.Frag} {e : Ent}
theorem DvL.set {Tp : Addr → Prop} {H : Hp} {v : V} {d : D} (g : Dv K Tp H v d) : ∀ (n : Nat) {vs : List V} {ds : List D}, DvL K Tp H vs ds → DvL K Tp H (vs.set n v) (ds.set n d)
  | _, _, _, .nil => .nil
  | 0, _, _, .cons _ a => .cons g a
  | n + 1, _, _, .cons h a => .cons h (DvL.set g n a)
end
end Kn
set_option Elab.async false
set_option maxRecDepth 100000
set_option linter.all false
set_option autoImplicit false
namespace Kn
open PySem L2
section
variable {K : PySem.W.Frag} {e : Ent}
end
theorem MzK.okD {P : Program} {w : World} {K : PySem.W.Frag} {mg : Str → Option Value} {base : Heap} {C : Addr} {m qual : Str} {st : Stmt} {ps N : List Str} {n : Nat} {ks : List Str} {k : Nat} {Fs : FSpec} (F : MzK K C m qual st ps n ks) (S : FnScope N ps (defScope st)) (hl : ∀ ds W Q E, Fs ds W Q E → ds.length = ps.length) (hbody : BodyD P w K mg base N qual st k Fs) : MxK P w K mg base C m (k + 1) ps n ks (lift K Fs) := F.okX S (lift_len hl) hbody.run
end Kn
set_option Elab.async false
set_option maxRecDepth 100000
set_option linter.all false
set_option autoImplicit false
namespace Kn
open PySem L2
section
variable {K : PySem.W.Frag} {e : Ent}
end
end Kn
set_option Elab.async false
set_option maxRecDepth 100000
set_option linter.all false
set_option autoImplicit false
namespace Kn
open PySem L2
section
variable {K : PySem.W.Frag} {e : Ent}
theorem RN.ofNw {σ σ' : St} {H : Hp} {S : PSt} {TA TB : List Tm} {l : Addr} {acc : List D} {vs : List Nat} (hT : NoOwn (TA ++ TB)) (nt : NoTm (TA ++ TB) l) (e2 : L2.wipe σ vs = σ') (x : R K e σ H S (TA ++ (.nw l acc :: TB))) : RN K e σ' H (S.wipe vs) (TA ++ TB) l acc := by
  obtain ⟨U2, x2⟩ := x
  have hTn : NoOwn (TA ++ (.nw l acc :: TB)) := fun p hp w j z => by
    rcases List.mem_append.mp hp with hp | hp
    · exact hT p (List.mem_append_left _ hp) w j z
    · rcases List.mem_cons.mp hp with rfl | hp
      · cases z
      · exact hT p (List.mem_append_right _ hp) w j z
  have x3 := x2.wipe vs hTn
  rw [e2] at x3
  obtain ⟨o3, n3, v3, h3, d3⟩ := x3.tmp (.nw l acc) (by simp)
  exact ⟨U2, v3, x3.less fun p hp => by
    rcases List.mem_append.mp hp with hp | hp
    · exact List.mem_append_left _ hp
    · exact List.mem_append_right _ (List.mem_cons_of_mem _ hp), o3, n3, nt, h3, d3⟩
theorem RN.nw {σ : St} {H : Hp} {S : PSt} {TA TB : List Tm} {l : Addr} {acc : List D} (x : RN K e σ H S (TA ++ TB) l acc) : R K e σ H S (TA ++ (.nw l acc :: TB)) := by
  obtain ⟨U, xs, xu, ow, ns, _, hlm, hxs⟩ := x.ex
  exact ⟨U, (xu.push (p := .nw l acc) ⟨ow, ns, xs, hlm, hxs⟩).less fun p hp => by
    rcases List.mem_append.mp hp with hp | hp
    · exact List.mem_cons_of_mem _ (List.mem_append_left _ hp)
    · rcases List.mem_cons.mp hp with rfl | hp
      · exact List.mem_cons_self
      · exact List.mem_cons_of_mem _ (List.mem_append_right _ hp)⟩
theorem RN.more {σ σ' : St} {H : Hp} {S : PSt} {TA TB : List Tm} {l : Addr} {acc : List D} {vs : List Nat} {y : V} {d : D} (hT : NoOwn (TA ++ TB)) (nt : NoTm (TA ++ TB) l) (e2 : L2.wipe σ vs = σ') (x : R K e σ H S (.v y (.d d) :: (TA ++ (.nw l acc :: TB)))) :
    ∃ xs, H l = some (.lst xs) ∧ xs.length = acc.length ∧ RN K e σ' (L2.upd H l (.lst (xs ++ [y]))) (S.wipe vs) (TA ++ TB) l (acc ++ [d]) := by
  have rn : RN K e σ' H (S.wipe vs) (.v y (.d d) :: (TA ++ TB)) l acc := by
    have := RN.ofNw (TA := .v y (.d d) :: TA) (TB := TB) (fun p hp w j z => by
      rcases List.mem_cons.mp hp with rfl | hp
      · cases z
      · exact hT p hp w j z) (fun ds hm => by
      rcases List.mem_cons.mp hm with z | z
      · cases z
      · exact nt ds z) e2 x
    exact this
  exact rn.app
end
end Kn
set_option Elab.async false
set_option maxRecDepth 100000
set_option linter.all false
set_option autoImplicit false
namespace Kn
open PySem L2
theorem Mz.none {P : Program} {w : World} {K : PySem.W.Frag} {mg : Str → Option Value} {base : Heap} {C : Addr} {m qual : Str} {st : Stmt} {ps : List Str} {dvs : List V} {k : Nat} {sp : Sp} (F : Mz K C m qual st ps dvs) (h : ∀ vs H Q E, ¬ sp vs H Q E) : Mx P w K mg base C m k ps dvs sp := by
  obtain ⟨f, fd, ds, F1, mm, b, v⟩ := F.ex
  exact ⟨f, fd, ds, ⟨fun vs H Q E z => (h vs H Q E z).elim, fun A outer s H args us vs Q E _ _ _ _ z => (h vs H Q E z).elim⟩, mm, b, v⟩
theorem Mz.noneD {P : Program} {w : World} {K : PySem.W.Frag} {mg : Str → Option Value} {base : Heap} {C : Addr} {m qual : Str} {st : Stmt} {ps : List Str} {dvs : List V} {k : Nat} {Fs : FSpec} (F : Mz K C m qual st ps dvs) (h : ∀ ds W Q E, ¬ Fs ds W Q E) : Mx P w K mg base C m k ps dvs (lift K Fs) := F.none fun vs H Q E ⟨U, W, ds, Qd, Ed, _, _, z, _⟩ => h _ _ _ _ z
section
variable {K : PySem.W.Frag} {e : Ent}
end
end Kn
set_option Elab.async false
set_option maxRecDepth 100000
set_option linter.all false
set_option autoImplicit false
namespace Kn
open PySem L2
section
variable {K : PySem.W.Frag} {e : Ent}
end
end Kn
set_option Elab.async false
set_option maxRecDepth 100000
set_option linter.all false
set_option autoImplicit false
namespace Kn
open PySem L2
section
variable {K : PySem.W.Frag} {e : Ent}
end
end Kn
set_option Elab.async false
set_option maxRecDepth 100000
set_option linter.all false
set_option autoImplicit false
namespace Kn
open PySem L2
section
variable {K : PySem.W.Frag} {e : Ent}
end
end Kn
set_option Elab.async false
set_option maxRecDepth 100000
set_option linter.all false
set_option autoImplicit false
namespace L2
open PySem PySem.Spec PyProof.Rows
end L2
namespace Kn
open PySem L2
section
variable {K : PySem.W.Frag} {e : Ent}
end
end Kn
set_option Elab.async false
set_option maxRecDepth 100000
set_option linter.all false
set_option autoImplicit false
namespace Kn
open PySem L2
section
variable {K : PySem.W.Frag} {e : Ent}
end
section
variable {P : Program} {w : World} {K : PySem.W.Frag} {mg : Str → Option Value} {base : Heap}
theorem Cz.okD {C : Addr} {qual : Str} {st : Stmt} {ps N : List Str} {dvs : List V} {k : Nat} {Fs : FSpec} (F : Cz K C qual st ps dvs) (S : FnScope N ps (defScope st)) (hl : ∀ ds W Q E, Fs ds W Q E → ds.length = ps.length) (hbody : BodyD P w K mg base N qual st k Fs) : Cq P w K mg base C (k + 1) ps dvs (lift K Fs) := F.okX S (lift_len hl) hbody.run
end
end Kn
set_option Elab.async false
set_option maxRecDepth 100000
set_option linter.all false
set_option autoImplicit false
namespace Kn
open PySem L2
section
variable {K : PySem.W.Frag} {e : Ent}
end
end Kn
set_option Elab.async false
set_option maxRecDepth 100000
set_option linter.all false
set_option autoImplicit false
namespace Kn
open PySem L2
section
variable {S : PSt} {F : D → Prop} {G : D → PSt → Prop} {H2 : D → D → Prop}
theorem dd2_dd1 {rx ry : Rv} : dd2 S rx ry H2 = dd1 S rx fun a => dd1 S ry fun b => H2 a b := by
  unfold dd2 dd1
  cases derefD S rx with
  | none => rfl
  | some a => cases derefD S ry <;> rfl
end
end Kn
set_option Elab.async false
set_option maxRecDepth 100000
set_option linter.all false
set_option autoImplicit true
namespace Kn
open PySem L2
theorem u_tdC {d : D} {S Q} : tdC d S Q = (Q (.d d) S) := rfl
theorem u_tdOp {o : PSt → Rv → Rv → (D → PSt → Prop) → Prop} {ta tb : TDE} {S Q} : tdOp o ta tb S Q = (ta S fun x S1 => tb S1 fun y S2 => o S2 x y fun d S3 => Q (.d d) S3) := rfl
theorem u_tdNil {S Q} : tdNil S Q = (Q [] S) := rfl
theorem u_tdCons {ta : TDE} {tr : TDA} {S Q} : tdCons ta tr S Q = (ta S fun r S1 => tr S1 fun rs S2 => Q (r :: rs) S2) := rfl
theorem u_tdTup {ta : TDA} {S Q} : tdTup ta S Q = (ta S fun rs S1 => frcL rs S1 fun ds S2 => ds.length ≤ 1000000 ∧ Q (.d (.tup ds)) S2) := rfl
theorem u_tnLst {ta : TDA} {S Q} : tnLst ta S Q = (ta S fun rs S1 => frcL rs S1 fun ds S2 => ds.length ≤ 1000000 ∧ Q ds S2) := rfl
theorem u_tdFrz {t : TDN} {S Q} : tdFrz t S Q = (t S fun ds S1 => Q (.d (.lst ds)) S1) := rfl
theorem u_tdFrzK {t : TDK} {S Q} : tdFrzK t S Q = (t S fun ds S1 => Q (.d (.dct ds)) S1) := rfl
theorem u_tkNew {S Q} : tkNew S Q = (Q [] S) := rfl
theorem u_tdTest {t : TDE} {S Q} : tdTest t S Q = (t S fun r S1 => asB r fun b => Q b S1) := rfl
theorem u_tdAnd {t u : TDT} {S Q} : tdAnd t u S Q = (t S fun c S1 => if c = true then u S1 Q else Q false S1) := rfl
theorem u_tdOr {t u : TDT} {S Q} : tdOr t u S Q = (t S fun c S1 => if c = true then Q true S1 else u S1 Q) := rfl
theorem u_tdNot {t : TDT} {S Q} : tdNot t S Q = (t S fun c S1 => Q (!c) S1) := rfl
theorem u_tdYes {S Q} : tdYes S Q = (Q true S) := rfl
theorem u_tdNotV {ta : TDE} {S Q} : tdNotV ta S Q = (tdTest ta S fun c S1 => Q (.d (.bl (!c))) S1) := rfl
theorem u_tdCB {o : PSt → List Rv → (D → PSt → Prop) → Prop} {t : TDA} {S Q} : tdCB o t S Q = (t S fun rs S1 => o S1 rs fun d S2 => Q (.d d) S2) := rfl
theorem u_tdNoPart {S Q} : tdNoPart S Q = (Q none S) := rfl
theorem u_tdPart {t : TDE} {S Q} : tdPart t S Q = (t S fun r S1 => asI r fun i => Q (some i) S1) := rfl
theorem u_tdSl {te : TDE} {tl th : TDO} {S Q} : tdSl te tl th S Q = (te S fun r S1 => tl S1 fun lo S2 => th S2 fun hi S3 => dd1 S3 r (slF lo hi fun d => Q (.d d) S3)) := rfl
theorem u_tdNext {E S} : tdNext E S = (E.nx S) := rfl
theorem u_tdSeq {t u : TDS} {E S} : tdSeq t u E S = (t { E with nx := u E } S) := rfl
theorem u_tdDrop {te : TDE} {E S} : tdDrop te E S = (te S fun _ S1 => E.nx S1) := rfl
theorem u_tdRet {te : TDE} {E S} : tdRet te E S = (te S fun r S1 => frc r S1 fun d S2 => E.rt d S2.W) := rfl
theorem u_tdIfS {c : TDT} {t u : TDS} {E S} : tdIfS c t u E S = (c S fun b S1 => if b = true then t E S1 else u E S1) := rfl
theorem u_gdName {i : Nat} {d S Q} : gdName i d S Q = (Q (S.set i (.val d))) := rfl
theorem u_tdAsg {te : TDE} {g : TDG} {E S} : tdAsg te g E S = (te S fun r S1 => frc r S1 fun d S2 => g d S2 E.nx) := rfl
theorem u_tdAsgN {i : Nat} {t : TDN} {E S} : tdAsgN i t E S = (t S fun ds S1 => E.nx (S1.set i (.ownL ds))) := rfl
theorem u_tdAsgK {i : Nat} {t : TDK} {E S} : tdAsgK i t E S = (t S fun ds S1 => E.nx (S1.set i (.ownD ds))) := rfl
theorem u_tiAny {td : TDE} {S Q} : tiAny td S Q = (td S fun r S1 => frc r S1 fun d S2 => walkF (fun ds => Q ds S2) d) := rfl
theorem u_tiRng1 {ta : TDA} {S Q} : tiRng1 ta S Q = (ta S fun rs S1 => arg1 rs fun r => asI r fun j => -(2 ^ 62) ≤ j ∧ j < 2 ^ 62 ∧ Q (rng 0 j.toNat) S1) := rfl
theorem u_tiRng2 {ta : TDA} {S Q} : tiRng2 ta S Q = (ta S fun rs S1 => arg2 rs fun r q => asI r fun i => asI q fun j => (-(2 ^ 62) ≤ i ∧ i < 2 ^ 62 ∧ -(2 ^ 62) ≤ j ∧ j < 2 ^ 62) ∧ Q (rng i (j - i).toNat) S1) := rfl
theorem u_tdFor {wi : TDI} {g : TDG} {tb : TDS} {E S} : tdFor wi g tb E S = (wi S fun ds S1 => forD g tb E ds S1) := rfl
theorem u_tnLc {wi : TDI} {g : TDG} {tt : TDT} {te : TDE} {vs : List Nat} {S Q} : tnLc wi g tt te vs S Q = (wi S fun ds S1 => compD g tt te vs Q ds [] (S1.wipe vs)) := rfl
theorem u_tdCall {F : FSpec} {w : Exn → PSt → Prop} {t : TDA} {S Q} : tdCall F w t S Q = (t S fun rs S1 => frcL rs S1 fun ds S2 => CallF F ds S2 Q w) := rfl
theorem u_tdRaise {C : Addr} {w : Exn → PSt → Prop} {zz0 S} : tdRaise C w zz0 S = (w ⟨C, []⟩ S) := rfl
theorem u_tdApp {to : TDE} {t : TDA} {S Q} : tdApp to t S Q = (to S fun rx S1 => (∃ ds, derefD S1 rx = some (.lst ds)) ∧ t S1 fun rs S2 => arg1 rs fun r => frc r S2 fun d S3 => mutL S3 rx (fun ds k => ds.length ≤ 999999 ∧ k (ds ++ [d])) fun _ S4 => Q (.d .non) S4) := rfl
theorem u_tdDPut {td ty tv : TDE} {E S} : tdDPut td ty tv E S = (tv S fun rv S1 => td S1 fun rx S2 => ty S2 fun ry S3 => frc rv S3 fun d S4 => dd1 S4 ry fun dk => opt (keyD dk) fun k => mutD S4 rx (fun ks c => ks.length ≤ 999999 ∧ c (put ks k d)) E.nx) := rfl
theorem u_tkDict {t : TDA} {S Q} : tkDict t S Q = (t S fun rs S1 => arg1 rs fun r => dd1 S1 r fun d => match d with
  | .dct ks => Q ks S1
  | _ => False) := rfl
theorem u_tdFldC {C : Addr} {f : Str} {t : TDE} {S Q} : tdFldC C f t S Q = (t S fun r S1 => dd1 S1 r (fldF C f fun d => Q (.d d) S1)) := rfl
theorem u_tdSetC {C : Addr} {f : Str} {ta tv : TDE} {E S} : tdSetC C f ta tv E S = (tv S fun r S1 => frc r S1 fun d S2 => ta S2 fun rx S3 => insF S3 C (fun a fs => fs.length < 1000 ∧ E.nx ⟨S3.ρ, S3.W.put a (.ins C (putFd f d fs))⟩) rx) := rfl
theorem u_tdMakeF {C : Addr} {F : FSpec} {w : Exn → PSt → Prop} {dds : List D} {t : TDA} {S Q} : tdMakeF C F w dds t S Q = (t S fun rs S1 => frcL rs S1 fun ds S2 => ∀ a : Addr, S2.W.ω a = none → ¬ S2.W.Tp a → CallF F (.ref a :: (ds ++ dds)) ⟨S2.ρ, S2.W.put a (.ins C [])⟩ (fun r S' => r = .d .non ∧ insC C (fun fs => Q (.d (.obj C fs)) ⟨S'.ρ, S'.W.del a⟩) (S'.W.ω a)) (fun x S' => insC C (fun _ => w x ⟨S'.ρ, S'.W.del a⟩) (S'.W.ω a))) := rfl
theorem u_tdTryAs {K : PySem.W.Frag} {c : Value} {i : Nat} {tb : (Exn → PSt → Prop) → TDS} {ts : Addr → Value → Option Addr → TDS} {wo : Exn → PSt → Prop} {E S} : tdTryAs K c i tb ts wo E S = (tb (fun x S' => exB K c x (∀ a d, ts a (.ref x.cls) d (E.un i) (S'.set i (.val (.exc a x.cls d x.fs)))) (wo x S')) E S) := rfl
theorem u_tdTryN {K : PySem.W.Frag} {l : List (Value × (Addr → Value → Option Addr → TDS))} {tb : (Exn → PSt → Prop) → TDS} {wo : Exn → PSt → Prop} {E S} : tdTryN K l tb wo E S = (tb (l.foldr (fun p w x S' => exB K p.1 x (∀ a d, p.2 a (.ref x.cls) d E S') (w x S')) wo) E S) := rfl
theorem u_addF_i {Q : D → Prop} {i j : Int} : addF Q (.int i) (.int j) = Q (.int (i + j)) := rfl
theorem u_addF_s {Q : D → Prop} {a b : Str} : addF Q (.str a) (.str b) = (a.length + b.length ≤ 1000000 ∧ Q (.str (a ++ b))) := rfl
theorem u_addF_t {Q : D → Prop} {a b : List D} : addF Q (.tup a) (.tup b) = (a.length + b.length ≤ 1000000 ∧ Q (.tup (a ++ b))) := rfl
theorem u_addF_l {Q : D → Prop} {a b : List D} : addF Q (.lst a) (.lst b) = (a.length + b.length ≤ 1000000 ∧ Q (.lst (a ++ b))) := rfl
theorem u_iiF {P : Int → Int → Prop} {f : Int → Int → D} {Q : D → Prop} {i j : Int} : iiF P f Q (.int i) (.int j) = (P i j ∧ Q (f i j)) := rfl
theorem u_mulF_i {Q : D → Prop} {i j : Int} : mulF Q (.int i) (.int j) = (((-(2 ^ 64) < i ∧ i < 2 ^ 64) ∨ (-(2 ^ 64) < j ∧ j < 2 ^ 64)) ∧ Q (.int (i * j))) := rfl
theorem u_mulF_s {Q : D → Prop} {a : Str} {j : Int} : mulF Q (.str a) (.int j) = (0 ≤ j ∧ a.length ≤ 1000 ∧ j ≤ 1000 ∧ Q (.str (repS a j.toNat))) := rfl
theorem u_inF_l {Q : Bool → Prop} {x : D} {ds : List D} : inF Q x (.lst ds) = (inOk x ds ∧ Q (decide (x ∈ ds))) := rfl
theorem u_inF_t {Q : Bool → Prop} {x : D} {ds : List D} : inF Q x (.tup ds) = ((∃ c, fl c x = true ∧ ds.all (fl c) = true) ∧ Q (decide (x ∈ ds))) := rfl
theorem u_inF_s {Q : Bool → Prop} {i j : Str} : inF Q (.str i) (.str j) = Q (strIn i j) := rfl
theorem u_inF_ds {Q : Bool → Prop} {i : Str} {ks : List (Key × D)} : inF Q (.str i) (.dct ks) = Q (look ks (.inr i)).isSome := rfl
theorem u_inF_di {Q : Bool → Prop} {i : Int} {ks : List (Key × D)} : inF Q (.int i) (.dct ks) = Q (look ks (.inl i)).isSome := rfl
theorem u_ixF_l {Q : D → Prop} {ds : List D} {i : Int} : ixF Q (.lst ds) (.int i) = opt (atI ds i) Q := rfl
theorem u_ixF_t {Q : D → Prop} {ds : List D} {i : Int} : ixF Q (.tup ds) (.int i) = opt (atI ds i) Q := rfl
theorem u_ixF_s {Q : D → Prop} {z : Str} {i : Int} : ixF Q (.str z) (.int i) = (z.length ≤ 1000000 ∧ opt (atI z.cps.toList i) fun c => Q (.str ⟨#[c]⟩)) := rfl
theorem u_ixF_di {Q : D → Prop} {ks : List (Key × D)} {i : Int} : ixF Q (.dct ks) (.int i) = opt (look ks (.inl i)) Q := rfl
theorem u_ixF_ds {Q : D → Prop} {ks : List (Key × D)} {i : Str} : ixF Q (.dct ks) (.str i) = opt (look ks (.inr i)) Q := rfl
theorem u_slF_l {Q : D → Prop} {ds : List D} {lo hi : Option Int} : slF lo hi Q (.lst ds) = Q (.lst (cut ds lo hi)) := rfl
theorem u_slF_t {Q : D → Prop} {ds : List D} {lo hi : Option Int} : slF lo hi Q (.tup ds) = Q (.tup (cut ds lo hi)) := rfl
theorem u_slF_s {Q : D → Prop} {z : Str} {lo hi : Option Int} : slF lo hi Q (.str z) = (z.length ≤ 1000000 ∧ Q (.str (cutS z lo hi))) := rfl
theorem u_lenF_l {S : PSt} {Q : D → Prop} {ds : List D} : lenF S Q (.lst ds) = Q (.int ds.length) := rfl
theorem u_lenF_t {S : PSt} {Q : D → Prop} {ds : List D} : lenF S Q (.tup ds) = Q (.int ds.length) := rfl
theorem u_lenF_s {S : PSt} {Q : D → Prop} {z : Str} : lenF S Q (.str z) = (z.length ≤ 1000000 ∧ Q (.int z.length)) := rfl
theorem u_lenF_d {S : PSt} {Q : D → Prop} {ks : List (Key × D)} : lenF S Q (.dct ks) = Q (.int ks.length) := rfl
theorem u_isiF {S : PSt} {n : String} {Q : D → Prop} {a : D} : isiF S n Q a = (tyOk n = true ∧ opt (tyN a) fun t => Q (.bl (isB t n))) := rfl
theorem u_isiD {S : PSt} {x : Rv} {n : String} {Q : D → PSt → Prop} : isiD S [x, .d (.ty n)] Q = dd1 S x (isiF S n fun d => Q d S) := rfl
theorem u_allF {S : PSt} {Q : D → Prop} {ds : List D} : allF S Q (.lst ds) = opt (bls ds) fun bs => Q (.bl (bs.all id)) := rfl
theorem u_sumF {S : PSt} {Q : D → Prop} {ds : List D} : sumF S Q (.lst ds) = opt (nts ds) fun bs => Q (.int bs.sum) := rfl
theorem u_intF_i {S : PSt} {Q : D → Prop} {i : Int} : intF S Q (.int i) = Q (.int i) := rfl
theorem u_intF_b {S : PSt} {Q : D → Prop} {b : Bool} : intF S Q (.bl b) = Q (.int (if b then 1 else 0)) := rfl
theorem u_walkF_l {Q : List D → Prop} {ds : List D} : walkF Q (.lst ds) = Q ds := rfl
theorem u_walkF_t {Q : List D → Prop} {ds : List D} : walkF Q (.tup ds) = Q ds := rfl
theorem u_walkF_s {Q : List D → Prop} {z : Str} : walkF Q (.str z) = Q (signs z) := rfl
theorem u_walkF_d {Q : List D → Prop} {ks : List (Key × D)} : walkF Q (.dct ks) = Q (ks.map fun p => keyV p.1) := rfl
theorem u_arg1 {r : Rv} {F : Rv → Prop} : arg1 [r] F = F r := rfl
theorem u_arg2 {r q : Rv} {F : Rv → Rv → Prop} : arg2 [r, q] F = F r q := rfl
theorem u_frcL_n {S : PSt} {Q : List D → PSt → Prop} : frcL [] S Q = Q [] S := rfl
theorem u_frcL_c {r : Rv} {rs : List Rv} {S : PSt} {Q : List D → PSt → Prop} : frcL (r :: rs) S Q = frc r S fun d S1 => frcL rs S1 fun ds S2 => Q (d :: ds) S2 := rfl
theorem u_addD {S : PSt} {rx ry : Rv} {Q : D → PSt → Prop} : addD S rx ry Q = dd1 S rx fun a => dd1 S ry fun b => addF (fun d => Q d S) a b := dd2_dd1
theorem u_iiD {P : Int → Int → Prop} {f : Int → Int → D} {S : PSt} {rx ry : Rv} {Q : D → PSt → Prop} : iiD P f S rx ry Q = dd1 S rx fun a => dd1 S ry fun b => iiF P f (fun d => Q d S) a b := dd2_dd1
theorem u_mulD {S : PSt} {rx ry : Rv} {Q : D → PSt → Prop} : mulD S rx ry Q = dd1 S rx fun a => dd1 S ry fun b => mulF (fun d => Q d S) a b := dd2_dd1
theorem u_eqD_f {S : PSt} {rx ry : Rv} {Q : D → PSt → Prop} : eqD false S rx ry Q = dd1 S rx fun a => dd1 S ry fun b => eqOk a b ∧ Q (.bl (decide (a = b))) S := dd2_dd1
theorem u_eqD_t {S : PSt} {rx ry : Rv} {Q : D → PSt → Prop} : eqD true S rx ry Q = dd1 S rx fun a => dd1 S ry fun b => eqOk a b ∧ Q (.bl (!decide (a = b))) S := dd2_dd1
theorem u_inD_f {S : PSt} {rx ry : Rv} {Q : D → PSt → Prop} : inD false S rx ry Q = dd1 S rx fun a => dd1 S ry fun b => inF (fun b => Q (.bl b) S) a b := dd2_dd1
theorem u_inD_t {S : PSt} {rx ry : Rv} {Q : D → PSt → Prop} : inD true S rx ry Q = dd1 S rx fun a => dd1 S ry fun b => inF (fun b => Q (.bl (!b)) S) a b := dd2_dd1
theorem u_ixD {S : PSt} {rx ry : Rv} {Q : D → PSt → Prop} : ixD S rx ry Q = dd1 S rx fun a => dd1 S ry fun b => ixF (fun d => Q d S) a b := dd2_dd1
theorem u_dd2 {S : PSt} {rx ry : Rv} {F : D → D → Prop} : dd2 S rx ry F = dd1 S rx fun a => dd1 S ry fun b => F a b := dd2_dd1
theorem u_isND_f {S : PSt} {d : D} {Q : D → PSt → Prop} : isND false S (.d d) (.d .non) Q = Q (.bl (isNn d)) S := rfl
theorem u_isND_t {S : PSt} {d : D} {Q : D → PSt → Prop} : isND true S (.d d) (.d .non) Q = Q (.bl (!isNn d)) S := rfl
theorem u_fldF {C : Addr} {f : Str} {Q : D → Prop} {fs : List (Str × D)} : fldF C f Q (.obj C fs) = opt (look fs f) Q := propext ⟨fun h => h.2, fun h => ⟨rfl, h⟩⟩
theorem u_turnD {g : TDG} {tt : TDT} {te : TDE} {vs : List Nat} {d : D} {S : PSt} {N : D → PSt → Prop} {M : PSt → Prop} : turnD g tt te vs d S N M = g d S fun S2 => tt S2 fun b S3 => if b = true then te S3 fun r S4 => frc r S4 fun y S5 => N y (S5.wipe vs) else M (S3.wipe vs) := rfl
class Bx (α : Type) where
  v : α
class Px where
  v : Prop
def CallB (F : FSpec) (ds : List D) (S : PSt) [Q : Bx (Rv → PSt → Prop)] [w : Bx (Exn → PSt → Prop)] : Prop := CallF F ds S Q.v w.v
def optB {α : Type} (o : Option α) [F : Bx (α → Prop)] : Prop := opt o F.v
def dd1B (S : PSt) (r : Rv) [F : Bx (D → Prop)] : Prop := dd1 S r F.v
def asBB (r : Rv) [F : Bx (Bool → Prop)] : Prop := asB r F.v
def asIB (r : Rv) [F : Bx (Int → Prop)] : Prop := asI r F.v
def frcB (r : Rv) (S : PSt) [F : Bx (D → PSt → Prop)] : Prop := frc r S F.v
def forB (ds : List D) (S : PSt) [g : Bx TDG] [tb : Bx TDS] [E : Bx DEnds] : Prop := forD g.v tb.v E.v ds S
def compB (ds acc : List D) (S : PSt) [g : Bx TDG] [tt : Bx TDT] [te : Bx TDE] [vs : Bx (List Nat)] [Q : Bx (List D → PSt → Prop)] : Prop := compD g.v tt.v te.v vs.v Q.v ds acc S
def iteB (c : Prop) [Decidable c] [A : Px] [B : Px] : Prop := if c then A.v else B.v
def whileB (S : PSt) [c : Bx TDT] [tb : Bx TDS] [E : Bx DEnds] : Prop := tdWhile c.v tb.v E.v S
def varB (c : Option (Option PC)) (i : Nat) [Q : Bx (Rv → Prop)] : Prop := match c with
  | some (some (.val d)) => Q.v (.d d)
  | some (some (.ownL _)) => Q.v (.own i)
  | some (some (.ownD _)) => Q.v (.own i)
  | _ => False
def augB (i : Nat) (S : PSt) (c : Option (Option PC)) (d : D) [Q : Bx (PSt → Prop)] : Prop := augF i S Q.v c d
def mutLB (S : PSt) (r : Rv) [F : Bx (List D → (List D → Prop) → Prop)] [Q : Bx (List D → PSt → Prop)] : Prop := mutL S r F.v Q.v
def mutDB (S : PSt) (r : Rv) [F : Bx (List (Key × D) → (List (Key × D) → Prop) → Prop)] [Q : Bx (PSt → Prop)] : Prop := mutD S r F.v Q.v
def retVB (c : Option (Option PC)) (W : Wd) [Q : Bx (List D → Wd → Prop)] : Prop := match c with
  | some (some (.ownL ds)) => Q.v ds W
  | _ => False
theorem b_Call {F : FSpec} {ds : List D} {S : PSt} {Q : Rv → PSt → Prop} {w : Exn → PSt → Prop} : CallF F ds S Q w = @CallB F ds S ⟨Q⟩ ⟨w⟩ := rfl
theorem b_opt {α : Type} {o : Option α} {F : α → Prop} : opt o F = @optB α o ⟨F⟩ := rfl
theorem b_dd1 {S : PSt} {r : Rv} {F : D → Prop} : dd1 S r F = @dd1B S r ⟨F⟩ := rfl
theorem b_asB {r : Rv} {F : Bool → Prop} : asB r F = @asBB r ⟨F⟩ := rfl
theorem b_asI {r : Rv} {F : Int → Prop} : asI r F = @asIB r ⟨F⟩ := rfl
theorem b_frc {r : Rv} {S : PSt} {F : D → PSt → Prop} : frc r S F = @frcB r S ⟨F⟩ := rfl
theorem b_for {g : TDG} {tb : TDS} {E : DEnds} {ds : List D} {S : PSt} : forD g tb E ds S = @forB ds S ⟨g⟩ ⟨tb⟩ ⟨E⟩ := rfl
theorem b_comp {g : TDG} {tt : TDT} {te : TDE} {vs : List Nat} {Q : List D → PSt → Prop} {ds acc : List D} {S : PSt} : compD g tt te vs Q ds acc S = @compB ds acc S ⟨g⟩ ⟨tt⟩ ⟨te⟩ ⟨vs⟩ ⟨Q⟩ := rfl
theorem b_ite {c : Prop} [Decidable c] {A B : Prop} : (if c then A else B) = @iteB c _ ⟨A⟩ ⟨B⟩ := rfl
theorem b_while {c : TDT} {tb : TDS} {E : DEnds} {S : PSt} : tdWhile c tb E S = @whileB S ⟨c⟩ ⟨tb⟩ ⟨E⟩ := rfl
theorem b_var {i : Nat} {S : PSt} {Q : Rv → PSt → Prop} : tdVar i S Q = @varB S.ρ[i]? i ⟨fun r => Q r S⟩ := by
  unfold tdVar varB
  cases S.ρ[i]? with
  | none => rfl
  | some c =>
    cases c with
    | none => rfl
    | some c => cases c <;> rfl
theorem b_aug {i : Nat} {t : TDE} {E : DEnds} {S : PSt} : tdAug i t E S = ((∃ c, S.ρ[i]? = some (some c)) ∧ t S fun r S1 => dd1 S1 r fun d => @augB i S1 S1.ρ[i]? d ⟨E.nx⟩) := rfl
theorem b_mutL {S : PSt} {r : Rv} {F : List D → (List D → Prop) → Prop} {Q : List D → PSt → Prop} : mutL S r F Q = @mutLB S r ⟨F⟩ ⟨Q⟩ := rfl
theorem b_mutD {S : PSt} {r : Rv} {F : List (Key × D) → (List (Key × D) → Prop) → Prop} {Q : PSt → Prop} : mutD S r F Q = @mutDB S r ⟨F⟩ ⟨Q⟩ := rfl
theorem b_retV {i : Nat} {E : DEnds} {S : PSt} : tdRetV i E S = @retVB S.ρ[i]? S.W ⟨E.rn⟩ := by
  unfold tdRetV retVB
  cases S.ρ[i]? with
  | none => rfl
  | some c =>
    cases c with
    | none => rfl
    | some c => cases c <;> rfl
section
variable {S : PSt} {F : Bx (D → Prop)} {G : Bx (D → PSt → Prop)}
theorem o_opt {α : Type} {a : α} {F : Bx (α → Prop)} : @optB α (some a) F = F.v a := rfl
theorem o_asB {b : Bool} {F : Bx (Bool → Prop)} : @asBB (.d (.bl b)) F = F.v b := rfl
theorem o_asI {b : Int} {F : Bx (Int → Prop)} : @asIB (.d (.int b)) F = F.v b := rfl
theorem o_non : @dd1B S (.d .non) F = F.v .non := rfl
theorem o_bl {b : Bool} : @dd1B S (.d (.bl b)) F = F.v (.bl b) := rfl
theorem o_int {b : Int} : @dd1B S (.d (.int b)) F = F.v (.int b) := rfl
theorem o_str {b : Str} : @dd1B S (.d (.str b)) F = F.v (.str b) := rfl
theorem o_ty {b : String} : @dd1B S (.d (.ty b)) F = F.v (.ty b) := rfl
theorem o_tup {b : List D} : @dd1B S (.d (.tup b)) F = F.v (.tup b) := rfl
theorem o_lst {b : List D} : @dd1B S (.d (.lst b)) F = F.v (.lst b) := rfl
theorem o_dct {b : List (Key × D)} : @dd1B S (.d (.dct b)) F = F.v (.dct b) := rfl
theorem o_obj {C : Addr} {b : List (Str × D)} : @dd1B S (.d (.obj C b)) F = F.v (.obj C b) := rfl
theorem o_varV {i : Nat} {d : D} {Q : Bx (Rv → Prop)} : @varB (some (some (.val d))) i Q = Q.v (.d d) := rfl
theorem o_varL {i : Nat} {d : List D} {Q : Bx (Rv → Prop)} : @varB (some (some (.ownL d))) i Q = Q.v (.own i) := rfl
theorem o_varD {i : Nat} {d : List (Key × D)} {Q : Bx (Rv → Prop)} : @varB (some (some (.ownD d))) i Q = Q.v (.own i) := rfl
theorem o_frc {d : D} : @frcB (.d d) S G = G.v d S := rfl
theorem o_augI {i : Nat} {a b : Int} {Q : Bx (PSt → Prop)} : @augB i S (some (some (.val (.int a)))) (.int b) Q = Q.v (S.set i (.val (.int (a + b)))) := rfl
theorem o_augS {i : Nat} {a b : Str} {Q : Bx (PSt → Prop)} : @augB i S (some (some (.val (.str a)))) (.str b) Q = (a.length + b.length ≤ 1000000 ∧ Q.v (S.set i (.val (.str (a ++ b))))) := rfl
theorem o_augL {i : Nat} {a b : List D} {Q : Bx (PSt → Prop)} : @augB i S (some (some (.ownL a))) (.lst b) Q = (a.length + b.length ≤ 1000000 ∧ Q.v (S.set i (.ownL (a ++ b)))) := rfl
theorem o_retV {ds : List D} {W : Wd} {Q : Bx (List D → Wd → Prop)} : @retVB (some (some (.ownL ds))) W Q = Q.v ds W := rfl
theorem o_iteT {A B : Px} : @iteB True _ A B = A.v := by unfold iteB; simp
theorem o_iteF {A B : Px} : @iteB False _ A B = B.v := by unfold iteB; simp
end
theorem iteB_by {c : Prop} [Decidable c] {A B : Px} (h1 : c → A.v) (h2 : ¬ c → B.v) : @iteB c _ A B := by
  unfold iteB
  split
  · exact h1 ‹_›
  · exact h2 ‹_›
theorem iteB_T {c : Prop} [Decidable c] {A B : Px} (hc : c) (h : A.v) : @iteB c _ A B := by unfold iteB; rw [if_pos hc]; exact h
theorem iteB_F {c : Prop} [Decidable c] {A B : Px} (hc : ¬ c) (h : B.v) : @iteB c _ A B := by unfold iteB; rw [if_neg hc]; exact h
def derefO : Option (Option PC) → Option D
  | some (some (.val (.ref _))) => none
  | some (some (.val d)) => some d
  | some (some (.ownL ds)) => some (.lst ds)
  | some (some (.ownD ks)) => some (.dct ks)
  | _ => none
theorem b_deref {S : PSt} {j : Nat} : derefD S (.own j) = derefO S.ρ[j]? := by
  rw [derefD]
  cases S.ρ[j]? with
  | none => rfl
  | some c =>
    cases c with
    | none => rfl
    | some c =>
      cases c with
      | val d => cases d <;> rfl
      | ownL ds => rfl
      | ownD ds => rfl
theorem o_derefL {ds : List D} : derefO (some (some (.ownL ds))) = some (.lst ds) := rfl
theorem o_derefD {ds : List (Key × D)} : derefO (some (some (.ownD ds))) = some (.dct ds) := rfl
theorem b_dd1own {S : PSt} {j : Nat} {F : Bx (D → Prop)} : @dd1B S (.own j) F = @optB D (derefO S.ρ[j]?) F := by
  unfold dd1B dd1 optB opt
  rw [b_deref]
  cases derefO S.ρ[j]? <;> rfl
def mutOB (S : PSt) (j : Nat) (c : Option (Option PC)) [F : Bx (List D → (List D → Prop) → Prop)] [Q : Bx (List D → PSt → Prop)] : Prop := mutO S j F.v Q.v c
theorem b_mutO {S : PSt} {j : Nat} {F : Bx (List D → (List D → Prop) → Prop)} {Q : Bx (List D → PSt → Prop)} : @mutLB S (.own j) F Q = @mutOB S j S.ρ[j]? F Q := rfl
theorem o_mutO {S : PSt} {j : Nat} {ds : List D} {F : Bx (List D → (List D → Prop) → Prop)} {Q : Bx (List D → PSt → Prop)} : @mutOB S j (some (some (.ownL ds))) F Q = F.v ds fun es => Q.v es (S.set j (.ownL es)) := rfl
def mutDOB (S : PSt) (j : Nat) (c : Option (Option PC)) [F : Bx (List (Key × D) → (List (Key × D) → Prop) → Prop)] [Q : Bx (PSt → Prop)] : Prop := mutDO S j F.v Q.v c
theorem b_mutDO {S : PSt} {j : Nat} {F : Bx (List (Key × D) → (List (Key × D) → Prop) → Prop)} {Q : Bx (PSt → Prop)} : @mutDB S (.own j) F Q = @mutDOB S j S.ρ[j]? F Q := rfl
theorem o_mutDO {S : PSt} {j : Nat} {ds : List (Key × D)} {F : Bx (List (Key × D) → (List (Key × D) → Prop) → Prop)} {Q : Bx (PSt → Prop)} : @mutDOB S j (some (some (.ownD ds))) F Q = F.v ds fun es => Q.v (S.set j (.ownD es)) := rfl
def frcOB (S : PSt) (j : Nat) (c : Option (Option PC)) [G : Bx (D → PSt → Prop)] : Prop := match c with
  | some (some (.val d)) => G.v d S
  | some (some (.ownL ds)) => G.v (.lst ds) (S.set j (.val (.lst ds)))
  | some (some (.ownD ks)) => G.v (.dct ks) (S.set j (.val (.dct ks)))
  | _ => False
theorem b_frcO {S : PSt} {j : Nat} {G : Bx (D → PSt → Prop)} : @frcB (.own j) S G = @frcOB S j S.ρ[j]? G := by
  unfold frcB frcOB
  rw [frc] <;> (cases S.ρ[j]? with
    | none => rfl
    | some c =>
      cases c with
      | none => rfl
      | some c => cases c <;> rfl)
theorem o_frcL {S : PSt} {j : Nat} {ds : List D} {G : Bx (D → PSt → Prop)} : @frcOB S j (some (some (.ownL ds))) G = G.v (.lst ds) (S.set j (.val (.lst ds))) := rfl
theorem o_frcD {S : PSt} {j : Nat} {ds : List (Key × D)} {G : Bx (D → PSt → Prop)} : @frcOB S j (some (some (.ownD ds))) G = G.v (.dct ds) (S.set j (.val (.dct ds))) := rfl
theorem o_frcV {S : PSt} {j : Nat} {d : D} {G : Bx (D → PSt → Prop)} : @frcOB S j (some (some (.val d))) G = G.v d S := rfl
def refB (S : PSt) (r : Rv) [Q : Bx (Addr → List D → Prop)] : Prop := refF S Q.v r
def dctCB (o : Option Cell) [Q : Bx (List (Key × D) → Prop)] : Prop := dctC Q.v o
theorem b_dctC {o : Option Cell} {Q : List (Key × D) → Prop} : dctC Q o = @dctCB o ⟨Q⟩ := rfl
theorem o_dctC {ks : List (Key × D)} {Q : Bx (List (Key × D) → Prop)} : @dctCB (some (.dct ks)) Q = Q.v ks := rfl
theorem b_ref {S : PSt} {r : Rv} {Q : Addr → List D → Prop} : refF S Q r = @refB S r ⟨Q⟩ := rfl
theorem o_ref {ρ : List (Option PC)} {W : Wd} {a : Addr} {ds : List D} {Q : Bx (Addr → List D → Prop)} : @refB ⟨ρ, W.put a (.lst ds)⟩ (.d (.ref a)) Q = Q.v a ds := by
  unfold refB refF
  simp only [Wd.put_same, refC]
theorem o_derefR {ρ : List (Option PC)} {W : Wd} {a : Addr} {ds : List D} : derefD ⟨ρ, W.put a (.lst ds)⟩ (.d (.ref a)) = some (.lst ds) := by
  simp only [derefD, Wd.put_same]
theorem o_dd1R {ρ : List (Option PC)} {W : Wd} {a : Addr} {ds : List D} {F : Bx (D → Prop)} : @dd1B ⟨ρ, W.put a (.lst ds)⟩ (.d (.ref a)) F = F.v (.lst ds) := by
  unfold dd1B dd1
  rw [o_derefR]
theorem put_put {W : Wd} {a : Addr} {c c' : Cell} : (W.put a c).put a c' = W.put a c' := by
  unfold Wd.put
  congr 1
  funext b
  by_cases h : b = a <;> simp [h]
theorem o_mutR {ρ : List (Option PC)} {W : Wd} {a : Addr} {ds : List D} {F : Bx (List D → (List D → Prop) → Prop)} {Q : Bx (List D → PSt → Prop)} : @mutLB ⟨ρ, W.put a (.lst ds)⟩ (.d (.ref a)) F Q = F.v ds fun es => Q.v es ⟨ρ, W.put a (.lst es)⟩ := by
  unfold mutLB mutL
  simp only [Wd.put_same, mutC, put_put]
theorem o_derefK {ρ : List (Option PC)} {W : Wd} {a : Addr} {ds : List (Key × D)} : derefD ⟨ρ, W.put a (.dct ds)⟩ (.d (.ref a)) = some (.dct ds) := by
  simp only [derefD, Wd.put_same]
theorem o_dd1K {ρ : List (Option PC)} {W : Wd} {a : Addr} {ds : List (Key × D)} {F : Bx (D → Prop)} : @dd1B ⟨ρ, W.put a (.dct ds)⟩ (.d (.ref a)) F = F.v (.dct ds) := by
  unfold dd1B dd1
  rw [o_derefK]
theorem o_mutK {ρ : List (Option PC)} {W : Wd} {a : Addr} {ds : List (Key × D)} {F : Bx (List (Key × D) → (List (Key × D) → Prop) → Prop)} {Q : Bx (PSt → Prop)} : @mutDB ⟨ρ, W.put a (.dct ds)⟩ (.d (.ref a)) F Q = F.v ds fun es => Q.v ⟨ρ, W.put a (.dct es)⟩ := by
  unfold mutDB mutD
  simp only [Wd.put_same, mutDC, put_put]
theorem o_putT {T : Addr → Prop} {W : Wd} {a : Addr} {c : Cell} : (⟨T, (W.put a c).ω⟩ : Wd) = Wd.put ⟨T, W.ω⟩ a c := rfl
def insFB (S : PSt) (C : Addr) (r : Rv) [Q : Bx (Addr → List (Str × D) → Prop)] : Prop := insF S C Q.v r
def insCB (C : Addr) (o : Option Cell) [Q : Bx (List (Str × D) → Prop)] : Prop := insC C Q.v o
theorem b_insF {S : PSt} {C : Addr} {r : Rv} {Q : Addr → List (Str × D) → Prop} : insF S C Q r = @insFB S C r ⟨Q⟩ := rfl
theorem b_insC {C : Addr} {o : Option Cell} {Q : List (Str × D) → Prop} : insC C Q o = @insCB C o ⟨Q⟩ := rfl
theorem o_insF {ρ : List (Option PC)} {W : Wd} {a C : Addr} {fs : List (Str × D)} {Q : Bx (Addr → List (Str × D) → Prop)} : @insFB ⟨ρ, W.put a (.ins C fs)⟩ C (.d (.ref a)) Q = Q.v a fs := by
  unfold insFB insF
  simp only [Wd.put_same, insC, true_and]
theorem o_insC {C : Addr} {fs : List (Str × D)} {Q : Bx (List (Str × D) → Prop)} : @insCB C (some (.ins C fs)) Q = Q.v fs := by
  unfold insCB
  simp only [insC, true_and]
theorem o_derefI {ρ : List (Option PC)} {W : Wd} {a C : Addr} {fs : List (Str × D)} : derefD ⟨ρ, W.put a (.ins C fs)⟩ (.d (.ref a)) = some (.obj C fs) := by
  simp only [derefD, Wd.put_same]
theorem o_dd1I {ρ : List (Option PC)} {W : Wd} {a C : Addr} {fs : List (Str × D)} {F : Bx (D → Prop)} : @dd1B ⟨ρ, W.put a (.ins C fs)⟩ (.d (.ref a)) F = F.v (.obj C fs) := by
  unfold dd1B dd1
  rw [o_derefI]
theorem o_putS {W : Wd} {a : Addr} {c : Cell} : (W.put a c).ω a = some c := Wd.put_same
theorem o_putP {W : Wd} {a : Addr} {c c' : Cell} : (W.put a c).put a c' = W.put a c' := put_put
def exBB (K : PySem.W.Frag) (c : Value) (x : Exn) [Y : Bx Prop] [N : Bx Prop] : Prop := exB K c x Y.v N.v
theorem b_exB {K : PySem.W.Frag} {c : Value} {x : Exn} {Y N : Prop} : exB K c x Y N = @exBB K c x ⟨Y⟩ ⟨N⟩ := rfl
theorem ofS_inj {a b : String} (h : Str.ofString a = Str.ofString b) : a = b := by
  have h : a.toList.map Char.toNat = b.toList.map Char.toNat := by
    rw [Str.ofString_eq_toList, Str.ofString_eq_toList] at h
    simpa using h
  exact String.toList_inj.mp ((List.map_inj_right (f := Char.toNat) fun x y e => Char.toNat_inj.mp e).mp h)
theorem ofS_eq (a b : String) : (Str.ofString a = Str.ofString b) = (a = b) := propext ⟨ofS_inj, fun h => by rw [h]⟩
theorem look_c {p : Str × D} {l : List (Str × D)} {k : Str} : look (p :: l) k = if p.1 = k then some p.2 else look l k := rfl
theorem look_n {k : Str} : look ([] : List (Str × D)) k = none := rfl
theorem putFd_c {f : Str} {x : D} {p : Str × D} {r : List (Str × D)} : putFd f x (p :: r) = if p.1 = f then (p.1, x) :: r else p :: putFd f x r := rfl
theorem putFd_n {f : Str} {x : D} : putFd f x [] = [(f, x)] := rfl
theorem bq_t (b : Bool) : (b == true) = b := by cases b <;> rfl
theorem bq_f (b : Bool) : (b == false) = !b := by cases b <;> rfl
theorem exC {c : PC} : (∃ c', (some (some c) : Option (Option PC)) = some (some c')) = True := eq_true ⟨c, rfl⟩
theorem exK {ds : List (Key × D)} : (∃ ds', (some (D.dct ds) : Option D) = some (.dct ds')) = True := eq_true ⟨ds, rfl⟩
theorem exL {ds : List D} : (∃ ds', (some (D.lst ds) : Option D) = some (.lst ds')) = True := eq_true ⟨ds, rfl⟩
end Kn
set_option Elab.async false
set_option maxRecDepth 100000
set_option linter.all false
set_option autoImplicit false
namespace Kn
open PySem L2
section
variable {α : Type} {g : TDG} {tt : TDT} {te : TDE} {vs : List Nat} {Q : List D → PSt → Prop} {tb : TDS} {E : DEnds} {S : PSt}
theorem for_rng {lo : Int} {n : Nat} (I : Nat → PSt → Prop) (h0 : I 0 S) (hs : ∀ (i : Nat) S, i < n → I i S → g (.int (lo + i)) S fun S2 => tb ⟨I (i + 1), E.rt, E.nx, I (i + 1), E.rn⟩ S2) (hd : ∀ S, I n S → E.nx S) : @forB (rng lo n) S ⟨g⟩ ⟨tb⟩ ⟨E⟩ := by
  refine forD_ix (g := g) (tb := tb) (E := E) (fun (i : Nat) => D.int (lo + (i : Int))) (List.range n) I h0 (fun i x S hx hi => ?_) (fun S h => hd S (by simpa using h))
  obtain ⟨h1, h2⟩ := List.getElem?_eq_some_iff.mp hx
  simp at h1 h2
  subst h2
  exact hs i S h1 hi
theorem for_lst {xs : List D} (I : Nat → PSt → Prop) (h0 : I 0 S) (hs : ∀ (i : Nat) x S, xs[i]? = some x → I i S → g x S fun S2 => tb ⟨I (i + 1), E.rt, E.nx, I (i + 1), E.rn⟩ S2) (hd : ∀ S, I xs.length S → E.nx S) : @forB xs S ⟨g⟩ ⟨tb⟩ ⟨E⟩ := forD_id xs I h0 hs hd
theorem for_map (h : α → D) (xs : List α) (I : Nat → PSt → Prop) (h0 : I 0 S) (hs : ∀ (i : Nat) x S, xs[i]? = some x → I i S → g (h x) S fun S2 => tb ⟨I (i + 1), E.rt, E.nx, I (i + 1), E.rn⟩ S2) (hd : ∀ S, I xs.length S → E.nx S) : @forB (xs.map h) S ⟨g⟩ ⟨tb⟩ ⟨E⟩ := forD_ix h xs I h0 hs hd
theorem comp_map (h f : α → D) (xs : List α) {acc : List D} (hl : acc.length + xs.length ≤ 1000000) (hs : ∀ x ∈ xs, ∀ (N : D → PSt → Prop) (M : PSt → Prop), N (f x) S → turnD g tt te vs (h x) S N M) (q : Q (acc ++ xs.map f) S) : @compB (xs.map h) acc S ⟨g⟩ ⟨tt⟩ ⟨te⟩ ⟨vs⟩ ⟨Q⟩ := compD_map h f xs acc hl hs q
theorem dd1B_ok {S : PSt} {d : D} {b : Bool} {F : Bx (D → Prop)} (h : okD b d = true) (k : F.v d) : @dd1B S (.d d) F := by
  cases d <;> first | exact k | simp [okD] at h
end
def vD (W : Wd) (d : D) : Option D := derefD ⟨[], W⟩ (.d d)
theorem vD_eq {ρ : List (Option PC)} {W : Wd} {d : D} : derefD ⟨ρ, W⟩ (.d d) = vD W d := by cases d <;> rfl
theorem vD_put {W : Wd} {a : Addr} {c : Cell} {d : D} (h : d ≠ .ref a) : vD (W.put a c) d = vD W d := by
  cases d with
  | ref b =>
    have : (W.put a c).ω b = W.ω b := Wd.put_ne fun z => h (by rw [z])
    show (match (W.put a c).ω b with
      | some (Cell.lst ds) => some (D.lst ds)
      | some (Cell.dct ks) => some (D.dct ks)
      | some (Cell.lk _ _ ks) => some (D.dct ks)
      | some (Cell.ins C fs) => some (D.obj C fs)
      | some (Cell.dtn _ _ _) => some (D.ref b)
      | none => some (D.ref b)) = _
    rw [this]
    rfl
  | _ => rfl
theorem dd1B_at {ρ : List (Option PC)} {W : Wd} {x d : D} {F : Bx (D → Prop)} (h : vD W x = some d) (k : F.v d) : @dd1B ⟨ρ, W⟩ (.d x) F := by
  unfold dd1B dd1
  rw [vD_eq, h]
  exact k
theorem vD_nref {W : Wd} {a : Addr} {d : D} {ks : List (Key × D)} (h0 : W.ω a = none) (h : vD W d = some (.dct ks)) : d ≠ .ref a := fun z => by
  subst z
  unfold vD derefD at h
  simp only [h0] at h
  cases h
section
variable {α : Type} {g : TDG} {tt : TDT} {te : TDE} {vs : List Nat} {Q : List D → PSt → Prop} {tb : TDS} {E : DEnds} {S : PSt} {b : Addr} {od : Obj} {vk : List (Key × V)} {ks : List (Key × D)}
end
end Kn
set_option Elab.async false
set_option maxRecDepth 100000
set_option linter.all false
set_option autoImplicit false
namespace Kn
open PySem L2
def spLaw (K : PySem.W.Frag) : Sp := fun vs H Q _ => ∃ (a : Addr) (ns : List Int), vs = [.ref a] ∧ SqL K H a (ns.map V.int) ∧ ns.length ≤ 63 ∧ ∀ H', Q (.bl true) H'
def W0 : Wd := ⟨fun _ => False, fun _ => none⟩
theorem Hd.none (H : Hp) : Hd (fun _ => False) H = H := by
  funext b
  unfold Hd
  exact if_neg id
theorem okLaw {P : Program} {w : World} {K : PySem.W.Frag} {mg : Str → Option Value} {base : Heap} {x qual : Str} {st : Stmt} {f : Addr} {fd : FuncData} {N : List Str} {p : Str} {k : Nat} (F : Fun K x qual st f fd) (S : FnScope N [p] (defScope st))
    (hbody : ∀ (cdv : Value) (A : Around) (outer : List Env) (s : Shared) (H : Hp) (E : XK) (e : Ent), Room k (A.deeper (PyProof.Rows.envOfC qual (defScope st) s.heap.objs.size f cdv)) →
      ∃ t td, PSs (cxOf CX0 P w K mg base N qual (defScope st) f cdv A outer s H E).nox (defBody st) t ∧ SimZ K e t td ∧ td ⟨fun _ => False, fun d _ => d = .bl true, fun _ => False, fun _ => False, fun _ _ => False⟩ (S0 N [.scr] e.W)) : FnOk P w K mg base CX0 (k + 1) f fd [p] (spLaw K) := by
  refine F.ok S (fun vs H Q E h => ?_) (fun cdv A outer s H vs Q E hr h => ?_)
  · obtain ⟨a, ns, rfl, _⟩ := h
    rfl
  · obtain ⟨a, ns, rfl, hS, hl, kq⟩ := h
    obtain ⟨t, td, hp, hs, ht⟩ := hbody cdv A outer s H E ⟨fun _ => False, W0, H⟩ hr
    have r : Rw K (fun _ => False) W0 H := ⟨fun _ z => z.elim, fun _ z => z.elim, fun _ _ z => by cases z⟩
    have dv : DvL K W0.Tp (Hd (fun _ => False) H) [.ref a] [.scr] := by
      rw [Hd.none]
      exact .cons (.scr hS hl) .nil
    refine ⟨t, hp, hs.run (start N [.ref a]) H (S0 N [.scr] W0) _ _ ⟨_, RU.start r dv⟩ ht ⟨fun S' σ' H' q _ => q.elim, fun d S' σ' v H' q ⟨U', x'⟩ => ?_, fun _ _ _ q => q.elim, fun _ _ _ q => q.elim, fun _ _ _ _ _ q => q.elim⟩⟩
    have dv' := x'.tmp (.v v (.d d)) (by simp)
    subst q
    cases dv'
    exact kq H'
end Kn
set_option Elab.async false
set_option maxRecDepth 100000
set_option linter.all false
set_option autoImplicit false
namespace Kn
open PySem L2 PyProof.Rows GenW
open Sem (wp)
def isSusp : GenState → Bool
  | .suspended .. => true
  | _ => false
def pois : GenState → GenState
  | .suspended _ l c p fs cl => .suspended (fun _ => .unsupported "") l c p fs cl
  | x => x
theorem pois_seen (x : GenState) : (pois x).seen = x.seen := by cases x <;> rfl
theorem pois_bare (x : GenState) : (pois x).bare = x.bare := by cases x <;> rfl
theorem pois_susp (x : GenState) : isSusp (pois x) = isSusp x := by cases x <;> rfl
def poisS (s : Shared) : Shared := { s with gens := s.gens.map pois }
theorem splitGen_app : ∀ {a b : List Frame}, splitAtGen a = none → splitAtGen b = none → splitAtGen (a ++ b) = none
  | [], b, _, h => h
  | .ret k h g l c p kp :: a, b, h1, h2 => by
    have h1 : (splitAtGen a).map (fun x => (Frame.ret k h g l c p kp :: x.1, x.2.1, x.2.2)) = none := h1
    have : splitAtGen a = none := by
      cases q : splitAtGen a with
      | none => rfl
      | some x => rw [q] at h1; cases h1
    show (splitAtGen (a ++ b)).map _ = none
    rw [splitGen_app this h2]
    rfl
  | .gen g k l c p :: a, b, h1, _ => by cases h1
theorem splitGen_tl {k : Result → Sem PySem.Fin} {h : Option Value} {g : Bool} {l kp : List Value} {c : Code} {p : Pos} {fs : List Frame} (e : splitAtGen (.ret k h g l c p kp :: fs) = none) : splitAtGen fs = none := by
  have e : (splitAtGen fs).map (fun x => (Frame.ret k h g l c p kp :: x.1, x.2.1, x.2.2)) = none := e
  cases q : splitAtGen fs with
  | none => rfl
  | some x => rw [q] at e; cases e
theorem runs_dumb {M : Model} {Γ : Ctx} {p : Pos} {w : String} {fs : List Frame} {s s' : Shared} {e : End} (h : Runs M Γ p (.unsupported w) fs s e s') : False := by
  generalize ht : (Sem.unsupported w : Sem PySem.Fin) = t at h
  induction h <;> first | (cases ht; done) | (rename_i ih _; exact ih ht) | (rename_i ih; exact ih ht) | (rename_i ih _ _; exact ih ht) | skip
  all_goals (first | (rename_i a b; exact a ht) | (rename_i a b c; exact a ht) | (rename_i a b c d; exact a ht))
def Sl (G : Array GenState) (i : Nat) : Prop := ∃ x, G[i]? = some x ∧ isSusp x = true
structure Rel (G : Array GenState) (s2 s : Shared) : Prop where
  gsz : G.size ≤ s2.gens.size
  eq : s = { s2 with gens := s.gens }
  sz : s2.gens.size = s.gens.size
  old : ∀ (i : Nat) (x : GenState), G[i]? = some x → isSusp x = true → s2.gens[i]? = some (pois x) ∧ s.gens[i]? = some x
  new : ∀ (i : Nat), ¬ Sl G i → s2.gens[i]? = s.gens[i]?
  ok : ∀ (i : Nat) k l c p fs cl, s2.gens[i]? = some (.suspended k l c p fs cl) → Sl G i ∨ splitAtGen fs = none
theorem Rel.init (s : Shared) : Rel s.gens (poisS s) s where
  gsz := by simp [poisS]
  eq := rfl
  sz := by simp [poisS]
  old := fun i x h hs => ⟨by simp [poisS, h], h⟩
  new := fun i h => by
    show (s.gens.map pois)[i]? = _
    rw [Array.getElem?_map]
    cases q : s.gens[i]? with
    | none => rfl
    | some x =>
      have : isSusp x = false := by
        cases e : isSusp x with
        | false => rfl
        | true => exact (h ⟨x, q, e⟩).elim
      cases x <;> first | rfl | (cases this)
  ok := fun i k l c p fs cl h => by
    refine .inl ?_
    have h : (s.gens.map pois)[i]? = _ := h
    rw [Array.getElem?_map] at h
    cases q : s.gens[i]? with
    | none => rw [q] at h; cases h
    | some x =>
      rw [q] at h
      have h : pois x = .suspended k l c p fs cl := Option.some.inj h
      refine ⟨x, q, ?_⟩
      rw [← pois_susp, h]
      rfl
section
variable {G : Array GenState} {s2 s : Shared}
theorem Rel.heap (r : Rel G s2 s) : s.heap = s2.heap := by rw [r.eq]
theorem Rel.toks (r : Rel G s2 s) : s.toks = s2.toks := by rw [r.eq]
theorem Rel.drawn (r : Rel G s2 s) : s.drawn = s2.drawn := by rw [r.eq]
theorem Rel.os (r : Rel G s2 s) : s.os = s2.os := by rw [r.eq]
theorem Rel.seenG (r : Rel G s2 s) {g : Nat} {st : GenState} (h : s2.gens[g]? = some st) : ∃ x, s.gens[g]? = some x ∧ x.seen = st.seen := by
  by_cases c : Sl G g
  · obtain ⟨x, hx, hs⟩ := c
    obtain ⟨a, b⟩ := r.old g x hx hs
    rw [h] at a
    cases a
    exact ⟨x, b, (pois_seen x).symm⟩
  · rw [r.new g c] at h
    exact ⟨st, h, rfl⟩
theorem Rel.awake (r : Rel G s2 s) {g : Nat} {st : GenState} (h : s2.gens[g]? = some st) (hn : isSusp st = false) : s.gens[g]? = some st ∧ ¬ Sl G g := by
  have n : ¬ Sl G g := fun ⟨x, hx, hs⟩ => by
    obtain ⟨a, _⟩ := r.old g x hx hs
    rw [h] at a
    cases a
    rw [pois_susp, hs] at hn
    cases hn
  exact ⟨by rw [← r.new g n]; exact h, n⟩
theorem Rel.set (r : Rel G s2 s) {g : Nat} {x : GenState} (n : ¬ Sl G g) (hx : ∀ k l c p fs cl, x = .suspended k l c p fs cl → splitAtGen fs = none) : Rel G (s2.setGen g x) (s.setGen g x) where
  gsz := by rw [setGen_size]; exact r.gsz
  eq := by
    rw [r.eq]
    rfl
  sz := by rw [setGen_size, setGen_size]; exact r.sz
  old := fun i y hi hs => by
    have ne : g ≠ i := fun e => n (e ▸ ⟨y, hi, hs⟩)
    obtain ⟨a, b⟩ := r.old i y hi hs
    exact ⟨(Array.getElem?_setIfInBounds_ne ne).trans a, (Array.getElem?_setIfInBounds_ne ne).trans b⟩
  new := fun i hi => by
    show (s2.gens.setIfInBounds g x)[i]? = (s.gens.setIfInBounds g x)[i]?
    rw [Array.getElem?_setIfInBounds, Array.getElem?_setIfInBounds, r.sz, r.new i hi]
  ok := fun i k l c p fs cl h => by
    have h : (s2.gens.setIfInBounds g x)[i]? = _ := h
    by_cases e : g = i
    · rw [Array.getElem?_setIfInBounds, if_pos e] at h
      split at h
      · exact .inr (hx _ _ _ _ _ _ (Option.some.inj h))
      · cases h
    · rw [Array.getElem?_setIfInBounds_ne e] at h
      exact r.ok i k l c p fs cl h
theorem Rel.push (r : Rel G s2 s) (c : Code) : Rel G { s2 with gens := s2.gens.push (.fresh c) } { s with gens := s.gens.push (.fresh c) } where
  gsz := by show G.size ≤ (s2.gens.push _).size; rw [Array.size_push]; have := r.gsz; omega
  eq := by
    rw [r.eq]
  sz := by show (s2.gens.push _).size = (s.gens.push _).size; rw [Array.size_push, Array.size_push, r.sz]
  old := fun i y hi hs => by
    obtain ⟨a, b⟩ := r.old i y hi hs
    have h1 : i < s2.gens.size := (Array.getElem?_eq_some_iff.mp a).1
    have h2 : i < s.gens.size := (Array.getElem?_eq_some_iff.mp b).1
    refine ⟨?_, ?_⟩
    · show (s2.gens.push _)[i]? = _
      rw [Array.getElem?_push, if_neg (by omega)]; exact a
    · show (s.gens.push _)[i]? = _
      rw [Array.getElem?_push, if_neg (by omega)]; exact b
  new := fun i hi => by
    show (s2.gens.push _)[i]? = (s.gens.push _)[i]?
    rw [Array.getElem?_push, Array.getElem?_push, r.sz, r.new i hi]
  ok := fun i k l c' p fs cl h => by
    have h : (s2.gens.push _)[i]? = _ := h
    rw [Array.getElem?_push] at h
    split at h
    · cases h
    · exact r.ok i k l c' p fs cl h
theorem Rel.toksU (r : Rel G s2 s) : Rel G { s2 with toks := s2.toks + 1 } { s with toks := s2.toks + 1 } := ⟨r.gsz, by rw [r.eq], r.sz, r.old, r.new, r.ok⟩
theorem Rel.drawnU (r : Rel G s2 s) (src : Source) : Rel G { s2 with drawn := s2.drawn.bump src } { s with drawn := s2.drawn.bump src } := ⟨r.gsz, by rw [r.eq], r.sz, r.old, r.new, r.ok⟩
theorem Rel.osU (r : Rel G s2 s) (q : OsRequest) : Rel G { s2 with os := (Os.step s2.os q).1 } { s with os := (Os.step s2.os q).1 } := ⟨r.gsz, by rw [r.eq], r.sz, r.old, r.new, r.ok⟩
theorem Rel.upd (r : Rel G s2 s) {h' : Heap} : Rel G { s2 with heap := h' } { s with heap := h' } := ⟨r.gsz, by rw [r.eq], r.sz, r.old, r.new, r.ok⟩
end
def End.clean : End → Prop
  | .susp _ _ _ _ _ _ fs => splitAtGen fs = none
  | .ret _ => True
theorem End.clean_st {e : End} (h : End.clean e) : ∀ k l c p fs cl, e.genState = .suspended k l c p fs cl → splitAtGen fs = none := fun k l c p fs cl q => by
  cases e with
  | ret r => cases q
  | susp v g l' k' c' p' fs' => cases q; exact h
theorem runs_keep {G : Array GenState} {M : Model} {Γ : Ctx} {p : Pos} {t : Sem PySem.Fin} {fs : List Frame} {s2 s2' : Shared} {e : End} (h : Runs M Γ p t fs s2 e s2') :
    splitAtGen fs = none → ∀ s, Rel G s2 s → ∃ s', Runs M Γ p t fs s e s' ∧ Rel G s2' s' ∧ End.clean e := by
  induction h with
  | done => intro _ s r; exact ⟨s, .done, r, trivial⟩
  | raise => intro _ s r; exact ⟨s, .raise, r, trivial⟩
  | again hq _ ih => intro hf s r; obtain ⟨s', a, b⟩ := ih hf s r; exact ⟨s', .again hq a, b⟩
  | rule _ ih => intro hf s r; obtain ⟨s', a, b⟩ := ih hf s r; exact ⟨s', .rule a, b⟩
  | «at» _ ih => intro hf s r; obtain ⟨s', a, b⟩ := ih hf s r; exact ⟨s', .at a, b⟩
  | load ho _ ih => intro hf s r; obtain ⟨s', a, b⟩ := ih hf s r; exact ⟨s', .load (by rw [r.heap]; exact ho) a, b⟩
  | update ho _ ih =>
    intro hf s r
    obtain ⟨s', a, b⟩ := ih hf _ r.upd
    refine ⟨s', .update (by rw [r.heap]; exact ho) ?_, b⟩
    rw [r.heap]
    exact a
  | loadIfAlive _ ih => intro hf s r; obtain ⟨s', a, b⟩ := ih hf s r; exact ⟨s', .loadIfAlive (by rw [r.heap]; exact a), b⟩
  | point _ ih => intro hf s r; obtain ⟨s', a, b⟩ := ih hf s r; exact ⟨s', .point a, b⟩
  | alloc _ ih =>
    intro hf s r
    obtain ⟨s', a, b⟩ := ih hf _ r.upd
    refine ⟨s', .alloc ?_, b⟩
    rw [r.heap]
    exact a
  | fresh _ ih =>
    intro hf s r
    obtain ⟨s', a, b⟩ := ih hf _ r.toksU
    refine ⟨s', .fresh ?_, b⟩
    rw [r.toks]
    exact a
  | ask _ ih => intro hf s r; obtain ⟨s', a, b⟩ := ih hf s r; exact ⟨s', .ask a, b⟩
  | choose hn _ ih =>
    intro hf s r
    obtain ⟨s', a, b⟩ := ih hf _ (r.drawnU _)
    refine ⟨s', .choose hn ?_, b⟩
    rw [r.drawn]
    exact a
  | os _ ih =>
    intro hf s r
    obtain ⟨s', a, b⟩ := ih hf _ (r.osU _)
    refine ⟨s', .os ?_, b⟩
    rw [r.os]
    exact a
  | handled _ ih => intro hf s r; obtain ⟨s', a, b⟩ := ih hf s r; exact ⟨s', .handled a, b⟩
  | genState hg _ ih =>
    intro hf s r
    obtain ⟨x, hx, hs⟩ := r.seenG hg
    obtain ⟨s', a, b⟩ := ih hf s r
    exact ⟨s', .genState hx (by rw [hs]; exact a), b⟩
  | stack _ ih => intro hf s r; obtain ⟨s', a, b⟩ := ih hf s r; exact ⟨s', .stack a, b⟩
  | thread _ ih => intro hf s r; obtain ⟨s', a, b⟩ := ih hf s r; exact ⟨s', .thread a, b⟩
  | newGen _ ih =>
    intro hf s r
    obtain ⟨s', a, b⟩ := ih hf _ (r.push _)
    exact ⟨s', .newGen (by rw [← r.sz]; exact a), b⟩
  | call _ _ ih1 ih2 =>
    intro hf s r
    obtain ⟨s1, a1, b1, _⟩ := ih1 rfl s r
    obtain ⟨s', a, b⟩ := ih2 hf s1 b1
    exact ⟨s', .call a1 a, b⟩
  | callSusp _ ih =>
    intro hf s r
    obtain ⟨s1, a1, b1, c1⟩ := ih rfl s r
    exact ⟨s1, .callSusp a1, b1, splitGen_app c1 rfl⟩
  | yield => intro hf s r; exact ⟨s, .yield, r, rfl⟩
  | resumeFresh hg _ hq _ ih1 ih2 =>
    intro hf s r
    obtain ⟨hx, n⟩ := r.awake hg rfl
    obtain ⟨s1, a1, b1, c1⟩ := ih1 rfl _ (r.set (x := .running) n fun _ _ _ _ _ _ q => by cases q)
    obtain ⟨s', a, b⟩ := ih2 hf _ (b1.set n (End.clean_st c1))
    exact ⟨s', .resumeFresh hx a1 hq a, b⟩
  | @resumeSuspended Γ p g x l k s3 k₀ l₀ c₀ p₀ fs cl e₁ s₁ e s3' hg hr hq _ ih1 ih2 =>
    intro hf s r
    by_cases n : Sl G g
    · obtain ⟨x, hx, hs⟩ := n
      obtain ⟨a, _⟩ := r.old g x hx hs
      rw [hg] at a
      have a := Option.some.inj a
      cases x with
      | suspended k l c p fs' cl =>
        cases a
        exact (runs_dumb hr).elim
      | _ => cases hs
    · have hfs : splitAtGen fs = none := (r.ok _ _ _ _ _ _ _ hg).resolve_left n
      obtain ⟨s1, a1, b1, c1⟩ := ih1 hfs _ (r.set (x := .running) n fun _ _ _ _ _ _ q => by cases q)
      obtain ⟨s', a, b⟩ := ih2 hf _ (b1.set n (End.clean_st c1))
      exact ⟨s', .resumeSuspended (by rw [← r.new g n]; exact hg) a1 hq a, b⟩
  | resumeJustStarted hg hv _ ih =>
    intro hf s r
    obtain ⟨hx, n⟩ := r.awake hg rfl
    obtain ⟨s', a, b⟩ := ih hf s r
    exact ⟨s', .resumeJustStarted hx hv a, b⟩
  | resumeThrowFresh hg _ ih =>
    intro hf s r
    obtain ⟨hx, n⟩ := r.awake hg rfl
    obtain ⟨s', a, b⟩ := ih hf _ (r.set (x := .finished) n fun _ _ _ _ _ _ q => by cases q)
    exact ⟨s', .resumeThrowFresh hx a, b⟩
  | resumeRunning hg _ ih =>
    intro hf s r
    obtain ⟨hx, n⟩ := r.awake hg rfl
    obtain ⟨s', a, b⟩ := ih hf s r
    exact ⟨s', .resumeRunning hx a, b⟩
  | resumeFinished hg _ ih =>
    intro hf s r
    obtain ⟨hx, n⟩ := r.awake hg rfl
    obtain ⟨s', a, b⟩ := ih hf s r
    exact ⟨s', .resumeFinished hx a, b⟩
  | segRet _ _ ih1 ih2 =>
    intro hf s r
    obtain ⟨s1, a1, b1, _⟩ := ih1 rfl s r
    obtain ⟨s', a, b⟩ := ih2 (splitGen_tl hf) s1 b1
    exact ⟨s', .segRet a1 a, b⟩
  | segGen _ _ _ _ => intro hf s r; cases hf
  | segSuspOut hs _ ih =>
    intro hf s r
    obtain ⟨s1, a1, b1, c1⟩ := ih rfl s r
    exact ⟨s1, .segSuspOut hs a1, b1, splitGen_app c1 hf⟩
  | segSuspGen hs _ _ _ _ _ => intro hf s r; rw [hf] at hs; cases hs
theorem wp_keep {α : Type} {G : Array GenState} (M : Model) (Γ : Ctx) (t : Sem α) : ∀ (Q : α → Pos → Shared → Prop) (E : Value → Pos → Shared → Prop) (p : Pos) (s2 s : Shared), Rel G s2 s → wp M Γ t Q E p s2 →
    wp M Γ t (fun a p' s' => ∃ s2', Rel G s2' s' ∧ Q a p' s2') (fun e p' s' => ∃ s2', Rel G s2' s' ∧ E e p' s2') p s := by
  induction t with
  | pure a => intro Q E p s2 s r h; exact ⟨s2, r, h⟩
  | raise e => intro Q E p s2 s r h; exact ⟨s2, r, h⟩
  | unsupported _ => intro Q E p s2 s r h; exact h
  | finish _ => intro Q E p s2 s r h; exact h
  | rule _ k ih => intro Q E p s2 s r h; exact ih () Q E p s2 s r h
  | «at» p' k ih => intro Q E p s2 s r h; exact ih () Q E p' s2 s r h
  | load a _ k ih => intro Q E p s2 s r h; obtain ⟨o, ho, h⟩ := h; exact ⟨o, by rw [r.heap]; exact ho, ih o Q E p s2 s r h⟩
  | update a _ f k ih =>
    intro Q E p s2 s r h
    refine ⟨by rw [r.heap]; exact h.1, ?_⟩
    rw [r.heap]
    exact ih () Q E p _ _ r.upd h.2
  | loadIfAlive a k ih =>
    intro Q E p s2 s r h
    have h : wp M Γ (k (s2.heap.get? a)) Q E p s2 := h
    show wp M Γ (k (s.heap.get? a)) _ _ p s
    rw [r.heap]
    exact ih _ Q E p s2 s r h
  | point _ k ih => intro Q E p s2 s r h; exact ih () Q E p s2 s r h
  | register _ _ => intro Q E p s2 s r h; exact h
  | alloc o k ih =>
    intro Q E p s2 s r h
    have h : wp M Γ (k s2.heap.objs.size) Q E p { s2 with heap := s2.heap.push o } := h
    show wp M Γ (k s.heap.objs.size) _ _ p { s with heap := s.heap.push o }
    rw [r.heap]
    exact ih _ Q E p _ _ r.upd h
  | fresh k ih =>
    intro Q E p s2 s r h
    have h : wp M Γ (k s2.toks) Q E p { s2 with toks := s2.toks + 1 } := h
    show wp M Γ (k s.toks) _ _ p { s with toks := s.toks + 1 }
    rw [r.toks]
    exact ih _ Q E p _ _ r.toksU h
  | ask k ih => intro Q E p s2 s r h; exact ih _ Q E p s2 s r h
  | choose src m k ih =>
    intro Q E p s2 s r h
    refine ⟨h.1, ?_⟩
    have h := h.2
    rw [r.drawn]
    exact ih _ Q E p _ _ (r.drawnU _) h
  | os q _ k ih =>
    intro Q E p s2 s r h
    have h : wp M Γ (k (Os.step s2.os q).2) Q E p { s2 with os := (Os.step s2.os q).1 } := h
    show wp M Γ (k (Os.step s.os q).2) _ _ p { s with os := (Os.step s.os q).1 }
    rw [r.os]
    exact ih _ Q E p _ _ (r.osU _) h
  | call c hd _ _ k ih =>
    intro Q E p s2 s r h
    obtain ⟨x, s2', hr, h⟩ := h
    obtain ⟨s', a, b, _⟩ := runs_keep hr rfl s r
    exact ⟨x, s', a, ih x Q E p s2' s' b h⟩
  | handled own k ih => intro Q E p s2 s r h; exact ih _ Q E p s2 s r h
  | genState g k ih =>
    intro Q E p s2 s r h
    obtain ⟨st, hs, h⟩ := h
    obtain ⟨x, hx, hq⟩ := r.seenG hs
    exact ⟨x, hx, by rw [hq]; exact ih _ Q E p s2 s r h⟩
  | newGen c k ih =>
    intro Q E p s2 s r h
    have h : wp M Γ (k s2.gens.size) Q E p { s2 with gens := s2.gens.push (.fresh c) } := h
    show wp M Γ (k s.gens.size) _ _ p { s with gens := s.gens.push (.fresh c) }
    rw [← r.sz]
    exact ih _ Q E p _ _ (r.push c) h
  | resume g x _ k ih =>
    intro Q E p s2 s r h
    obtain ⟨res, s2', hw, h⟩ := h
    suffices hh : ∃ s', Wakes M Γ p g x s res s' ∧ Rel G s2' s' by
      obtain ⟨s', a, b⟩ := hh
      exact ⟨res, s', a, ih res Q E p s2' s' b h⟩
    unfold Wakes at hw ⊢
    cases hg : s2.gens[g]? with
    | none => rw [hg] at hw; exact hw.elim
    | some st =>
      rw [hg] at hw
      cases st with
      | fresh c =>
        obtain ⟨hx, n⟩ := r.awake hg rfl
        rw [hx]
        cases x with
        | send v =>
          cases v with
          | none =>
            obtain ⟨e₁, s₁, hr, hq, rfl, rfl⟩ := hw
            obtain ⟨s1, a1, b1, c1⟩ := runs_keep hr rfl _ (r.set (x := .running) n fun _ _ _ _ _ _ q => by cases q)
            exact ⟨_, ⟨e₁, s1, a1, hq, rfl, rfl⟩, b1.set n (End.clean_st c1)⟩
          | _ => exact ⟨s, ⟨hw.1, rfl⟩, by rw [hw.2]; exact r⟩
        | throw v => exact ⟨_, ⟨hw.1, rfl⟩, by rw [hw.2]; exact r.set (x := .finished) n fun _ _ _ _ _ _ q => by cases q⟩
      | suspended k₀ l₀ c₀ p₀ fs cl =>
        by_cases n : Sl G g
        · obtain ⟨y, hy, hs⟩ := n
          obtain ⟨a, _⟩ := r.old g y hy hs
          rw [hg] at a
          have a := Option.some.inj a
          cases y with
          | suspended k l c p fs' cl' =>
            cases a
            obtain ⟨e₁, s₁, hr, _⟩ := hw
            exact (runs_dumb hr).elim
          | _ => cases hs
        · have hfs : splitAtGen fs = none := (r.ok _ _ _ _ _ _ _ hg).resolve_left n
          rw [← r.new g n, hg]
          obtain ⟨e₁, s₁, hr, hq, rfl, rfl⟩ := hw
          obtain ⟨s1, a1, b1, c1⟩ := runs_keep hr hfs _ (r.set (x := .running) n fun _ _ _ _ _ _ q => by cases q)
          exact ⟨_, ⟨e₁, s1, a1, hq, rfl, rfl⟩, b1.set n (End.clean_st c1)⟩
      | running =>
        obtain ⟨hx, n⟩ := r.awake hg rfl
        rw [hx]
        exact ⟨s, ⟨hw.1, rfl⟩, by rw [hw.2]; exact r⟩
      | finished =>
        obtain ⟨hx, n⟩ := r.awake hg rfl
        rw [hx]
        exact ⟨s, ⟨hw.1, rfl⟩, by rw [hw.2]; exact r⟩
  | yield _ _ _ _ => intro Q E p s2 s r h; exact h
  | stack k ih => intro Q E p s2 s r h; exact ih _ Q E p s2 s r h
  | fork _ _ => intro Q E p s2 s r h; exact h
  | thread k ih => intro Q E p s2 s r h; exact ih _ Q E p s2 s r h
  | await _ _ _ _ _ => intro Q E p s2 s r h; exact h
theorem wpAny_keep {α : Type} {M : Model} {A : Around} {s : Shared} {t : Sem α} {Q Q' : α → Shared → Prop} {E E' : Value → Shared → Prop}
    (h : wpAny M A t Q E (poisS s)) (hQ : ∀ a s2' s', Rel s.gens s2' s' → Q a s2' → Q' a s') (hE : ∀ a s2' s', Rel s.gens s2' s' → E a s2' → E' a s') : wpAny M A t Q' E' s :=
  wpAny_mono (fun Γ p hΓ => wp_keep M Γ t _ _ p _ s (Rel.init s) (h Γ p hΓ) : wpAny M A t (fun a s' => ∃ s2', Rel s.gens s2' s' ∧ Q a s2') (fun a s' => ∃ s2', Rel s.gens s2' s' ∧ E a s2') s)
    (fun a s' ⟨s2', r, q⟩ => hQ a s2' s' r q) fun a s' ⟨s2', r, q⟩ => hE a s2' s' r q
theorem Rel.bare {G : Array GenState} {s2 s : Shared} (r : Rel G s2 s) (hb : AllBare s2.gens) : AllBare s.gens := fun y hy => by
  obtain ⟨i, hi, e⟩ := Array.mem_iff_getElem.mp hy
  have q : s.gens[i]? = some y := by rw [Array.getElem?_eq_getElem hi, e]
  by_cases n : Sl G i
  · obtain ⟨x, hx, hs⟩ := n
    obtain ⟨a, b⟩ := r.old i x hx hs
    rw [q] at b
    cases b
    rw [← pois_bare]
    exact hb _ (Array.mem_of_getElem? a)
  · rw [← r.new i n] at q
    exact hb _ (Array.mem_of_getElem? q)
theorem poisS_bare {s : Shared} (h : AllBare s.gens) : AllBare (poisS s).gens := fun y hy => by
  obtain ⟨x, hx, rfl⟩ := Array.mem_map.mp hy
  rw [pois_bare]
  exact h x hx
end Kn
set_option Elab.async false
set_option maxRecDepth 100000
set_option linter.all false
set_option autoImplicit false
namespace Kn
open PySem L2 PyProof.Rows GenW
def SegX (M : Model) (A : Around) (c : Code) (t : Sem PySem.Fin) (fs : List Frame) (s : Shared) (Φ : End → Shared → Prop) : Prop :=
  ∀ (Γ : PySem.Ctx) (p : Pos), Γ.code = c → Γ.Woken A → ∃ e s', Runs M Γ p t fs s e s' ∧ Φ e s'
section
variable {M : Model} {A : Around} {c : Code} {fs : List Frame} {s : Shared} {Φ Φ' : End → Shared → Prop} {t : Sem PySem.Fin}
theorem SegX.mono (h : SegX M A c t fs s Φ) (k : ∀ e s', Φ e s' → Φ' e s') : SegX M A c t fs s Φ' := fun Γ p h1 h2 =>
  let ⟨e, s', a, b⟩ := h Γ p h1 h2
  ⟨e, s', a, k _ _ b⟩
theorem segx_wrap {α : Type} {m : Sem α} {K : α → Sem PySem.Fin} {H : Value → Sem PySem.Fin} {gd : Bool → Bool} {lv : List Value → List Value}
    (h : wpAny M (A.over c fs) m (fun a s' => SegX M A c (K a) fs s' Φ) (fun x s' => SegX M A c (H x) fs s' Φ) s) : SegX M A c (m.wrap K H gd lv) fs s Φ := by
  rintro Γ p rfl hΓ
  exact runs_wrap_of_wp K H gd lv m (h (Γ.over fs) p (hΓ.over fs)) (fun a p' s' h' => h' Γ p' rfl hΓ) (fun x p' s' h' => h' Γ p' rfl hΓ)
theorem segx_bind_wrap {α β : Type} {m : Sem α} {f : α → Sem β} {K : β → Sem PySem.Fin} {H : Value → Sem PySem.Fin} {gd : Bool → Bool} {lv : List Value → List Value}
    (h : wpAny M (A.over c fs) m (fun a s' => SegX M A c ((f a).wrap K H gd lv) fs s' Φ) (fun x s' => SegX M A c (H x) fs s' Φ) s) : SegX M A c ((m >>= f).wrap K H gd lv) fs s Φ := by
  rw [Sem.bind_eq_wrap', Sem.wrap_wrap]; exact segx_wrap h
theorem segx_at {p' : Pos} {k : Unit → Sem PySem.Fin} (h : SegX M A c (k ()) fs s Φ) : SegX M A c (.at p' k) fs s Φ :=
  segx_wrap (m := standAt p') (K := k) (H := .raise) (gd := id) (lv := id) (wpAny_standAt h)
theorem segx_point {l : List Value} {k : Unit → Sem PySem.Fin} (h : SegX M A c (k ()) fs s Φ) : SegX M A c (.point l k) fs s Φ :=
  segx_wrap (m := point) (K := k) (H := .raise) (gd := id) (lv := fun _ => l) (wpAny_point h)
theorem segx_call {c' : Code} {h : Option Value} {g : Bool} {l : List Value} {k : Result → Sem PySem.Fin} (hc : ∀ p, SegX M A c' (M.den c') (.ret k h g l c p [] :: fs) s Φ) : SegX M A c (.call c' h g l k) fs s Φ := by
  rintro Γ p rfl hΓ
  obtain ⟨e, s', hr, he⟩ := hc p (Γ.goto c') p rfl (hΓ.goto c')
  exact ⟨e, s', runs_call_seg hr, he⟩
theorem segx_leaf {k : Result → Sem PySem.Fin} {h : Option Value} {g : Bool} {l kp : List Value} {c₁ : Code} {p₁ : Pos} (r : Result) (hk : SegX M A c₁ (k r) fs s Φ) : SegX M A c (leafOf r) (.ret k h g l c₁ p₁ kp :: fs) s Φ := by
  rintro Γ p rfl hΓ
  obtain ⟨e, s', hr, he⟩ := hk (Γ.goto c₁) p₁ rfl (hΓ.goto c₁)
  exact ⟨e, s', Runs.pop r hr, he⟩
theorem segx_again {c' : Code} (hq : c'.quiet = true) (hc : SegX M A c' (M.den c') fs s Φ) : SegX M A c (.pure (.again c')) fs s Φ := by
  rintro Γ p rfl hΓ
  obtain ⟨e, s', hr, he⟩ := hc (Γ.goto c') p rfl (hΓ.goto c')
  exact ⟨e, s', Runs.head (c₁ := c') (fun _ _ x => .again hq x) hr, he⟩
theorem segx_end (r : Result) (h : Φ (.ret r) s) : SegX M A c (leafOf r) [] s Φ := by
  rintro Γ p rfl _
  exact ⟨.ret r, s, Runs.leaf r, h⟩
theorem segx_yield {v : Value} {g : Bool} {l : List Value} {k : Resume → Sem PySem.Fin} (hfs : splitAtGen fs = none) (h : ∀ p, Φ (.susp v g l k c p fs) s) : SegX M A c (.yield v g l k) fs s Φ := by
  rintro Γ p rfl _
  exact ⟨_, s, Runs.yield' fs hfs, h p⟩
def GoesX (M : Model) (A : Around) (gs : GenState) (r : Resume) (s : Shared) (Φ : End → Shared → Prop) : Prop :=
  match gs with
  | .fresh c => r = .send .none ∧ SegX M A c (M.den c) [] s Φ
  | .suspended k _ c _ fs _ => SegX M A c (k r) fs s Φ
  | _ => False
theorem GoesX.mono {gs : GenState} {r : Resume} (h : GoesX M A gs r s Φ) (k : ∀ e s', Φ e s' → Φ' e s') : GoesX M A gs r s Φ' := by
  cases gs with
  | fresh c => exact ⟨h.1, SegX.mono h.2 k⟩
  | suspended k' l c p fs cl => exact SegX.mono (show SegX _ _ _ _ _ _ _ from h) k
  | _ => exact h
theorem wpAny_resumeX {E : Value → Shared → Prop} {g : Nat} {gs : GenState} {r : Resume} {l : List Value} {α : Type} {k : GenResult → Sem α} {Q : α → Shared → Prop} (hg : s.gens[g]? = some gs)
    (hgo : GoesX M A gs r (s.setGen g .running) Φ) (hq : ∀ e s₁, Φ e s₁ → e.quiet = true) (hR : ∀ e s₁, Φ e s₁ → wpAny M A (k e.result) Q E (s₁.setGen g e.genState)) : wpAny M A (.resume g r l k) Q E s := by
  intro Γ p hΓ
  rw [Sem.wp_resume]
  have hB : ∀ c, (Γ.wake c p).Woken A := fun c => hΓ.wake c p
  cases gs with
  | fresh c =>
    obtain ⟨rfl, hs⟩ := hgo
    obtain ⟨e₁, s₁, hr, he⟩ := hs (Γ.wake c p) p rfl (hB c)
    exact ⟨_, _, by unfold Wakes; rw [hg]; exact ⟨e₁, s₁, hr, hq e₁ s₁ he, rfl, rfl⟩, hR e₁ s₁ he Γ p hΓ⟩
  | suspended k₀ l₀ c₀ p₀ fs₀ cl =>
    obtain ⟨e₁, s₁, hr, he⟩ := hgo (Γ.wake c₀ p) p₀ rfl (hB c₀)
    exact ⟨_, _, by unfold Wakes; rw [hg]; exact ⟨e₁, s₁, hr, hq e₁ s₁ he, rfl, rfl⟩, hR e₁ s₁ he Γ p hΓ⟩
  | running => exact hgo.elim
  | finished => exact hgo.elim
end
section
variable {P : Program} {w : World} {A : Around} {E : Value → Shared → Prop} {s : Shared}
theorem next_genX {a : Addr} {g : Nat} {gs : GenState} {Φ : End → Shared → Prop} {Q : Option Value → Shared → Prop} (hh : A.handled = none)
    (hl : s.heap.NoLimit) (hroom : A.depth < recursionLimit) (hg : s.heap.IsGen a g) (hgs : s.gens[g]? = some gs)
    (hgo : GoesX (model P w) A.in1 gs (.send .none) (s.setGen g .running) Φ) (hq : ∀ e s₁, Φ e s₁ → e.quiet = true)
    (hY : ∀ v g₀ l k c p fs s₁, Φ (.susp v g₀ l k c p fs) s₁ → Q (some v) (s₁.setGen g (End.susp v g₀ l k c p fs).genState))
    (hP : ∀ r s₁, Φ (.ret r) s₁ → (r = .ok (.ret .none) ∨ r = .ok .next) ∧ ∀ h', (∀ b o, s₁.heap.get? b = some o → h'.get? b = some o) → Q none { s₁.setGen g .finished with heap := h' }) :
    wpAny (model P w) A (pyNext (.ref a)) Q E s := by
  unfold pyNext
  refine wpAny_bind (wpAny_attempt (wpAny_callSpecial?_slot (name := Str.ofString "__next__") hg.typeIs slot_gen_next
    (wpAny_call_entry slot_gen_next hg.typeIs entry_gen_next ?_ (args_gen_next _))))
  show wpAny _ A.in1 (Builtin.Generator.genWake (.ref a) (.send .none)) _ _ s
  unfold Builtin.Generator.genWake
  refine wpAny_bind (wpAny_holding (wpAny_genNumber hg (wpAny_bind (wpAny_genState hgs ?_))))
  cases gs with
  | running => exact hgo.elim
  | finished => exact hgo.elim
  | _ =>
    refine wpAny_bind (wpAny_roomToWake hl hroom ?_)
    show wpAny _ A.in1 (.resume g (.send .none) [] _) _ _ s
    refine wpAny_resumeX hgs hgo hq (fun e s₁ hx => ?_)
    cases e with
    | ret x =>
      obtain ⟨hr, hp⟩ := hP x s₁ hx
      have hres : End.result (.ret x) = .returned .none := by
        rcases hr with hr | hr <;> rw [hr] <;> rfl
      first | rw [hres] | simp only [hres]
      show wpAny _ A.in1 (newExc (.type "StopIteration") [] >>= _) _ _ _
      refine wpAny_bind ?_
      simp only [newExc, newTuple]
      refine wpAny_bind (wpAny_newObj_type ?_ (by size_fits))
      refine wpAny_bind (m := firstArgMember _ _) (wpAny_of_eq (a := Value.none) (by first | rfl | (simp only [firstArgMember]; rfl)) ?_)
      refine wpAny_newObj_type ?_ (by size_fits)
      simp only [raiseNew]
      refine wpAny_bind (wpAny_bind (wpAny_handled ?_))
      first | rw [show A.in1.handled = none from hh] | rw [hh]
      refine wpAny_throw ?_
      refine wpAny_bind (wpAny_isInstance (T := "StopIteration") (b := true) ⟨_, Heap.get?_push_size _ rfl, rfl⟩ isSubtype_stop ?_)
      exact wpAny_pure (hp _ fun b o hb => Heap.get?_push_of_some _ (Heap.get?_push_of_some _ hb))
    | susp v g₀ l₀ k₀ c₀ p₀ fs₀ => exact wpAny_pure ⟨v, rfl, wpAny_pure (hY v g₀ l₀ k₀ c₀ p₀ fs₀ s₁ hx)⟩
end
section
variable {M : Model} {A : Around} {c : Code} {fs : List Frame} {s : Shared} {Φ : End → Shared → Prop} {env : Env} {K : Flow → Sem PySem.Fin} {H : Value → Sem PySem.Fin} {gd : Bool → Bool} {lv : List Value → List Value}
theorem segx_execs_nil (h : SegX M A c (K .next) fs s Φ) : SegX M A c ((execs [] env).wrap K H gd lv) fs s Φ := h
theorem segx_execs_cons {st : Stmt} {rest : List Stmt}
    (h : SegX M A c ((exec st env).wrap (fun f => match f with | .next => (execs rest env).wrap K H gd lv | f => K f) H gd lv) fs s Φ) : SegX M A c ((execs (st :: rest) env).wrap K H gd lv) fs s Φ := by rw [execs_cons_wrap]; exact h
theorem segx_Expr_Yield {e : Expr} {ypos pos : Pos} (hfs : splitAtGen fs = none)
    (h : wpAny M (A.over c fs) (eval e env) (fun v s' => ∀ (l : List Value) (k : Resume → Sem PySem.Fin) (p : Pos), (∀ s'' Φ', SegX M A c (K .next) fs s'' Φ' → SegX M A c (k (.send .none)) fs s'' Φ') → Φ (.susp v (gd false) l k c p fs) s')
      (fun x s' => SegX M A c (H x) fs s' Φ) s) (hco : env.scope.isCoroutine = false := by rfl) (hi : interactive env = false := by rfl) :
    SegX M A c ((exec (.Expr (.Yield (some e) ypos) pos) env).wrap K H gd lv) fs s Φ := by
  rw [exec_Expr env _ pos hi rfl]
  show SegX M A c (.at pos fun _ => ((eval e env >>= fun v => (standAt ypos >>= fun _ => yieldOut env v)) >>= fun x =>
    dropValue (.Yield (some e) ypos) pos x).wrap K H gd lv) fs s Φ
  have hy : ∀ v, yieldOut env v = yieldValue v := fun v => by simp only [yieldOut, hco, Bool.false_eq_true, if_false]
  simp only [hy]
  refine segx_at ?_
  rw [Sem.bind_eq_wrap', Sem.bind_eq_wrap', Sem.wrap_wrap, Sem.wrap_wrap]
  refine segx_wrap (wpAny_mono h (fun v s' h' => ?_) fun _ _ x => x)
  refine segx_at (segx_yield hfs fun p => ?_)
  exact h' _ _ p fun s'' Φ' hx => hx
theorem segx_If {test : Expr} {body orelse : List Stmt} {pos : Pos}
    (h : wpAny M (A.over c fs) (isTrue test env (eval test env)) (fun b s' => if b = true then SegX M A c ((execs body env).wrap K H gd lv) fs s' Φ else SegX M A c ((execs orelse env).wrap K H gd lv) fs s' Φ) (fun x s' => SegX M A c (H x) fs s' Φ) s) :
    SegX M A c ((exec (.If test body orelse pos) env).wrap K H gd lv) fs s Φ := by
  refine segx_at ?_
  show SegX M A c ((isTrue test env (eval test env) >>= fun b => if b then execs body env else execs orelse env).wrap K H gd lv) fs s Φ
  refine segx_bind_wrap (wpAny_mono h (fun b s' hb => ?_) fun _ _ x => x)
  cases b with
  | true => rw [if_pos rfl] at hb; exact hb
  | false => rw [if_neg Bool.false_ne_true] at hb; exact hb
def loopFr (env : Env) (K : Flow → Sem PySem.Fin) (H : Value → Sem PySem.Fin) (gd : Bool → Bool) (lv : List Value → List Value) (c : Code) (p : Pos) (l : List Value) (g : Bool) : Frame :=
  .ret (fun r => ((match r with | .ok f => (.pure f : Sem Flow) | .error e => .raise e).onRaise (cameBack env)).wrap K H gd lv) none g l c p []
theorem segx_runOwn {c' : Code} (h : ∀ p, SegX M A c' (M.den c') (loopFr env K H gd lv c p (lv []) (gd false) :: fs) s Φ) : SegX M A c ((runOwn c' env).wrap K H gd lv) fs s Φ := segx_call h
theorem segx_For {target iter : Expr} {body orelse : List Stmt} {pos : Pos}
    (h : wpAny M (A.over c fs) (eval iter env) (fun x s₁ => wpAny M (A.over c fs) (pyIter x) (fun it s₂ => ∀ p, SegX M A (.forLoop target it body orelse env) (M.den (.forLoop target it body orelse env)) (loopFr env K H gd lv c p (lv []) (gd false) :: fs) s₂ Φ)
      (fun x s' => SegX M A c (H x) fs s' Φ) s₁) (fun x s' => SegX M A c (H x) fs s' Φ) s) (hs : ∀ x, foldedSetIterable iter env x = pure x := by intro _; rfl) :
    SegX M A c ((exec (.For target iter body orelse pos) env).wrap K H gd lv) fs s Φ := by
  rw [exec_For]
  refine segx_at ?_
  show SegX M A c ((eval iter env >>= fun x => foldedSetIterable iter env x >>= fun x => standAt iter.pos >>= fun _ => holding [x] (pyIter x) >>= fun it => runOwn (.forLoop target it body orelse env) env).wrap K H gd lv) fs s Φ
  refine segx_bind_wrap (wpAny_mono h (fun x s₁ h₁ => ?_) fun _ _ e => e)
  refine segx_bind_wrap (wpAny_of_eq (hs x) ?_)
  refine segx_at ?_
  show SegX M A c ((holding [x] (pyIter x) >>= fun it => runOwn (.forLoop target it body orelse env) env).wrap K H gd lv) fs s₁ Φ
  refine segx_bind_wrap (wpAny_holding (wpAny_mono h₁ (fun it s₂ h₂ => ?_) fun _ _ e => e))
  exact segx_runOwn h₂
end
def noteX (env : Env) (x : Value) : Sem PySem.Fin := (do noteFrame x env; theTreesLotGoes x : Sem Unit).bind fun _ => .raise x
section
variable {P : Program} {w : World} {A : Around} {fs : List Frame} {s : Shared} {Φ : End → Shared → Prop} {env : Env}
theorem segx_forLoop {target : Expr} {it : Value} {body orelse : List Stmt}
    (h : wpAny (model P w) (A.over (.forLoop target it body orelse env) fs) (pyNext it) (fun r s₁ => match r with
      | none => SegX (model P w) A (.forLoop target it body orelse env) (.pure (.again (.block orelse env))) fs s₁ Φ
      | some v => wpAny (model P w) (A.over (.forLoop target it body orelse env) fs) (letOwnedTupleGo target it v) (fun _ s₁' =>
          wpAny (model P w) (A.over (.forLoop target it body orelse env) fs) (assign target env v) (fun _ s₂ =>
            SegX (model P w) A (.forLoop target it body orelse env) ((execs body env).wrap (fun f => match f with
              | .next | .cont => .pure (.again (.forLoop target it body orelse env))
              | .brk => .pure (.done .next)
              | .ret v => .pure (.done (.ret v))) (noteX env) id id) fs s₂ Φ)
            (fun x s' => SegX (model P w) A (.forLoop target it body orelse env) (noteX env x) fs s' Φ) s₁')
          (fun x s' => SegX (model P w) A (.forLoop target it body orelse env) (noteX env x) fs s' Φ) s₁)
      (fun x s' => SegX (model P w) A (.forLoop target it body orelse env) (noteX env x) fs s' Φ) s) :
    SegX (model P w) A (.forLoop target it body orelse env) ((model P w).den (.forLoop target it body orelse env)) fs s Φ := by
  show SegX _ A _ ((forTurn target it body orelse env).onRaise (fun x => do noteFrame x env; theTreesLotGoes x)) fs s Φ
  rw [Sem.onRaise_eq_wrap]
  unfold forTurn
  refine segx_bind_wrap (wpAny_standAt ?_)
  refine segx_bind_wrap (wpAny_onRaise (wpAny_mono h (fun r s₁ h₁ => ?_) fun _ _ h' => wpAny_standAt h'))
  cases r with
  | none => exact h₁
  | some v =>
    refine segx_bind_wrap (wpAny_mono h₁ (fun _ s₁' h₁' => ?_) fun _ _ h' => h')
    refine segx_bind_wrap (wpAny_mono h₁' (fun _ s₂ h₂ => ?_) fun _ _ h' => h')
    rw [Sem.bind_eq_wrap', Sem.wrap_wrap]
    refine cast ?_ h₂
    congr 1
    exact Sem.wrap_congr _ _ _ (fun f => by cases f <;> rfl) (fun e => rfl)
theorem segx_block0 (h : SegX (model P w) A (.block [] env) (.pure (.done .next)) fs s Φ) : SegX (model P w) A (.block [] env) ((model P w).den (.block [] env)) fs s Φ := h
end
end Kn
set_option Elab.async false
set_option maxRecDepth 100000
set_option linter.all false
set_option autoImplicit false
namespace Kn
open PySem L2 GenW
open PyProof.Rows (AllBare)
def older (s : Shared) (n : Nat) : Shared := { s with heap := { s.heap with objs := s.heap.objs.extract 0 n } }
theorem older_size {s : Shared} {n : Nat} (h : n ≤ s.heap.objs.size) : (older s n).heap.objs.size = n := by
  show (s.heap.objs.extract 0 n).size = n
  rw [Array.size_extract]; omega
theorem older_le {s : Shared} {n : Nat} : (older s n).heap.objs.size ≤ n := by
  show (s.heap.objs.extract 0 n).size ≤ n
  rw [Array.size_extract]; omega
theorem older_get {s : Shared} {n b : Nat} (h : b < n) : (older s n).heap.get? b = s.heap.get? b := by
  have e : (s.heap.objs.extract 0 n)[b]? = s.heap.objs[b]? := by
    rw [Array.getElem?_extract]
    by_cases c : b < s.heap.objs.size
    · rw [if_pos (by omega), Nat.zero_add]
    · rw [if_neg (by omega), Array.getElem?_eq_none (by omega)]
  show (match (s.heap.objs.extract 0 n)[b]? with
    | some ⟨_, _, .freed, _⟩ => none
    | o => o) = _
  rw [e]
  rfl
theorem older_some {s : Shared} {n b : Nat} {o : Obj} (h : (older s n).heap.get? b = some o) : b < n ∧ s.heap.get? b = some o := by
  have h1 : b < n := Nat.lt_of_lt_of_le (Heap.lt_size h) older_le
  exact ⟨h1, by rw [← older_get h1]; exact h⟩
theorem funs_older {s : Shared} {n : Nat} {base : Heap} : ∀ {l : List Env}, s.heap.FunFrames base l → (∀ b ∈ frs l, b < n) → (older s n).heap.FunFrames base l
  | [], _, _ => trivial
  | env :: l, ⟨a, ⟨L, o, h1, h2, h3, h4⟩, c⟩, hb => by
    have e : frs (env :: l) = L :: frs l := by
      show List.filterMap _ (env :: l) = _
      rw [List.filterMap_cons, h1]
      rfl
    rw [e] at hb
    exact ⟨a, ⟨L, o, h1, h2, by rw [older_get (hb L List.mem_cons_self)]; exact h3, h4⟩, funs_older c fun b h => hb b (List.mem_cons_of_mem _ h)⟩
structure Gf where
  P : Program
  w : World
  K : PySem.W.Frag
  mg : Str → Option Value
  base : Heap
  N : List Str
  qual : Str
  scope : Scope
  f : Addr
  cd : Value
  A : Around
  outer : List Env
  L : Addr
  g : Nat
def Gf.env (F : Gf) : Env := PyProof.Rows.envOfC F.qual F.scope F.L F.f F.cd
abbrev Gf.M (F : Gf) : Model := model F.P F.w
def Gf.cx (F : Gf) (s : Shared) (H : Hp) : Cx where
  prog := F.P
  w := F.w
  K := F.K
  mg := F.mg
  base := F.base
  A := F.A.deeper F.env
  N := F.N
  s_0 := older s F.L
  H_0 := H
  env := F.env
  outer := F.outer
  stack := F.env :: F.outer
  ex := []
  calm := true
  fn := fun _ => true
  pn := []
  xe := fun e s' => wpAny (model F.P F.w) (F.A.deeper F.env) (leaving F.env e) (fun _ _ => False) (fun _ _ => False) s'
structure Gf.Ok (F : Gf) : Prop where
  mod : Mod F.K F.mg F.base
  kind : F.scope.kind = .function
  noc : ∀ x, F.env.cells.lookup x = none
  nok : ∀ x, F.env.kindOf x ≠ some .cell ∧ F.env.kindOf x ≠ some .free
  hd : F.A.handled = none
  frames : F.A.frames = some F.outer
  bL : F.base.objs.size ≤ F.L
  fL : ∀ b ∈ frs F.outer, b < F.L
structure Slp where
  gp : List (Addr × Obj)
  gk : List (Nat × GenState)
  nd : List Tm
def TmG (K : PySem.W.Frag) (Tp U : Addr → Prop) (H : Hp) : Tm → Prop
  | .v v (.d d) => Dv K Tp (Hd U H) v d
  | .pin b o w => ¬ U b ∧ H b = some (.frz o w)
  | _ => False
structure Wk where
  s : Shared
  H : Hp
  U : Addr → Prop
  W : Wd
  pc : List (Addr × Obj)
structure WkOk (F : Gf) (i : Wk) (z : Slp) : Prop where
  e0 : Env0 F.P F.w F.K F.mg F.base F.A F.outer i.s i.H
  rw : Rw F.K i.U i.W i.H
  gp : ∀ p ∈ z.gp, i.s.heap.get? p.1 = some p.2 ∧ i.H p.1 = none
  gk : ∀ q ∈ z.gk, i.s.gens[q.1]? = some q.2
  nd : ∀ p ∈ z.nd, TmG F.K i.W.Tp i.U i.H p
  pc : ∀ p ∈ i.pc, i.s.heap.get? p.1 = some p.2 ∧ i.H p.1 = none ∧ (∀ q ∈ z.gp, q.1 ≠ p.1) ∧ p.1 ∉ frs F.outer ∧ ∀ v, p.2.data ≠ .cell v
  gl : F.g < i.s.gens.size
structure SlpC (F : Gf) (z : Slp) : Prop where
  gp : ∀ p ∈ z.gp, F.L ≤ p.1 ∧ ∀ v, p.2.data ≠ .cell v
  gk : ∀ q ∈ z.gk, isSusp q.2 = true ∧ q.1 ≠ F.g
structure Post (F : Gf) (i : Wk) (z : Slp) (s' : Shared) (H' : Hp) (U' : Addr → Prop) : Prop where
  os : s'.os = i.s.os
  bare : AllBare s'.gens
  hok : HOk F.P F.w H' s'.heap
  rw : Rw F.K U' i.W H'
  fr : Kn.Fr ⟨i.U, i.W, i.H⟩ U' i.W H'
  un : Un (frs F.outer) [] i.H H' (older i.s F.L).heap s'.heap
  pc : ∀ p ∈ i.pc, s'.heap.get? p.1 = some p.2 ∧ H' p.1 = none
  gs : ∀ (j : Nat) st, i.s.gens[j]? = some st → isSusp st = true → j ≠ F.g → (∀ q ∈ z.gk, q.1 ≠ j) → s'.gens[j]? = some st
  sz : i.s.gens.size ≤ s'.gens.size
structure SlpIn (F : Gf) (i : Wk) (z z' : Slp) (s' : Shared) (H' : Hp) (U' : Addr → Prop) : Prop where
  gp : ∀ p ∈ z'.gp, s'.heap.get? p.1 = some p.2 ∧ H' p.1 = none ∧ ∀ q ∈ i.pc, q.1 ≠ p.1
  gk : ∀ q ∈ z'.gk, s'.gens[q.1]? = some q.2 ∧ (i.s.gens.size ≤ q.1 ∨ ∃ q0 ∈ z.gk, q0.1 = q.1)
  nd : ∀ p ∈ z'.nd, TmG F.K i.W.Tp U' H' p
def EndY (F : Gf) (i : Wk) (z : Slp) (d : D) (NX : Slp → GenState → Prop) (e : End) (s' : Shared) : Prop :=
  ∃ u g₀ l k c p fs, e = .susp u g₀ l k c p fs ∧ e.quiet = true ∧ ∃ (v : V) (H' : Hp) (U' : Addr → Prop) (z' : Slp), Post F i z s' H' U' ∧ RelV v u ∧ Dv F.K i.W.Tp (Hd U' H') v d ∧ SlpIn F i z z' s' H' U' ∧ SlpC F z' ∧ NX z' e.genState
def EndR (F : Gf) (i : Wk) (z : Slp) (e : End) (s' : Shared) : Prop :=
  (e = .ret (.ok (.ret .none)) ∨ e = .ret (.ok .next)) ∧ ∃ H' U', Post F i z s' H' U'
def Asl (F : Gf) : List D → Slp → GenState → Prop
  | [], z, gs => ∀ i, WkOk F i z → GoesX F.M F.A gs (.send .none) (i.s.setGen F.g .running) (EndR F i z)
  | d :: ds, z, gs => ∀ i, WkOk F i z → GoesX F.M F.A gs (.send .none) (i.s.setGen F.g .running) (EndY F i z d (Asl F ds))
def Phi (F : Gf) (i : Wk) (z : Slp) : List D → End → Shared → Prop
  | [] => EndR F i z
  | d :: ds => EndY F i z d (Asl F ds)
theorem Asl.goes {F : Gf} {ds : List D} {z : Slp} {gs : GenState} (h : Asl F ds z gs) {i : Wk} (w : WkOk F i z) : GoesX F.M F.A gs (.send .none) (i.s.setGen F.g .running) (Phi F i z ds) := by
  cases ds with
  | nil => exact h i w
  | cons d ds => exact h i w
theorem Asl.of {F : Gf} {ds : List D} {z : Slp} {gs : GenState} (h : ∀ i, WkOk F i z → GoesX F.M F.A gs (.send .none) (i.s.setGen F.g .running) (Phi F i z ds)) : Asl F ds z gs := by
  cases ds with
  | nil => exact h
  | cons d ds => exact h
theorem phi_quiet {F : Gf} {i : Wk} {z : Slp} {ds : List D} {e : End} {s' : Shared} (h : Phi F i z ds e s') : e.quiet = true := by
  cases ds with
  | nil => rcases h.1 with rfl | rfl <;> rfl
  | cons d ds => obtain ⟨_, _, _, _, _, _, _, _, q, _⟩ := h; exact q
structure LocI (F : Gf) (σ : St) (o : Obj) : Prop where
  ns : ∃ m : Str → Option Value, (∃ es ep, o.data = .dict es ep ∧ StrKeys es ∧ ∀ name, nsFind es name = m name) ∧ ∀ (i : Nat) (x : Str) (v : V), F.N[i]? = some x → σ[i]? = some (some v) → Vis F.scope x → ∃ u, RelV v u ∧ F.env.kindOf x = some .local ∧ m x = some u
  len : σ.length = F.N.length
section
variable {F : Gf} {i : Wk} {z zi : Slp} {σ : St} {H : Hp} {s : Shared} {ρ : List (Option PC)}
structure Gi (F : Gf) (i : Wk) (zi z : Slp) (σ : St) (ρ : List (Option PC)) (H : Hp) (s : Shared) : Prop where
  inv : Inv (F.cx i.s i.H) (z.gp ++ i.pc) σ H s
  ru : ∃ U, RU F.K ⟨i.U, i.W, i.H⟩ σ H ⟨ρ, i.W⟩ z.nd U
  gk : ∀ q ∈ z.gk, s.gens[q.1]? = some q.2 ∧ isSusp q.2 = true ∧ q.1 ≠ F.g ∧ (i.s.gens.size ≤ q.1 ∨ ∃ q0 ∈ zi.gk, q0.1 = q.1)
  gs : ∀ (j : Nat) st, i.s.gens[j]? = some st → isSusp st = true → j ≠ F.g → (∀ q ∈ zi.gk, q.1 ≠ j) → s.gens[j]? = some st
  gp : ∀ p ∈ z.gp, F.L ≤ p.1 ∧ ∀ q ∈ i.pc, q.1 ≠ p.1
  nd : ∀ p ∈ z.nd, ∃ Tp U H, TmG F.K Tp U H p
  gl : F.g < i.s.gens.size
  sz : i.s.gens.size ≤ s.gens.size
  hL : F.L ≤ i.s.heap.objs.size
theorem Gi.noOwn (I : Gi F i zi z σ ρ H s) : NoOwn z.nd := fun p hp w j q => by
  subst q
  obtain ⟨_, _, _, h⟩ := I.nd _ hp
  exact h
def KeepG (s s' : Shared) : Prop := (∀ (j : Nat) st, s.gens[j]? = some st → isSusp st = true → s'.gens[j]? = some st) ∧ s.gens.size ≤ s'.gens.size
theorem Gi.upd {σ' : St} {ρ' : List (Option PC)} {H' : Hp} {s' : Shared} (I : Gi F i zi z σ ρ H s) (J : Inv (F.cx i.s i.H) (z.gp ++ i.pc) σ' H' s') (r : ∃ U, RU F.K ⟨i.U, i.W, i.H⟩ σ' H' ⟨ρ', i.W⟩ z.nd U) (k : KeepG s s') : Gi F i zi z σ' ρ' H' s' where
  inv := J
  ru := r
  gk := fun q hq => let ⟨a, b, c⟩ := I.gk q hq; ⟨k.1 _ _ a b, b, c⟩
  gs := fun j st h1 h2 h3 h4 => k.1 _ _ (I.gs j st h1 h2 h3 h4) h2
  gp := I.gp
  nd := I.nd
  gl := I.gl
  sz := Nat.le_trans I.sz k.2
  hL := I.hL
theorem rel_keep {s s2' s' : Shared} (r : Rel s.gens s2' s') : KeepG s s' := ⟨fun j st h hs => (r.old j st h hs).2, by rw [← r.sz]; exact r.gsz⟩
theorem Inv.rel {X : Cx} {pins : List (Addr × Obj)} {G : Array GenState} {s2 s' : Shared} (I : Inv X pins σ H s2) (r : Rel G s2 s') : Inv X pins σ H s' := by
  obtain ⟨hh, g2, d, t, o⟩ := s2
  have e := r.eq
  rw [e]
  exact ⟨I.ok, I.os, r.bare I.bare, I.base, I.loc, I.cell, I.free, I.freeC, I.pin, I.hok, I.len⟩
theorem Inv.poisI {X : Cx} {pins : List (Addr × Obj)} (I : Inv X pins σ H s) : Inv X pins σ H (poisS s) := ⟨I.ok, I.os, poisS_bare I.bare, I.base, I.loc, I.cell, I.free, I.freeC, I.pin, I.hok, I.len⟩
theorem xe_rel {G : Array GenState} {s2 s' : Shared} {e : Value} {s0 : Shared} {H0 : Hp} (h : (F.cx s0 H0).xe e s2) (r : Rel G s2 s') : (F.cx s0 H0).xe e s' := by
  have h : wpAny (model F.P F.w) (F.A.deeper F.env) (leaving F.env e) (fun _ _ => False) (fun _ _ => False) s2 := h
  exact wpAny_mono (fun Γ p hΓ => wp_keep (model F.P F.w) Γ _ _ _ p _ s' r (h Γ p hΓ) : wpAny (model F.P F.w) (F.A.deeper F.env) (leaving F.env e) (fun _ s' => ∃ s2', Rel G s2' s' ∧ False) (fun _ s' => ∃ s2', Rel G s2' s' ∧ False) s')
    (fun _ _ ⟨_, _, q⟩ => q) fun _ _ ⟨_, _, q⟩ => q
theorem wake_inv (O : F.Ok) (w : WkOk F i z) {o : Obj} (l : LocI F σ o) (hL : i.s.heap.get? F.L = some o) (hn : i.H F.L = none) {pins : List (Addr × Obj)}
    (hp : ∀ p ∈ pins, i.s.heap.get? p.1 = some p.2 ∧ i.H p.1 = none ∧ p.1 ≠ F.L ∧ p.1 ∉ frs F.outer ∧ ∀ v, p.2.data ≠ .cell v) : Inv (F.cx i.s i.H) pins σ i.H (i.s.setGen F.g .running) := by
  have sz : F.L ≤ i.s.heap.objs.size := Nat.le_of_lt (Heap.lt_size hL)
  have noA : ∀ b : Addr, b ∉ (F.cx i.s i.H).ex := fun b z => absurd (show b ∈ ([] : List Addr) from z) (by simp)
  have noc : ∀ (x : Str) (c : Addr), (F.cx i.s i.H).env.cells.lookup x ≠ some c := fun x c h => by
    have h : F.env.cells.lookup x = some c := h
    rw [O.noc] at h; cases h
  refine ⟨⟨O.mod, O.kind, rfl, rfl, older_le, fun x y c h _ => (noc x c h).elim, fun x h => ?_, fun x c _ h => (noc x c h).elim, fun _ => O.hd, Around.frames_deeper O.frames, .inr ⟨rfl, rfl⟩, fun b z => absurd z (noA b), fun b o h => ?_, ?_, fun b _ _ => noA b, fun b z => absurd z (noA b), funs_older w.e0.funs O.fL, w.e0.frf⟩,
    rfl, allBare_setGen w.e0.bare rfl, ?_, ?_, fun x c h => (noc x c h).elim, hn, fun x c h => (noc x c h).elim, fun p hp' => ?_, w.e0.hok, l.len⟩
  · rcases h with h | h
    · exact ((O.nok x).1 h).elim
    · exact ((O.nok x).2 h).elim
  · obtain ⟨a, b'⟩ := w.e0.bs b o h
    exact ⟨by
      show (older i.s F.L).heap.get? b = some o
      rw [older_get (Nat.lt_of_lt_of_le (Heap.lt_size h) O.bL)]; exact a, b'⟩
  · show F.base.objs.size ≤ (older i.s F.L).heap.objs.size
    rw [older_size sz]; exact O.bL
  · exact ⟨fun b o h _ _ _ => (older_some h).2, fun b o h _ _ _ => ⟨o.slots, (older_some h).2⟩, fun b o _ h _ => h, fun b o h _ => ⟨o, (older_some h).2⟩, fun _ _ h => h, fun _ _ _ h => h, fun b ps h => ⟨#[], by rw [Array.append_empty]; exact h⟩⟩
  · obtain ⟨m, ⟨es, ep, h1, h2, h3⟩, h4⟩ := l.ns
    refine ⟨m, ⟨o, es, ep, hL, h1, h2, h3⟩, fun j x v a b c => ?_⟩
    obtain ⟨u, r, k, q⟩ := h4 j x v a b c
    exact ⟨u, r, .inl ⟨k, q⟩⟩
  · have hp' : p ∈ [] ++ pins := hp'
    rw [List.nil_append] at hp'
    exact hp p hp'
theorem loc_of (O : F.Ok) {pins : List (Addr × Obj)} {s0 : Shared} {H0 : Hp} (I : Inv (F.cx s0 H0) pins σ H s) : ∃ o, s.heap.get? F.L = some o ∧ LocI F σ o ∧ (∀ v, o.data ≠ .cell v) := by
  obtain ⟨m, ⟨o, es, ep, h1, h2, h3, h4⟩, hl⟩ := I.loc
  refine ⟨o, h1, ⟨⟨m, ⟨es, ep, h2, h3, h4⟩, fun j x v a b c => ?_⟩, I.len⟩, fun v q => by rw [h2] at q; cases q⟩
  obtain ⟨u, r, k⟩ := hl j x v a b c
  rcases k with ⟨k, q⟩ | ⟨k, q⟩
  · exact ⟨u, r, k, q⟩
  · rcases k with k | k
    · exact ((O.nok x).1 k).elim
    · exact ((O.nok x).2 k).elim
def slotsT : St → List (Option PC) → List Tm
  | some v :: σ, some (.val d) :: ρ => .v v (.d d) :: slotsT σ ρ
  | _ :: σ, _ :: ρ => slotsT σ ρ
  | _, _ => []
def allVal : List (Option PC) → Bool
  | [] => true
  | some (.val _) :: ρ => allVal ρ
  | none :: ρ => allVal ρ
  | _ :: _ => false
theorem slotsT_tm {e : Ent} {U : Addr → Prop} {W : Wd} : ∀ {σ : St} {ρ : List (Option PC)}, allVal ρ = true → (∀ (i : Nat) (c : PC), ρ[i]? = some (some c) → ∃ v, σ[i]? = some (some v) ∧ SlotOk F.K e U W H v c) → ∀ p ∈ slotsT σ ρ, TmG F.K W.Tp U H p
  | [], ρ, _, _, p, hp => by cases ρ <;> cases hp
  | v :: σ, [], _, _, p, hp => by cases v <;> cases hp
  | v :: σ, c :: ρ, ha, h, p, hp => by
    have hr : ∀ (i : Nat) (c : PC), ρ[i]? = some (some c) → ∃ v, σ[i]? = some (some v) ∧ SlotOk F.K e U W H v c := fun i c hi => h (i + 1) c (by simpa using hi)
    cases c with
    | none => cases v <;> exact slotsT_tm (show allVal ρ = true from ha) hr p hp
    | some c =>
      cases c with
      | val d =>
        obtain ⟨u, hu, so⟩ := h 0 (.val d) rfl
        have hu : v = some u := by simpa using hu
        subst hu
        rcases List.mem_cons.mp hp with rfl | hp
        · exact so
        · exact slotsT_tm (show allVal ρ = true from ha) hr p hp
      | ownL ds => cases ha
      | ownD ks => cases ha
theorem slotsT_back {e : Ent} {U : Addr → Prop} {W : Wd} : ∀ {σ : St} {ρ : List (Option PC)}, allVal ρ = true → (∀ (i : Nat) (c : PC), ρ[i]? = some (some c) → ∃ v, σ[i]? = some (some v)) → (∀ p ∈ slotsT σ ρ, TmG F.K W.Tp U H p) → ∀ (i : Nat) (c : PC), ρ[i]? = some (some c) → ∃ v, σ[i]? = some (some v) ∧ SlotOk F.K e U W H v c ∧ ¬ c.isOwn
  | σ, [], _, _, _, i, c, hi => by simp at hi
  | [], c :: ρ, ha, h, ht, i, c', hi => by
    obtain ⟨v, hv⟩ := h i c' hi
    simp at hv
  | v :: σ, c :: ρ, ha, h, ht, i, c', hi => by
    have hr : ∀ (i : Nat) (c : PC), ρ[i]? = some (some c) → ∃ v, σ[i]? = some (some v) := fun i c hi => by
      obtain ⟨v, hv⟩ := h (i + 1) c (by simpa using hi)
      exact ⟨v, by simpa using hv⟩
    have ha' : allVal ρ = true := by
      cases c with
      | none => exact ha
      | some c => cases c with
        | val d => exact ha
        | ownL ds => cases ha
        | ownD ks => cases ha
    have hs : ∀ p ∈ slotsT σ ρ, TmG F.K W.Tp U H p := fun p hp => ht p (by
      cases c with
      | none => cases v <;> exact hp
      | some c => cases c with
        | val d => cases v with
          | none => exact hp
          | some u => exact List.mem_cons_of_mem _ hp
        | ownL ds => cases ha
        | ownD ks => cases ha)
    cases i with
    | zero =>
      have hi : c = some c' := by simpa using hi
      subst hi
      obtain ⟨u, hu⟩ := h 0 c' rfl
      have hu : v = some u := by simpa using hu
      subst hu
      cases c' with
      | val d => exact ⟨u, rfl, ht (.v u (.d d)) List.mem_cons_self, fun z => z⟩
      | ownL ds => cases ha
      | ownD ks => cases ha
    | succ i =>
      obtain ⟨u, h1, h2⟩ := slotsT_back (e := e) ha' hr hs i c' (by simpa using hi)
      exact ⟨u, by simpa using h1, h2⟩
theorem tmG_ok {e : Ent} {U : Addr → Prop} {S : PSt} : ∀ {p : Tm}, TmG F.K S.W.Tp U H p → TmOk F.K e U S H σ p
  | .v v (.d d), h => h
  | .pin b o w, h => h
theorem tmG_of {e : Ent} {U : Addr → Prop} {S : PSt} : ∀ {p : Tm}, TmOk F.K e U S H σ p → (∃ Tp U H, TmG F.K Tp U H p) → TmG F.K S.W.Tp U H p
  | .v v (.d d), h, _ => h
  | .pin b o w, h, _ => h
  | .v v (.own j), _, ⟨_, _, _, h⟩ => h.elim
  | .nw l ds, _, ⟨_, _, _, h⟩ => h.elim
def slpOf (F : Gf) (z : Slp) (σ : St) (ρ : List (Option PC)) (o : Obj) : Slp := ⟨(F.L, o) :: z.gp, z.gk, slotsT σ ρ ++ z.nd⟩
theorem gi_woken (O : F.Ok) {o : Obj} (l : LocI F σ o) (ha : allVal ρ = true) (hs : ∀ (i : Nat) (c : PC), ρ[i]? = some (some c) → ∃ v, σ[i]? = some (some v)) (hl : σ.length = ρ.length)
    (hgp : ∀ p ∈ z.gp, F.L ≤ p.1 ∧ p.1 ≠ F.L ∧ ∀ v, p.2.data ≠ .cell v) (hgk : ∀ q ∈ z.gk, isSusp q.2 = true ∧ q.1 ≠ F.g) (w : WkOk F i (slpOf F z σ ρ o)) : Gi F i (slpOf F z σ ρ o) z σ ρ i.H (i.s.setGen F.g .running) := by
  obtain ⟨hL, hn⟩ := w.gp (F.L, o) List.mem_cons_self
  have back := slotsT_back (F := F) (e := ⟨i.U, i.W, i.H⟩) (U := i.U) (W := i.W) (H := i.H) ha hs fun p hp => w.nd p (List.mem_append_left _ hp)
  refine ⟨wake_inv O w l hL hn fun p hp => ?_, ⟨i.U, ?_⟩, fun q hq => ?_, fun j st h1 h2 h3 _ => ?_, fun p hp => ⟨(hgp p hp).1, fun q hq => ?_⟩, fun p hp => ⟨_, _, _, w.nd p (List.mem_append_right _ hp)⟩, w.gl, by rw [setGen_size]; exact Nat.le_refl _, Nat.le_of_lt (Heap.lt_size hL)⟩
  · rcases List.mem_append.mp hp with hp | hp
    · obtain ⟨a, b⟩ := w.gp p (List.mem_cons_of_mem _ hp)
      obtain ⟨c1, c2, c3⟩ := hgp p hp
      exact ⟨a, b, c2, fun m => absurd (O.fL _ m) (Nat.not_lt.mpr c1), c3⟩
    · obtain ⟨a, b, c, d, e⟩ := w.pc p hp
      exact ⟨a, b, fun q => c (F.L, o) List.mem_cons_self q.symm, d, e⟩
  · exact {
      wo := w.rw
      fr := Kn.Fr.refl i.U i.W i.H
      ed := w.rw.dom
      len := hl
      slot := fun j c hj => let ⟨v, a, b, _⟩ := back j c hj; ⟨v, a, b⟩
      sep := fun a b c c' m _ ha' oc _ _ _ _ => let ⟨_, _, _, n⟩ := back a c ha'; n oc
      tmp := fun p hp => tmG_ok (w.nd p (List.mem_append_right _ hp)) }
  · obtain ⟨a, b⟩ := hgk q hq
    refine ⟨?_, a, b, .inr ⟨q, hq, rfl⟩⟩
    show (i.s.gens.setIfInBounds F.g .running)[q.1]? = _
    rw [Array.getElem?_setIfInBounds_ne (Ne.symm b)]
    exact w.gk q hq
  · show (i.s.gens.setIfInBounds F.g .running)[j]? = _
    rw [Array.getElem?_setIfInBounds_ne (Ne.symm h3)]
    exact h1
  · exact fun e => (w.pc q hq).2.2.1 p (List.mem_cons_of_mem _ hp) e.symm
theorem gi_post {U : Addr → Prop} (I : Inv (F.cx i.s i.H) (z.gp ++ i.pc) σ H s) (r : RU F.K ⟨i.U, i.W, i.H⟩ σ H ⟨ρ, i.W⟩ z.nd U) (gs : ∀ (j : Nat) st, i.s.gens[j]? = some st → isSusp st = true → j ≠ F.g → (∀ q ∈ zi.gk, q.1 ≠ j) → s.gens[j]? = some st) (sz : i.s.gens.size ≤ s.gens.size) : Post F i zi s H U where
  sz := sz
  os := I.os
  bare := I.bare
  hok := I.hok
  rw := r.wo
  fr := r.fr
  un := I.base
  pc := fun p hp => let ⟨a, b, _⟩ := I.pin p (List.mem_append_right _ (List.mem_append_right _ hp)); ⟨a, b⟩
  gs := gs
end
end Kn
set_option Elab.async false
set_option maxRecDepth 100000
set_option linter.all false
set_option autoImplicit false
namespace Kn
open PySem L2 GenW
open PyProof.Rows (AllBare)
theorem wpAny_keepR {α : Type} {G : Array GenState} {M : Model} {A : Around} {s2 s : Shared} {t : Sem α} {Q Q' : α → Shared → Prop} {E E' : Value → Shared → Prop} (r : Rel G s2 s)
    (h : wpAny M A t Q E s2) (hQ : ∀ a s2' s', Rel G s2' s' → Q a s2' → Q' a s') (hE : ∀ a s2' s', Rel G s2' s' → E a s2' → E' a s') : wpAny M A t Q' E' s :=
  wpAny_mono (fun Γ p hΓ => wp_keep M Γ t _ _ p s2 s r (h Γ p hΓ) : wpAny M A t (fun a s' => ∃ s2', Rel G s2' s' ∧ Q a s2') (fun a s' => ∃ s2', Rel G s2' s' ∧ E a s2') s)
    (fun a s' ⟨s2', r, q⟩ => hQ a s2' s' r q) fun a s' ⟨s2', r, q⟩ => hE a s2' s' r q
abbrev GEn := List D → List (Option PC) → Prop
abbrev GT := GEn → List D → List (Option PC) → Prop
structure Pos (F : Gf) (c : Code) (fs : List Frame) (gd : Bool → Bool) : Prop where
  over : F.A.over c fs = F.A.deeper F.env
  split : splitAtGen fs = none
  guard : fs.any Frame.guarded = false
  gd : gd false = false
structure KX (F : Gf) (z : Slp) (c : Code) (fs : List Frame) (K : Flow → Sem PySem.Fin) (J : Value → Sem PySem.Fin) (E : GEn) : Prop where
  nx : ∀ (i : Wk) (zi : Slp) (rem : List D) (ρ : List (Option PC)) (σ : St) (H : Hp) (s : Shared), Gi F i zi z σ ρ H s → E rem ρ → SegX F.M F.A c (K .next) fs s (Phi F i zi rem)
  exc : ∀ (i : Wk) (zi : Slp) (rem : List D) (e : Value) (s : Shared), (F.cx i.s i.H).xe e s → SegX F.M F.A c (J e) fs s (Phi F i zi rem)
structure GSt (F : Gf) (st : Stmt) (t : GT) : Prop where
  run : ∀ (z : Slp) (c : Code) (fs : List Frame) (K : Flow → Sem PySem.Fin) (J : Value → Sem PySem.Fin) (gd : Bool → Bool) (lv : List Value → List Value) (E : GEn) (rem : List D) (ρ : List (Option PC)) (i : Wk) (zi : Slp) (σ : St) (H : Hp) (s : Shared),
    Pos F c fs gd → KX F z c fs K J E → Gi F i zi z σ ρ H s → t E rem ρ → SegX F.M F.A c ((exec st F.env).wrap K J gd lv) fs s (Phi F i zi rem)
structure GSs (F : Gf) (st : List Stmt) (t : GT) : Prop where
  run : ∀ (z : Slp) (c : Code) (fs : List Frame) (K : Flow → Sem PySem.Fin) (J : Value → Sem PySem.Fin) (gd : Bool → Bool) (lv : List Value → List Value) (E : GEn) (rem : List D) (ρ : List (Option PC)) (i : Wk) (zi : Slp) (σ : St) (H : Hp) (s : Shared),
    Pos F c fs gd → KX F z c fs K J E → Gi F i zi z σ ρ H s → t E rem ρ → SegX F.M F.A c ((execs st F.env).wrap K J gd lv) fs s (Phi F i zi rem)
section
variable {F : Gf} {st : Stmt} {rest : List Stmt}
def tgNil : GT := fun E rem ρ => E rem ρ
theorem gss_nil : Kn.GSs F [] tgNil := ⟨fun z c fs K J gd lv E rem ρ i zi σ H s g k I h => segx_execs_nil (k.nx i zi rem ρ σ H s I h)⟩
def tgThen (t u : GT) : GT := fun E rem ρ => t (u E) rem ρ
theorem gss_cons {t u : GT} (a : GSt F st t) (b : Kn.GSs F rest u) : Kn.GSs F (st :: rest) (tgThen t u) := by
  refine ⟨fun z c fs K J gd lv E rem ρ i zi σ H s g k I h => segx_execs_cons ?_⟩
  exact a.run z c fs _ J gd lv (u E) rem ρ i zi σ H s g ⟨fun i' zi' rem' ρ' σ' H' s' I' h' => b.run z c fs K J gd lv E rem' ρ' i' zi' σ' H' s' g k I' h', k.exc⟩ I h
theorem gss_one {t : GT} (a : GSt F st t) : Kn.GSs F [st] (tgThen t tgNil) := gss_cons a gss_nil
def tgP (td : TDS) : GT := fun E rem ρ => ∀ W, td ⟨fun S => S.W = W ∧ E rem S.ρ, fun _ _ => False, fun _ => False, fun _ => False, fun _ _ => False⟩ ⟨ρ, W⟩
theorem gst_plain {td : TDS} (h : ∀ (s0 : Shared) (H0 : Hp) (e : Ent), ∃ t, PS (F.cx s0 H0) st t ∧ SimS F.K e t td) : GSt F st (tgP td) := by
  refine ⟨fun z c fs K J gd lv E rem ρ i zi σ H s g k I ht => ?_⟩
  obtain ⟨t, ps, sim⟩ := h i.s i.H ⟨i.U, i.W, i.H⟩
  obtain ⟨U, ru⟩ := I.ru
  refine segx_wrap ?_
  rw [g.over]
  have hD := sim.run σ H ⟨ρ, i.W⟩ z.nd ⟨fun S => S.W = i.W ∧ E rem S.ρ, fun _ _ => False, fun _ => False, fun _ => False, fun _ _ => False⟩
    ⟨fun σ' H' => ∃ S', (S'.W = i.W ∧ E rem S'.ρ) ∧ R F.K ⟨i.U, i.W, i.H⟩ σ' H' S' z.nd, fun _ _ => False, fun _ _ => False, fun _ _ => False⟩ I.noOwn ⟨U, ru⟩ (ht i.W)
    ⟨fun S' σ' H' h x => ⟨S', h, x⟩, fun _ _ _ _ _ q _ => q, fun _ _ _ q _ => q, fun _ _ _ q _ => q, fun _ _ _ _ _ q _ => q⟩
  refine wpAny_keep (ps.run (z.gp ++ i.pc) (poisS s) σ H _ (Inv.poisI I.inv) hD) (fun f s2' s' r q => ?_) fun e s2' s' r q => k.exc _ _ _ _ _ (xe_rel q r)
  cases f with
  | next =>
    obtain ⟨σ', H', J', ⟨ρ', W'⟩, ⟨e1, e2⟩, x⟩ := q
    have e1 : W' = i.W := e1
    subst e1
    exact k.nx i zi rem ρ' σ' H' s' (I.upd (Inv.rel J' r) x (rel_keep r)) e2
  | brk => obtain ⟨_, _, _, q⟩ := q; exact q.elim
  | cont => obtain ⟨_, _, _, q⟩ := q; exact q.elim
  | ret u => obtain ⟨_, _, _, _, _, q⟩ := q; exact q.elim
def tgIf (c : TDT) (t u : GT) : GT := fun E rem ρ => ∀ W, c ⟨ρ, W⟩ fun b S => S.W = W ∧ if b = true then t E rem S.ρ else u E rem S.ρ
theorem gst_if {test : Expr} {body orelse : List Stmt} {pos : PySem.Pos} {tc : TDT} {t u : GT} (h : ∀ (s0 : Shared) (H0 : Hp) (e : Ent), ∃ c, PT (F.cx s0 H0) test c ∧ SimT F.K e c tc) (hb : Kn.GSs F body t) (ho : Kn.GSs F orelse u) : GSt F (.If test body orelse pos) (tgIf tc t u) := by
  refine ⟨fun z c fs K J gd lv E rem ρ i zi σ H s g k I ht => segx_If ?_⟩
  obtain ⟨tc', pt, sim⟩ := h i.s i.H ⟨i.U, i.W, i.H⟩
  obtain ⟨U, ru⟩ := I.ru
  rw [g.over]
  have hD := sim.run σ H ⟨ρ, i.W⟩ z.nd _ (fun b H' => ∃ S', (S'.W = i.W ∧ if b = true then t E rem S'.ρ else u E rem S'.ρ) ∧ R F.K ⟨i.U, i.W, i.H⟩ σ H' S' z.nd) ⟨U, ru⟩ (ht i.W) fun b S' H' h x => ⟨S', h, x⟩
  refine wpAny_keep (pt.run (z.gp ++ i.pc) (poisS s) σ H _ (Inv.poisI I.inv) hD) (fun b s2' s' r q => ?_) fun e s2' s' r q => k.exc _ _ _ _ _ (xe_rel q r)
  obtain ⟨H', J', ⟨ρ', W'⟩, ⟨e1, e2⟩, x⟩ := q
  have e1 : W' = i.W := e1
  subst e1
  have I' := I.upd (ρ' := ρ') (Inv.rel J' r) x (rel_keep r)
  cases b with
  | true => rw [if_pos rfl] at e2 ⊢; exact hb.run z c fs K J gd lv E rem ρ' i zi σ H' s' g k I' e2
  | false => rw [if_neg Bool.false_ne_true] at e2 ⊢; exact ho.run z c fs K J gd lv E rem ρ' i zi σ H' s' g k I' e2
def tgY (te : TDE) : GT := fun E rem ρ => ∀ W, te ⟨ρ, W⟩ fun r S => frc r S fun d S2 => S2.W = W ∧ allVal S2.ρ = true ∧ ∃ rest, rem = d :: rest ∧ E rest S2.ρ
theorem gst_yield (O : F.Ok) {e : Expr} {yp pos : PySem.Pos} {te : TDE} (h : ∀ (s0 : Shared) (H0 : Hp) (en : Ent), ∃ t, PE (F.cx s0 H0) e t ∧ SimE F.K en t te) (hco : F.env.scope.isCoroutine = false) (hi : interactive F.env = false := by rfl) : GSt F (.Expr (.Yield (some e) yp) pos) (tgY te) := by
  refine ⟨fun z c fs K J gd lv E rem ρ i zi σ H s g k I ht => segx_Expr_Yield g.split ?_ hco hi⟩
  obtain ⟨t, pe, sim⟩ := h i.s i.H ⟨i.U, i.W, i.H⟩
  obtain ⟨U, ru⟩ := I.ru
  rw [g.over]
  have hD := sim.run σ H ⟨ρ, i.W⟩ z.nd _ (fun x H' => ∃ d S2, (S2.W = i.W ∧ allVal S2.ρ = true ∧ ∃ rest, rem = d :: rest ∧ E rest S2.ρ) ∧ R F.K ⟨i.U, i.W, i.H⟩ σ H' S2 (.v x (.d d) :: z.nd)) ⟨U, ru⟩ (ht i.W) fun r S' v H' h x => x.frc h fun d S2 h2 x2 => ⟨d, S2, h2, x2⟩
  refine wpAny_keep (pe.run (z.gp ++ i.pc) (poisS s) σ H _ (Inv.poisI I.inv) hD) (fun v s2' s' r q => ?_) fun e s2' s' r q => k.exc _ _ _ _ _ (xe_rel q r)
  obtain ⟨x, H', J', rv, d, ⟨ρ', W'⟩, ⟨e1, av, rest, rfl, e2⟩, U', x'⟩ := q
  have e1 : W' = i.W := e1
  subst e1
  have J1 := Inv.rel J' r
  have x0 := x'.less (T' := z.nd) fun p hp => List.mem_cons_of_mem _ hp
  have I' := I.upd J1 ⟨U', x0⟩ (rel_keep r)
  obtain ⟨o, ho, lo, nc⟩ := loc_of O J1
  intro l kk p hk
  have hpn : ∀ p ∈ z.gp, F.L ≤ p.1 ∧ p.1 ≠ F.L ∧ ∀ v, p.2.data ≠ .cell v := fun p hp => by
    obtain ⟨_, _, c, _, e⟩ := J1.pin p (List.mem_append_right _ (List.mem_append_left _ hp))
    exact ⟨(I.gp p hp).1, c, e⟩
  have hgk : ∀ q ∈ z.gk, isSusp q.2 = true ∧ q.1 ≠ F.g := fun q hq => let ⟨_, a, b, _⟩ := I'.gk q hq; ⟨a, b⟩
  have hsl := slotsT_tm (F := F) av x0.slot
  refine ⟨v, _, l, kk, c, p, fs, rfl, ?_, x, H', U', slpOf F z σ ρ' o, gi_post J1 x0 I'.gs I'.sz, rv, x'.tmp (.v x (.d d)) List.mem_cons_self, ⟨fun q hq => ?_, fun q hq => ?_, fun q hq => ?_⟩, ⟨fun q hq => ?_, hgk⟩, Asl.of fun i' w' => ?_⟩
  · show (!(gd false || fs.any Frame.guarded)) = true
    rw [g.gd, g.guard]; rfl
  · rcases List.mem_cons.mp hq with rfl | hq
    · exact ⟨ho, J1.free, fun q hq => (J1.pin q (List.mem_append_right _ (List.mem_append_right _ hq))).2.2.1⟩
    · obtain ⟨a, b, _⟩ := J1.pin q (List.mem_append_right _ (List.mem_append_left _ hq))
      exact ⟨a, b, (I.gp q hq).2⟩
  · obtain ⟨a, _, _, b⟩ := I'.gk q hq
    exact ⟨a, b⟩
  · rcases List.mem_append.mp hq with hq | hq
    · exact hsl q hq
    · exact tmG_of (x0.tmp q hq) (I.nd q hq)
  · rcases List.mem_cons.mp hq with rfl | hq
    · exact ⟨Nat.le_refl _, nc⟩
    · exact ⟨(hpn q hq).1, (hpn q hq).2.2⟩
  · show SegX F.M F.A c (kk (.send .none)) fs _ _
    refine hk _ _ (k.nx i' _ rest ρ' σ i'.H _ (gi_woken O lo av (fun j c hj => let ⟨v, h1, _⟩ := x0.slot j c hj; ⟨v, h1⟩) x0.len hpn hgk w') e2)
theorem owns_cx {s0 : Shared} {H0 : Hp} : PassesOwn (model F.P F.w) (F.A.deeper F.env) F.env (F.cx s0 H0).xe := passes_of (X := F.cx s0 H0) (K := fun _ _ => False) (E₁ := fun _ _ => False) rfl
theorem pos_loop {c c' : Code} {fs : List Frame} {gd : Bool → Bool} {K : Flow → Sem PySem.Fin} {J : Value → Sem PySem.Fin} {lv : List Value → List Value} {p : PySem.Pos} {l : List Value} (g : Kn.Pos F c fs gd) (hw : c'.weight = 0) (hu : c'.cUnits = 0) : Kn.Pos F c' (loopFr F.env K J gd lv c p l (gd false) :: fs) id where
  over := (over_loop hw hu).trans g.over
  split := by
    show (splitAtGen fs).map _ = none
    rw [g.split]; rfl
  guard := by
    show (gd false || fs.any Frame.guarded) = false
    rw [g.gd, g.guard]; rfl
  gd := rfl
theorem exc_loop {z : Slp} {c c' : Code} {fs : List Frame} {gd : Bool → Bool} {K : Flow → Sem PySem.Fin} {J : Value → Sem PySem.Fin} {lv : List Value → List Value} {p : PySem.Pos} {l : List Value} {E : GEn} (g : Kn.Pos F c fs gd) (k : KX F z c fs K J E) (hw : c'.weight = 0) (hu : c'.cUnits = 0)
    (i : Wk) (zi : Slp) (rem : List D) (x : Value) (s : Shared) (hx : (F.cx i.s i.H).xe x s) : SegX F.M F.A c' (noteX F.env x) (loopFr F.env K J gd lv c p l (gd false) :: fs) s (Phi F i zi rem) := by
  have back : ∀ (y : Value) (s' : Shared), cameBackBy (model F.P F.w) (F.A.deeper F.env) F.env (F.cx i.s i.H).xe y s' → SegX F.M F.A c (((Sem.raise y : Sem Flow).onRaise (cameBack F.env)).wrap K J gd lv) fs s' (Phi F i zi rem) := fun y s' h => by
    show SegX _ _ _ (((cameBack F.env y).bind fun _ => (Sem.raise y : Sem Flow)).wrap K J gd lv) _ _ _
    rw [Sem.bind_eq_wrap, Sem.wrap_wrap]
    refine segx_wrap ?_
    rw [g.over]
    exact wpAny_mono h (fun _ s'' q => k.exc i zi rem y s'' q) fun y' s'' q => k.exc i zi rem y' s'' q
  unfold noteX
  rw [Sem.bind_eq_wrap]
  refine segx_wrap ?_
  rw [(pos_loop (K := K) (J := J) (lv := lv) (p := p) (l := l) g hw hu).over]
  refine wpAny_bind (wpAny_mono (owns_cx (F := F) (s0 := i.s) (H0 := i.H) x s hx) (fun _ s'' hcb => wpAny_theTreesLotGoes ?_) fun y s'' hcb => ?_)
  · exact segx_leaf (.error x) (back x _ hcb)
  · exact segx_leaf (.error y) (back y _ hcb)
end
end Kn
set_option Elab.async false
set_option maxRecDepth 100000
set_option linter.all false
set_option autoImplicit false
namespace Kn
open PySem L2 GenW
open PyProof.Rows (AllBare)
def GoodT (T : List Tm) : Prop := ∀ p ∈ T, (∃ v d, p = .v v (.d d)) ∨ ∃ b o w, p = .pin b o w
theorem GoodT.noOwn {T : List Tm} (h : GoodT T) : NoOwn T := fun p hp w j z => by
  subst z
  rcases h _ hp with ⟨_, _, q⟩ | ⟨_, _, _, q⟩
  · cases q
  · cases q
theorem goodT0 : GoodT [] := fun p hp => by cases hp
theorem goodT1 {v : V} {d : D} : GoodT [.v v (.d d)] := fun p hp => .inl ⟨v, d, List.mem_singleton.mp hp⟩
theorem goodTP {b : Addr} {o : Obj} {w : HO} : GoodT [.pin b o w] := fun p hp => .inr ⟨b, o, w, List.mem_singleton.mp hp⟩
theorem GoodT.app {T U : List Tm} (h : GoodT T) (k : GoodT U) : GoodT (T ++ U) := fun p hp => (List.mem_append.mp hp).elim (h p) (k p)
class SimIA (K : PySem.W.Frag) (e : Ent) (wi : TI) (ti : outParam TDI) : Prop where
  run : ∀ (σ : St) (H : Hp) (S : PSt) (T : List Tm) (Qd : List D → PSt → Prop) (Rr : It → Hp → Prop), R K e σ H S T → ti S Qd → (∀ ds S' J H' T1, Qd ds S' → GoodT T1 → (∀ e', ItOk K e' J ds T1) → R K e σ H' S' (T1 ++ T) → Rr J H') → wi σ H Rr
section
variable {K : PySem.W.Frag} {e : Ent}
instance simIAAny {td : TE} {td' : TDE} [h1 : SimE K e td td'] : SimIA K e (iAny K td) (tiAny td') := ⟨fun σ H S T Qd Rr x h k => by
  refine h1.run σ H S T _ _ x h fun r S1 v H1 hr x1 => x1.frc hr fun d S2 h3 x2 => ?_
  obtain ⟨U, x3, dv, x4⟩ := x2.frz
  match d, h3, dv, x4 with
  | .lst ds, h3, dv, x4 =>
    obtain ⟨a, xs, rfl, g1, g2⟩ : Vw K S2.W.Tp U H1 v (.lst ds) := Dv.vw dv
    exact .inl ⟨a, rfl, .inl ⟨⟨xs, SqL.of g1⟩, k _ _ _ _ [.v (.ref a) (.d (.lst ds))] h3 goodT1 (fun _ => itOk_list) ⟨U, x4⟩⟩⟩
  | .tup ds, h3, dv, x4 =>
    obtain ⟨a, xs, rfl, g1, g2⟩ : Vw K S2.W.Tp U H1 v (.tup ds) := Dv.vw dv
    exact .inl ⟨a, rfl, .inr ⟨⟨xs, SqT.same Hd.sub g1⟩, k _ _ _ _ [.v (.ref a) (.d (.tup ds))] h3 goodT1 (fun _ => itOk_tup) ⟨U, x4⟩⟩⟩
  | .str z, h3, dv, x4 =>
    have ev : v = .str z := by cases dv; rfl
    exact .inr (.inl ⟨z, ev, k _ _ _ _ [] h3 goodT0 (fun _ => itOk_str) ⟨U, x3⟩⟩)
  | .dct ks, h3, dv, x4 =>
    obtain ⟨a, xs, rfl, h, t⟩ := Dv.dct_inv dv
    have h3 : Qd (ks.map fun p => keyV p.1) S2 := h3
    rw [t.keys] at h3
    rcases h with h | ⟨o, h⟩
    · obtain ⟨h, nu⟩ := Hd.of h
      exact .inr (.inr ⟨a, xs, rfl, .inr ⟨h, fun od => k _ _ _ _ [.pin a od (.dK xs)] h3 goodTP (fun _ => itOk_keys) ⟨U, x3.lock h nu⟩⟩⟩)
    · obtain ⟨h, nu⟩ := Hd.of h
      exact .inr (.inr ⟨a, xs, rfl, .inl ⟨o, h, k _ _ _ _ [.pin a o (.dK xs)] h3 goodTP (fun _ => itOk_keys) ⟨U, x3.push ⟨nu, h⟩⟩⟩⟩)⟩
instance simIARng2 {ta : TA} {ta' : TDA} [h1 : SimA K e ta ta'] : SimIA K e (iRng2 ta) (tiRng2 ta') := ⟨fun σ H S T Qd Rr x h k => by
  refine h1.run σ H S T _ _ x h fun rs S1 vs H1 hr hl x1 => ?_
  obtain ⟨r, q, rfl, hr⟩ := arg2_inv hr
  obtain ⟨v, w, rfl⟩ := len2 hl
  match r, q, hr, x1 with
  | .d (.int i), .d (.int j), hr, ⟨U, x1⟩ =>
    have d1 : Dv K S1.W.Tp (Hd U H1) v (.int i) := x1.tmp (.v v (.d (.int i))) (by simp [tms])
    have d2 : Dv K S1.W.Tp (Hd U H1) w (.int j) := x1.tmp (.v w (.d (.int j))) (by simp [tms])
    cases d1
    cases d2
    exact ⟨i, j, rfl, hr.1, k _ _ _ _ [] hr.2 goodT0 (fun _ => itOk_rng) ⟨U, x1.less fun p hp => by simp at hp; simp [tms, hp]⟩⟩⟩
end
section
variable {F : Gf} {i : Wk} {z z' zi : Slp} {σ : St} {H : Hp} {s : Shared} {ρ : List (Option PC)}
theorem Gi.to (I : Gi F i zi z σ ρ H s) (hk : z'.gk = z.gk) (J : Inv (F.cx i.s i.H) (z'.gp ++ i.pc) σ H s) (r : ∃ U, RU F.K ⟨i.U, i.W, i.H⟩ σ H ⟨ρ, i.W⟩ z'.nd U) (hp : ∀ p ∈ z'.gp, F.L ≤ p.1 ∧ ∀ q ∈ i.pc, q.1 ≠ p.1) (hd : ∀ p ∈ z'.nd, ∃ Tp U H, TmG F.K Tp U H p) : Gi F i zi z' σ ρ H s where
  inv := J
  ru := r
  gk := by rw [hk]; exact I.gk
  gs := I.gs
  gp := hp
  nd := hd
  gl := I.gl
  sz := I.sz
  hL := I.hL
theorem goodT_nd {T : List Tm} {e : Ent} {U : Addr → Prop} {S : PSt} (h : GoodT T) (t : ∀ p ∈ T, TmOk F.K e U S H σ p) : ∀ p ∈ T, ∃ Tp U H, TmG F.K Tp U H p := fun p hp => by
  have q := t p hp
  rcases h p hp with ⟨v, d, rfl⟩ | ⟨b, o, w, rfl⟩
  · exact ⟨_, _, _, q⟩
  · exact ⟨S.W.Tp, _, _, q⟩
end
def forG (g : TDG) (tb : GT) (E : GEn) : List D → GEn
  | [], rem, ρ => E rem ρ
  | d :: ds, rem, ρ => ∃ N : GEn, (∀ rem' ρ', N rem' ρ' → forG g tb E ds rem' ρ') ∧ ∀ W, g d ⟨ρ, W⟩ fun S2 => S2.W = W ∧ tb N rem S2.ρ
def tgFor (ti : TDI) (g : TDG) (tb : GT) : GT := fun E rem ρ => ∀ W, ti ⟨ρ, W⟩ fun ds S => S.W = W ∧ forG g tb E ds rem S.ρ
section
variable {F : Gf} {st : Stmt} {rest : List Stmt}
theorem gst_for (O : F.Ok) {tg iter : Expr} {body : List Stmt} {pos : PySem.Pos} {ti : TDI} {g0 : TDG} {tb : GT} (hi : ∀ (s0 : Shared) (H0 : Hp) (e : Ent), ∃ wi, PI (F.cx s0 H0) tg iter wi ∧ SimIA F.K e wi ti)
    (hg : ∀ (s0 : Shared) (H0 : Hp) (e : Ent), ∃ g', PG (F.cx s0 H0) tg g' ∧ SimG F.K e g' g0) (hb : Kn.GSs F body tb) (hs : ∀ x, foldedSetIterable iter F.env x = pure x := by intro _; rfl) : GSt F (.For tg iter body [] pos) (tgFor ti g0 tb) := by
  refine ⟨fun z c fs K J gd lv E rem ρ i zi σ H s g k I ht => segx_For ?_ hs⟩
  obtain ⟨wi, pi, sim⟩ := hi i.s i.H ⟨i.U, i.W, i.H⟩
  obtain ⟨U, ru⟩ := I.ru
  rw [g.over]
  have hD := sim.run σ H ⟨ρ, i.W⟩ z.nd _ (fun J H' => ∃ ds S' T1, (S'.W = i.W ∧ forG g0 tb E ds rem S'.ρ) ∧ GoodT T1 ∧ (∀ e', ItOk F.K e' J ds T1) ∧ R F.K ⟨i.U, i.W, i.H⟩ σ H' S' (T1 ++ z.nd)) ⟨U, ru⟩ (ht i.W) fun ds S' J H' T1 q gT it x => ⟨ds, S', T1, q, gT, it, x⟩
  refine wpAny_keep (pi.run (z.gp ++ i.pc) (poisS s) σ H _ (Inv.poisI I.inv) hD) (fun v s2 s1 r q => ?_) fun e s2' s' r q => k.exc _ _ _ _ _ (xe_rel q r)
  refine wpAny_keepR r q (fun itv s3 s4 r' q' => ?_) fun e s2' s' r q => k.exc _ _ _ _ _ (xe_rel q r)
  obtain ⟨it, fp, tn, Jt, H2, rfl, I2, T, st2, f2, ds, ⟨ρ2, W2⟩, T1, ⟨e1, hf⟩, gT, itok, U2, x2⟩ := q'
  have e1 : W2 = i.W := e1
  subst e1
  intro p
  have older_eq : ∀ {i : Wk}, F.L ≤ i.s.heap.objs.size → (F.cx i.s i.H).s_0.heap.objs.size = F.L := fun h => older_size h
  have hfp : ∀ b ∈ fp, F.L ≤ b ∧ b ≠ F.L ∧ b ∉ frs F.outer ∧ ∀ q ∈ z.gp, q.1 ≠ b := fun b hb => by
    obtain ⟨_, f1, f2', f3, _, f5⟩ := f2 b hb
    refine ⟨?_, f1, f2', fun q hq => f5 q (List.mem_append_right _ (List.mem_append_left _ hq))⟩
    rcases f3 with f3 | f3
    · cases f3
    · rw [older_eq I.hL] at f3; exact f3
  have I1 := I.upd (H' := H2) (s' := s4) (Inv.rel I2 r') ⟨U2, x2.less fun p hp => List.mem_append_right _ hp⟩ (rel_keep r')
  have I1' : Gi F i zi ⟨z.gp, z.gk, T1 ++ z.nd⟩ σ ρ2 H2 s4 := I1.to rfl I1.inv ⟨U2, x2⟩ I1.gp fun p hp => (List.mem_append.mp hp).elim (goodT_nd gT (fun p hp => x2.tmp p (List.mem_append_left _ hp)) p) (I1.nd p)
  have loop : ∀ (m j : Nat) (i zi : _) (rem : List D) (ρ : List (Option PC)) (σ : St) (H : Hp) (s : Shared), ds.length - j = m → j ≤ ds.length → Gi F i zi ⟨z.gp, z.gk, T1 ++ z.nd⟩ σ ρ H s → tn j s.heap → (∀ b ∈ fp, H b = none ∧ ∀ q ∈ i.pc, q.1 ≠ b) → forG g0 tb E (ds.drop j) rem ρ →
      SegX F.M F.A (.forLoop tg (.ref it) body [] F.env) (F.M.den (.forLoop tg (.ref it) body [] F.env)) (loopFr F.env K J gd lv c p (lv []) (gd false) :: fs) s (Phi F i zi rem) := by
    have fpok : ∀ {i zi : _} {ρ : List (Option PC)} {σ : St} {H : Hp} {s : Shared}, Gi F i zi ⟨z.gp, z.gk, T1 ++ z.nd⟩ σ ρ H s → (∀ b ∈ fp, H b = none ∧ ∀ q ∈ i.pc, q.1 ≠ b) → ∀ {H' : Hp}, (∀ b ∈ fp, H' b = none) → ∀ b ∈ fp, FpOk (F.cx i.s i.H) (z.gp ++ i.pc) H' b := fun {i zi ρ σ H s} I hfr {H'} hn b hb => by
      obtain ⟨a1, a2, a3, a4⟩ := hfp b hb
      refine ⟨hn b hb, a2, a3, .inr (by rw [older_eq I.hL]; exact a1), fun x c h => ?_, fun q hq => ?_⟩
      · have h : F.env.cells.lookup x = some c := h
        rw [O.noc] at h; cases h
      · have hq : q ∈ [] ++ (z.gp ++ i.pc) := hq
        rw [List.nil_append] at hq
        exact (List.mem_append.mp hq).elim (a4 q) ((hfr b hb).2 q)
    have toZ : ∀ {i zi : _} {ρ : List (Option PC)} {σ : St} {H : Hp} {s : Shared}, Gi F i zi ⟨z.gp, z.gk, T1 ++ z.nd⟩ σ ρ H s → Gi F i zi z σ ρ H s := fun {i zi ρ σ H s} I => I.to rfl I.inv (let ⟨U, x⟩ := I.ru; ⟨U, x.less fun p hp => List.mem_append_right _ hp⟩) I.gp fun p hp => I.nd p (List.mem_append_right _ hp)
    intro m
    induction m with
    | zero =>
      intro j i zi rem ρ σ H s hm hj I st hfr hf
      have ej : j = ds.length := by omega
      subst ej
      obtain ⟨U, ru⟩ := I.ru
      have stop := (itok ⟨i.U, i.W, i.H⟩ ds.length σ H ⟨ρ, i.W⟩ z.nd ⟨U, ru⟩).1 (Nat.le_refl _)
      refine segx_forLoop ?_
      rw [(pos_loop (K := K) (J := J) (lv := lv) (p := p) (l := lv []) g rfl rfl).over]
      refine wpAny_keep (T.done (F.cx i.s i.H) rfl rfl rfl rfl ds.length (z.gp ++ i.pc) (poisS s) σ H (fun _ _ => False) (Inv.poisI I.inv) (fpok I hfr fun b hb => (hfr b hb).1) st stop) (fun r s2 s1 rel ⟨hr, I4⟩ => ?_) (fun _ _ _ _ q => q.elim)
      subst hr
      refine segx_again rfl (segx_block0 (segx_leaf (.ok .next) ?_))
      rw [List.drop_length] at hf
      exact k.nx i zi rem ρ σ H s1 (toZ (I.upd (Inv.rel I4 rel) ⟨U, ru⟩ (rel_keep rel))) hf
    | succ m ih =>
      intro j i zi rem ρ σ H s hm hj I st hfr hf
      have hlt : j < ds.length := by omega
      obtain ⟨U, ru⟩ := I.ru
      obtain ⟨go, yl⟩ := (itok ⟨i.U, i.W, i.H⟩ j σ H ⟨ρ, i.W⟩ z.nd ⟨U, ru⟩).2 hlt
      rw [List.drop_eq_getElem_cons hlt] at hf
      obtain ⟨N, hN, hstep⟩ := hf
      refine segx_forLoop ?_
      rw [(pos_loop (K := K) (J := J) (lv := lv) (p := p) (l := lv []) g rfl rfl).over]
      refine wpAny_keep (T.item (F.cx i.s i.H) rfl rfl rfl rfl j (z.gp ++ i.pc) (poisS s) σ H (fun _ _ => False) (Inv.poisI I.inv) (fpok I hfr fun b hb => (hfr b hb).1) st go) (fun r s2 s1 rel ⟨u, hr, h4⟩ => ?_) (fun _ _ _ _ q => q.elim)
      subst hr
      refine wpAny_keepR rel h4 (fun _ s3 s5 rel' ⟨xv, H5, I5, r5, y5, st5, fr5⟩ => ?_) (fun _ _ _ _ q => q.elim)
      obtain ⟨d, hd, x5⟩ := yl xv H5 y5
      have ed : d = ds[j] := by rw [List.getElem?_eq_getElem hlt] at hd; exact (Option.some.inj hd).symm
      subst ed
      have I5p := I5.pinned (fpok I hfr fr5) (T.obj _ _ st5)
      obtain ⟨g', pg, simg⟩ := hg i.s i.H ⟨i.U, i.W, i.H⟩
      have gT' : NoOwn (T1 ++ z.nd) := I.noOwn
      have hgD := simg.run xv ds[j] σ H5 ⟨ρ, i.W⟩ (T1 ++ z.nd) _ (fun σ' H' => ∃ S', (S'.W = i.W ∧ tb N rem S'.ρ) ∧ R F.K ⟨i.U, i.W, i.H⟩ σ' H' S' (T1 ++ z.nd)) gT' x5 (hstep i.W) fun S' σ' H' q x => ⟨S', q, x⟩
      refine wpAny_keepR rel' (pg.run (z.gp ++ i.pc ++ pinsAt fp s3.heap) s3 σ H5 xv u _ I5p r5 hgD) (fun _ s6 s7 rel'' ⟨σ6, H6, I6, ⟨ρ6, W6⟩, ⟨e6, q6⟩, x6⟩ => ?_) (fun e s2' s' r q => exc_loop g k rfl rfl _ _ _ _ _ (xe_rel q r))
      have e6 : W6 = i.W := e6
      subst e6
      have pinI : ∀ {q : Addr × Obj}, q ∈ pinsAt fp s3.heap → F.L ≤ q.1 ∧ ∀ q' ∈ i.pc, q'.1 ≠ q.1 := fun {q} hq => by
        obtain ⟨hb, _⟩ := of_pinsAt hq
        exact ⟨(hfp _ hb).1, (hfr _ hb).2⟩
      have I6' := I.upd (ρ' := ρ6) (Inv.rel (I6.pins_of fun q hq => I6.pin q (List.mem_append_right _ (List.mem_append_left _ hq))) rel'') x6 (rel_keep rel'')
      have I7 : Gi F i zi ⟨pinsAt fp s3.heap ++ z.gp, z.gk, T1 ++ z.nd⟩ σ6 ρ6 H6 s7 := I6'.to rfl (Inv.rel (I6.pins_of fun q hq => I6.pin q (List.mem_append_right _ (by
          rcases List.mem_append.mp hq with hq | hq
          · rcases List.mem_append.mp hq with hq | hq
            · exact List.mem_append_right _ hq
            · exact List.mem_append_left _ (List.mem_append_left _ hq)
          · exact List.mem_append_left _ (List.mem_append_right _ hq)))) rel'') x6 (fun q hq => (List.mem_append.mp hq).elim pinI (I6'.gp q)) I6'.nd
      refine hb.run ⟨pinsAt fp s3.heap ++ z.gp, z.gk, T1 ++ z.nd⟩ _ _ _ _ id id N rem ρ6 i zi σ6 H6 s7 (pos_loop g rfl rfl) ⟨fun i' zi' rem' ρ' σ' H' s' I' hn' => ?_, fun i' zi' rem' e s' hx => exc_loop g k rfl rfl i' zi' rem' e s' hx⟩ I7 q6
      have pinO : ∀ b ∈ fp, ∃ o, (b, o) ∈ pinsAt fp s3.heap := fun b hb => let ⟨o, e, _⟩ := T.obj _ _ st5 b hb; ⟨o, mem_pinsAt hb e⟩
      refine segx_again rfl (ih (j + 1) i' zi' rem' ρ' σ' H' s' (by omega) hlt (I'.to rfl (I'.inv.pins_of fun q hq => I'.inv.pin q (List.mem_append_right _ ?_)) I'.ru (fun q hq => I'.gp q (List.mem_append_right _ hq)) I'.nd) (T.keep _ _ _ st5 fun b hb o e => (I'.inv.pin (b, o) (List.mem_append_right _ (List.mem_append_left _ (List.mem_append_left _ (mem_pinsAt hb e))))).1) (fun b hb => ?_) (hN rem' ρ' hn'))
      · rcases List.mem_append.mp hq with hq | hq
        · exact List.mem_append_left _ (List.mem_append_right _ hq)
        · exact List.mem_append_right _ hq
      · obtain ⟨o, ho⟩ := pinO b hb
        exact ⟨(I'.inv.pin (b, o) (List.mem_append_right _ (List.mem_append_left _ (List.mem_append_left _ ho)))).2.1, (I'.gp (b, o) (List.mem_append_left _ ho)).2⟩
  exact loop ds.length 0 i zi rem ρ2 σ H2 s4 rfl (Nat.zero_le _) I1' (by rw [r'.heap]; exact st2) (fun b hb => ⟨(f2 b hb).1, fun q hq => (f2 b hb).2.2.2.2.2 q (List.mem_append_right _ (List.mem_append_right _ hq))⟩) hf
end
end Kn
set_option Elab.async false
set_option maxRecDepth 100000
set_option linter.all false
set_option autoImplicit false
namespace Kn
open PySem L2 GenW
open PyProof.Rows (AllBare)
def young (L n : Nat) (pc : List (Addr × Obj)) : List Addr := (List.range n).filter fun b => decide (L ≤ b) && pc.all fun p => decide (p.1 ≠ b)
theorem mem_young {L n : Nat} {pc : List (Addr × Obj)} {b : Addr} (h : b ∈ young L n pc) : L ≤ b ∧ ∀ p ∈ pc, p.1 ≠ b := by
  obtain ⟨_, h⟩ := List.mem_filter.mp h
  rw [Bool.and_eq_true] at h
  exact ⟨of_decide_eq_true h.1, fun p hp => of_decide_eq_true (List.all_eq_true.mp h.2 p hp)⟩
theorem not_young {L n : Nat} {pc : List (Addr × Obj)} {b : Nat} (hb : b < n) (h : b ∉ young L n pc) : b < L ∨ ∃ p ∈ pc, p.1 = b := by
  by_cases c : b < L
  · exact .inl c
  · by_cases d : ∃ p ∈ pc, p.1 = b
    · exact .inr d
    · refine (h (List.mem_filter.mpr ⟨List.mem_range.mpr hb, ?_⟩)).elim
      rw [Bool.and_eq_true]
      exact ⟨decide_eq_true (Nat.le_of_not_lt c), List.all_eq_true.mpr fun p hp => decide_eq_true fun e => d ⟨p, hp, e⟩⟩
theorem un_young {fs : List Addr} {H H' : Hp} {s s' : Shared} {L : Nat} {pc : List (Addr × Obj)} (un : Un fs [] H H' (older s L).heap s'.heap) (hpc : ∀ p ∈ pc, s.heap.get? p.1 = some p.2 ∧ s'.heap.get? p.1 = some p.2 ∧ H' p.1 = none ∧ p.1 ∉ fs) : Un fs (young L s.heap.objs.size pc) H H' s.heap s'.heap where
  keep := fun b o h n hf hx => by
    rcases not_young (Heap.lt_size h) hx with c | ⟨p, hp, rfl⟩
    · exact un.keep b o (by rw [older_get c]; exact h) n hf (by simp)
    · obtain ⟨a1, a2, _⟩ := hpc p hp
      rw [h] at a1; cases a1
      exact a2
  slot := fun b o h n hf hx => by
    rcases not_young (Heap.lt_size h) hx with c | ⟨p, hp, rfl⟩
    · exact un.slot b o (by rw [older_get c]; exact h) n hf (by simp)
    · exact ((hpc p hp).2.2.2 hf).elim
  free := fun b o h n hx => by
    rcases not_young (Heap.lt_size h) hx with c | ⟨p, hp, rfl⟩
    · exact un.free b o (by rw [older_get c]; exact h) n (by simp)
    · exact (hpc p hp).2.2.1
  there := fun b o h hx => by
    rcases not_young (Heap.lt_size h) hx with c | ⟨p, hp, rfl⟩
    · exact un.there b o (by rw [older_get c]; exact h) (by simp)
    · exact ⟨_, (hpc p hp).2.1⟩
  tups := un.tups
  frzs := un.frzs
  tbls := un.tbls
structure Gf.Of (F : Gf) (X : Cx) : Prop where
  P : F.P = X.prog
  w : F.w = X.w
  K : F.K = X.K
  mg : F.mg = X.mg
  base : F.base = X.base
  A : F.A = X.A.in1
  outer : F.outer = X.stack
  yL : X.s_0.heap.objs.size ≤ F.L
  lL : X.env.locals < F.L
  cL : ∀ (x : Str) c, X.env.cells.lookup x = some c → c < F.L
def GenO (g : Nat) (go : Obj) : Prop := ∃ nm qn, go.cls = .type "generator" ∧ go.data = .fields #[.int g 0, nm, qn] ∧ go.slots = #[]
theorem GenO.notcell {g : Nat} {go : Obj} (h : GenO g go) : ∀ v, go.data ≠ .cell v := fun v q => by
  obtain ⟨_, _, _, d, _⟩ := h
  rw [d] at q; cases q
def KeepB (F : Gf) (z : Slp) (s s' : Shared) : Prop := (∀ (j : Nat) st, s.gens[j]? = some st → isSusp st = true → j ≠ F.g → (∀ q ∈ z.gk, q.1 ≠ j) → s'.gens[j]? = some st) ∧ s.gens.size ≤ s'.gens.size
structure Bed (F : Gf) (X : Cx) (pins : List (Addr × Obj)) (a : Addr) (go : Obj) (z : Slp) (gs : GenState) (U : Addr → Prop) (W : Wd) (ds : List D) (σ : St) (H : Hp) (s : Shared) : Prop where
  inv : Inv X (z.gp ++ (a, go) :: pins) σ H s
  dis : ∀ q ∈ z.gp, ∀ p ∈ (a, go) :: (X.pn ++ pins), q.1 ≠ p.1
  da : ∀ p ∈ X.pn ++ pins, p.1 ≠ a
  go : GenO F.g go
  st0 : s.gens[F.g]? = some gs
  gk : ∀ q ∈ z.gk, s.gens[q.1]? = some q.2
  st : SlpC F z
  asl : Asl F ds z gs
  rw : Rw F.K U W H
  nd : ∀ p ∈ z.nd, TmG F.K W.Tp U H p
theorem Inv.setG {X : Cx} {pins : List (Addr × Obj)} {σ : St} {H : Hp} {s : Shared} (I : Inv X pins σ H s) {g : Nat} {x : GenState} (hx : x.bare = true) : Inv X pins σ H (s.setGen g x) :=
  ⟨I.ok, I.os, allBare_setGen I.bare hx, I.base, I.loc, I.cell, I.free, I.freeC, I.pin, I.hok, I.len⟩
section
variable {F : Gf} {X : Cx} {pins : List (Addr × Obj)} {a : Addr} {go : Obj} {z : Slp} {gs : GenState} {U : Addr → Prop} {W : Wd} {ds : List D} {σ : St} {H : Hp} {s : Shared}
theorem Bed.wk (B : Bed F X pins a go z gs U W ds σ H s) (of : F.Of X) : WkOk F ⟨s, H, U, W, (a, go) :: (X.pn ++ pins)⟩ z := by
  have I := B.inv
  have e0 := I.env0
  refine ⟨?_, B.rw, fun p hp => ?_, B.gk, B.nd, fun p hp => ?_, (Array.getElem?_eq_some_iff.mp B.st0).1⟩
  · rw [of.P, of.w, of.K, of.mg, of.base, of.A, of.outer]
    exact ⟨e0.frames, e0.mod, e0.bs, e0.bsz, e0.funs, e0.frf, e0.hok, e0.bare⟩
  · obtain ⟨q1, q2, _⟩ := I.pin p (List.mem_append_right _ (List.mem_append_left _ hp))
    exact ⟨q1, q2⟩
  · have hp' : p ∈ X.pn ++ (z.gp ++ (a, go) :: pins) := by
      rcases List.mem_cons.mp hp with rfl | hp
      · exact List.mem_append_right _ (List.mem_append_right _ List.mem_cons_self)
      · rcases List.mem_append.mp hp with hp | hp
        · exact List.mem_append_left _ hp
        · exact List.mem_append_right _ (List.mem_append_right _ (List.mem_cons_of_mem _ hp))
    obtain ⟨q1, q2, q3, q4, q5⟩ := I.pin p hp'
    refine ⟨q1, q2, fun q hq => B.dis q hq p hp, fun m => ?_, q5⟩
    rw [of.outer] at m
    rcases List.mem_cons.mp (I.stkSub p.1 m) with e | m
    · exact q3 e
    · exact q4 m
theorem Bed.back (B : Bed F X pins a go z gs U W ds σ H s) (of : F.Of X) {s' : Shared} {H' : Hp} {U' : Addr → Prop} (p : Post F ⟨s, H, U, W, (a, go) :: (X.pn ++ pins)⟩ z s' H' U') : Inv X ((a, go) :: pins) σ H' s' := by
  have I := B.inv
  have w := B.wk of
  have I0 : Inv X ((a, go) :: pins) σ H s := I.pins_of fun q hq => I.pin q (List.mem_append_right _ (List.mem_append_right _ hq))
  have un : Un (frs X.stack) (young F.L s.heap.objs.size ((a, go) :: (X.pn ++ pins))) H H' s.heap s'.heap := by
    have u := p.un
    rw [of.outer] at u
    refine un_young u fun q hq => ?_
    obtain ⟨a1, _, _, a4, _⟩ := w.pc q hq
    obtain ⟨b1, b2⟩ := p.pc q hq
    rw [of.outer] at a4
    exact ⟨a1, b1, b2, a4⟩
  have hok : HOk X.prog X.w H' s'.heap := by rw [← of.P, ← of.w]; exact p.hok
  refine I0.call' (ch := young F.L s.heap.objs.size ((a, go) :: (X.pn ++ pins))) p.os un hok p.bare fun b hb => ?_
  obtain ⟨h1, h2⟩ := mem_young hb
  refine ⟨.inr (Nat.le_trans of.yL h1), Nat.ne_of_gt (Nat.lt_of_lt_of_le of.lL h1), fun x c hc => Nat.ne_of_lt (Nat.lt_of_lt_of_le (of.cL x c hc) h1), fun q hq => h2 q ?_⟩
  rcases List.mem_append.mp hq with hq | hq
  · exact List.mem_cons_of_mem _ (List.mem_append_left _ hq)
  · rcases List.mem_cons.mp hq with rfl | hq
    · exact List.mem_cons_self
    · exact List.mem_cons_of_mem _ (List.mem_append_right _ hq)
theorem Bed.next {Q : Option Value → Shared → Prop} {E : Value → Shared → Prop} (B : Bed F X pins a go z gs U W ds σ H s) (of : F.Of X) (O : F.Ok) (hc : X.A.handled = none) (hroom : X.A.depth < recursionLimit)
    (hnil : ds = [] → ∀ s' H' U', Inv X ((a, go) :: pins) σ H' s' → Rw F.K U' W H' → Kn.Fr ⟨U, W, H⟩ U' W H' → KeepB F z s s' → Q none s')
    (hcons : ∀ d ds', ds = d :: ds' → ∀ x v s' H' U' z' gs', Bed F X pins a go z' gs' U' W ds' σ H' s' → isSusp gs' = true → RelV x v → Dv F.K W.Tp (Hd U' H') x d → Kn.Fr ⟨U, W, H⟩ U' W H' → (∀ q ∈ z'.gk, s.gens.size ≤ q.1 ∨ ∃ q0 ∈ z.gk, q0.1 = q.1) → KeepB F z s s' → Q (some v) s') :
    wpAny (model X.prog X.w) X.A (pyNext (.ref a)) Q E s := by
  have w := B.wk of
  have I := B.inv
  obtain ⟨nm, qn, hcl, hdt, hsl⟩ := B.go
  have hga : s.heap.get? a = some go := (I.pin (a, go) (List.mem_append_right _ (List.mem_append_right _ List.mem_cons_self))).1
  have goes : GoesX (model X.prog X.w) X.A.in1 gs (.send .none) (s.setGen F.g .running) (Phi F ⟨s, H, U, W, (a, go) :: (X.pn ++ pins)⟩ z ds) := by
    have := B.asl.goes w
    rw [← of.P, ← of.w, ← of.A]
    exact this
  refine wpAny_gsz (n := s.gens.size) (Nat.le_refl _) ?_
  refine next_genX hc I.nolimit hroom ⟨go, nm, qn, hga, hcl, hdt, hsl⟩ B.st0 goes (fun e s₁ h => phi_quiet h) (fun v g₀ l k c p fs s₁ h => ?_) (fun r s₁ h => ?_)
  · cases ds with
    | nil => rcases h.1 with h | h <;> cases h
    | cons d ds =>
      obtain ⟨u, g1, l1, k1, c1, p1, fs1, e1, hq, x, H', U', z', po, rv, dv, sl, sc, nx⟩ := h
      intro hsz
      have J := B.back of po
      have hb : (End.susp v g₀ l k c p fs).genState.bare = true := End.bare_of_quiet hq
      have hsz' : s.gens.size ≤ s₁.gens.size := by rw [setGen_size] at hsz; exact hsz
      have hg : F.g < s₁.gens.size := Nat.lt_of_lt_of_le w.gl hsz'
      cases e1
      have J1 := Inv.setG J (g := F.g) hb
      have keepn : ∀ (j : Nat), j ≠ F.g → (s₁.setGen F.g (End.susp v g₀ l k c p fs).genState).gens[j]? = s₁.gens[j]? := fun j hj => Array.getElem?_setIfInBounds_ne (Ne.symm hj)
      refine hcons d ds rfl x v _ H' U' z' _ ⟨J1.pins_of fun q hq => ?_, fun q hq p hp => (sl.gp q hq).2.2 p hp |>.symm, B.da, B.go, setGen_at hg, fun q hq => ?_, sc, nx, po.rw, sl.nd⟩ rfl rv dv po.fr (fun q hq => (sl.gk q hq).2) ⟨fun j st h1 h2 h3 h4 => ?_, ?_⟩
      · rcases List.mem_append.mp hq with hq | hq
        · obtain ⟨a1, a2, a3⟩ := sl.gp q hq
          obtain ⟨b1, b2⟩ := sc.gp q hq
          refine ⟨a1, a2, Nat.ne_of_gt (Nat.lt_of_lt_of_le of.lL b1), fun m => ?_, b2⟩
          have m' : q.1 ∈ frs F.outer := by
            rw [of.outer]
            rcases I.ok.stk with e | ⟨e, hf⟩
            · rw [e]; exact m
            · rw [e]
              show q.1 ∈ List.filterMap _ _
              rw [List.filterMap_cons, hf]
              exact List.mem_cons_of_mem _ m
          exact absurd (O.fL _ m') (Nat.not_lt.mpr b1)
        · exact J1.pin q (List.mem_append_right _ hq)
      · rw [keepn q.1 (sc.gk q hq).2]
        exact (sl.gk q hq).1
      · rw [keepn j h3]
        exact po.gs j st h1 h2 h3 h4
      · rw [setGen_size]; exact hsz'
  · cases ds with
    | cons d ds => obtain ⟨_, _, _, _, _, _, _, e1, _⟩ := h; cases e1
    | nil =>
      obtain ⟨hr, H', U', po⟩ := h
      have J := B.back of po
      refine ⟨?_, fun h' hk hsz => ?_⟩
      · rcases hr with hr | hr
        · cases hr; exact .inl rfl
        · cases hr; exact .inr rfl
      · have hsz' : s.gens.size ≤ s₁.gens.size := by
          have : s.gens.size ≤ (s₁.setGen F.g .finished).gens.size := hsz
          rw [setGen_size] at this; exact this
        have J1 : Inv X ((a, go) :: pins) σ H' { s₁.setGen F.g .finished with heap := h' } := (Inv.setG J (g := F.g) (x := .finished) rfl).kept (t' := s₁.toks) hk
        refine hnil rfl _ H' U' J1 po.rw po.fr ⟨fun j st h1 h2 h3 h4 => ?_, ?_⟩
        · show (s₁.setGen F.g .finished).gens[j]? = _
          have : (s₁.setGen F.g .finished).gens[j]? = s₁.gens[j]? := Array.getElem?_setIfInBounds_ne (Ne.symm h3)
          rw [this]
          exact po.gs j st h1 h2 h3 h4
        · show s.gens.size ≤ (s₁.setGen F.g .finished).gens.size
          rw [setGen_size]; exact hsz'
end
end Kn
set_option Elab.async false
set_option maxRecDepth 100000
set_option linter.all false
set_option autoImplicit false
namespace Kn
open PySem L2 GenW
open PyProof.Rows (AllBare)
theorem segx_func {P : Program} {w : World} {A : Around} {fs : List Frame} {s : Shared} {Φ : End → Shared → Prop} {env : Env} {body : List Stmt}
    (h : SegX (model P w) A (.func body env) ((execs body env).wrap (fun f => .pure (.done (.ret (match f with | .ret v => v | _ => .none)))) (fun e => (leaving env e).wrap (fun _ => .raise e) .raise id id) id id) fs s Φ) :
    SegX (model P w) A (.func body env) ((model P w).den (.func body env)) fs s Φ := by
  show SegX (model P w) A (.func body env) (.point [] fun _ => ((execs body env).onRaise (leaving env)) >>= _) fs s Φ
  refine segx_point ?_
  rw [Sem.onRaise_eq_wrap, Sem.bind_eq_wrap', Sem.wrap_wrap]
  refine cast ?_ h
  congr 1
  exact Sem.wrap_congr _ _ _ (fun f => by cases f <;> rfl) (fun e => by rw [Sem.bind_eq_wrap, Sem.wrap_wrap]; rfl)
abbrev GSpec := List D → List D → Prop
def Gf.Is (F : Gf) (P : Program) (w : World) (K : PySem.W.Frag) (mg : Str → Option Value) (base : Heap) (A : Around) (outer : List Env) (L : Addr) (g : Nat) : Prop :=
  F.P = P ∧ F.w = w ∧ F.K = K ∧ F.mg = mg ∧ F.base = base ∧ F.A = A ∧ F.outer = outer ∧ F.L = L ∧ F.g = g
def Made (P : Program) (w : World) (K : PySem.W.Frag) (mg : Str → Option Value) (base : Heap) (k : Nat) (outer : List Env) (s : Shared) (vs : List V) (ds outs : List D) (u : Value) (s' : Shared) : Prop :=
  ∃ (a : Addr) (go : Obj) (c : Code) (gp : List (Addr × Obj)) (nd : List Tm), u = .ref a ∧ s.heap.objs.size ≤ a ∧ s'.heap.get? a = some go ∧ GenO s.gens.size go ∧ s'.gens = s.gens.push (.fresh c) ∧ s'.os = s.os ∧ (∀ b o, s.heap.get? b = some o → s'.heap.get? b = some o) ∧
    (∀ p ∈ gp, s.heap.objs.size ≤ p.1 ∧ p.1 ≠ a ∧ s'.heap.get? p.1 = some p.2 ∧ ∀ v, p.2.data ≠ .cell v) ∧
    (∀ U W H, Rw K U W H → DvL K W.Tp (Hd U H) vs ds → ∀ p ∈ nd, TmG K W.Tp U H p) ∧
    ∀ A, Room k A → A.frames = some outer → ∃ F : Gf, F.Is P w K mg base A outer s.heap.objs.size s.gens.size ∧ F.Ok ∧ Asl F outs ⟨gp, [], nd⟩ (.fresh c)
structure GRaw (P : Program) (w : World) (K : PySem.W.Frag) (mg : Str → Option Value) (base : Heap) (k : Nat) (f : Addr) (fd : FuncData) (ps : List Str) (Fs : GSpec) : Prop where
  run : ∀ (A : Around) (outer : List Env) (s : Shared) (H : Hp) (args : Args) (us : List Value) (vs : List V) (ds outs : List D), Room k A → Env0 P w K mg base A outer s H → BindsTo s fd args (ps.zip us) → Vals vs us → vs.length = ps.length → ds.length = vs.length → Fs ds outs →
    codeAny (model P w) A (.call (.ref f) args) (fun r s' => match r with | .ok (.ret u) => Made P w K mg base k outer s vs ds outs u s' | _ => False) s
theorem allVal_rep : ∀ n, allVal (List.replicate n none) = true
  | 0 => rfl
  | n + 1 => by rw [List.replicate_succ]; exact allVal_rep n
theorem allVal_S0 {N : List Str} : ∀ (ds : List D) (n : Nat), allVal (ds.map (fun d => some (PC.val d)) ++ List.replicate n none) = true
  | [], n => allVal_rep n
  | d :: ds, n => allVal_S0 (N := N) ds n
theorem slots_at {N : List Str} {vs : List V} {ds : List D} (h : vs.length = ds.length) : ∀ (i : Nat) (c : PC), (ds.map (fun d => some (PC.val d)) ++ List.replicate (N.length - ds.length) none)[i]? = some (some c) → ∃ v, (start N vs)[i]? = some (some v) := fun i c hi => by
  by_cases q : i < ds.length
  · have hlt : i < vs.length := by omega
    refine ⟨vs[i], ?_⟩
    unfold L2.start
    rw [List.getElem?_append_left (by simpa using hlt), List.getElem?_map, List.getElem?_eq_getElem hlt]; rfl
  · rw [List.getElem?_append_right (by simpa using q), List.getElem?_replicate] at hi
    split at hi
    · cases hi
    · cases hi
theorem slots_len {N : List Str} {vs : List V} {ds : List D} (h : vs.length = ds.length) : (start N vs).length = (ds.map (fun d => some (PC.val d)) ++ List.replicate (N.length - ds.length) none).length := by
  unfold L2.start
  rw [List.length_append, List.length_append, List.length_map, List.length_map, List.length_replicate, List.length_replicate, h]
section
variable {P : Program} {w : World} {K : PySem.W.Frag} {mg : Str → Option Value} {base : Heap}
theorem graw_of {k : Nat} {f : Addr} {name qual : Str} {params : Arguments} {body : List Stmt} {scope : Scope} {dV kV doc pm cdv ct oc : Value} {an od : Option Addr} {osl : Array (Option Value)} {N ps : List Str} {Fs : GSpec}
    (lk : K.lookup f = some ⟨oc, od, .func (PySem.W.fnOf name qual params body scope dV kV doc pm an cdv ct), osl⟩) (hcd : PySem.W.codeIn K cdv qual = true) (S : GScope N ps scope) (noC : ∀ y ∈ scope.names, y.2 ≠ .cell)
    (hbody : ∀ (F : Gf), F.Ok → F.P = P → F.w = w → F.K = K → F.mg = mg → F.base = base → F.N = N → F.scope = scope → F.qual = qual → Room k (F.A.deeper F.env) → ∀ ds outs, Fs ds outs → ds.length = ps.length →
      ∃ t, Kn.GSs F body t ∧ t (fun rem _ => rem = []) outs (ds.map (fun d => some (PC.val d)) ++ List.replicate (N.length - ds.length) none)) :
    GRaw P w K mg base (k + 1) f (PySem.W.fnOf name qual params body scope dV kV doc pm an cdv ct) ps Fs := by
  refine ⟨fun A outer s H args us vs ds outs hr e0 hb r hl hld hsp => ?_⟩
  have KX : K.In s.heap := e0.mod.kin.keeps fun b o e => (e0.bs b o e).1
  have lim : s.heap.NoLimit := e0.mod.nolimit.keeps fun b o e => (e0.bs b o e).1
  have hkind : ∀ y ∈ ps.zip us, scope.names.lookup y.1 = some .local ∨ (scope.names.lookup y.1 = some .cell ∧ ((cellsFrom (s.heap.objs.size + 1) scope.names []).lookup y.1).isSome = true) := fun ⟨n, v⟩ hy => by
    rcases S.par n (List.of_mem_zip hy).1 with q | q
    · exact .inl q
    · exact .inr ⟨q, PySem.W.cellsFrom_some _ _ _ (.inl q)⟩
  refine codeAny_call_generator hr.depth (KX _ _ lk) rfl S.co S.gen rfl (PySem.W.codeRec_of KX hcd) (hb _ _ _ _ ?_)
  refine wpAny_newFunctionEnv_cells S.kind hkind fun env he s1 x => ?_
  subst he
  have lim1 : s1.heap.NoLimit := lim.keeps x.toInCall.keep
  refine ⟨lim1, ?_⟩
  obtain ⟨h1, tk, es1, hk1⟩ := x.done
  have os1 : s1.os = s.os := by rw [es1]
  have gen1 : s1.gens = s.gens := by rw [es1]
  have lt1 : s.heap.objs.size < s1.heap.objs.size := x.toInCall.ns.lt
  have kp1 : ∀ b o, s.heap.get? b = some o → s1.heap.get? b = some o := x.toInCall.keep
  have I1 : Inv (gcxOf P w K mg base N qual scope f cdv A outer s H (fun _ _ _ => False) []) [] (start N vs) H s1 := inv_startG S hr.hd e0 hl r x
  have nocell : ∀ n, cellsFrom n scope.names [] = [] := by
    have : ∀ (l : List (Str × NameKind)) n acc, (∀ y ∈ l, y.2 ≠ .cell) → cellsFrom n l acc = acc := by
      intro l
      induction l with
      | nil => intro n acc _; rfl
      | cons y l ih =>
        intro n acc h
        obtain ⟨a, b⟩ := y
        have hb := h (a, b) List.mem_cons_self
        cases b <;> first | (exact (hb rfl).elim) | exact ih n acc fun y hy => h y (List.mem_cons_of_mem _ hy)
    exact fun n => this _ n [] noC
  obtain ⟨m, ⟨o, esd, ep, g1, g2, g3, g4⟩, hloc⟩ := I1.loc
  have g1 : s1.heap.get? s.heap.objs.size = some o := g1
  have main : ∀ (go : Obj) (nm qn : Value) (tk2 : Nat), go.cls = .type "generator" → go.data = .fields #[.int s1.gens.size 0, nm, qn] → go.slots = #[] → (∀ h : Heap, (h.push go).get? h.objs.size = some go) →
      Made P w K mg base (k + 1) outer s vs ds outs (.ref s1.heap.objs.size) { s1 with gens := s1.gens.push (.fresh (.func body (PyProof.Rows.envOfC qual scope s.heap.objs.size f cdv))), toks := tk2, heap := s1.heap.push go } := by
    intro go nm qn tk2 hgc hgd hgs hgp
    refine ⟨s1.heap.objs.size, go, _, [(s.heap.objs.size, o)], slotsT (start N vs) (ds.map (fun d => some (PC.val d)) ++ List.replicate (N.length - ds.length) none) ++ [], rfl, Nat.le_of_lt lt1, hgp _, ⟨nm, qn, hgc, by rw [hgd, gen1], hgs⟩, by show s1.gens.push _ = _; rw [gen1], os1, fun b o' e => Heap.get?_push_of_some _ (kp1 b o' e), fun p hp => ?_, fun U W H' rw' dv => ?_, fun A' hrA hfr => ?_⟩
    · rw [List.mem_singleton.mp hp]
      exact ⟨Nat.le_refl _, Nat.ne_of_lt lt1, Heap.get?_push_of_some _ g1, fun v q => by rw [g2] at q; cases q⟩
    · intro p hp
      rw [List.append_nil] at hp
      exact slotsT_tm (F := ⟨P, w, K, mg, base, N, qual, scope, f, cdv, A, outer, 0, 0⟩) (allVal_S0 (N := N) ds _) (RU.start (N := N) rw' dv).slot p hp
    · have ok : Gf.Ok ⟨P, w, K, mg, base, N, qual, scope, f, cdv, A', outer, s.heap.objs.size, s.gens.size⟩ := by
        refine ⟨e0.mod, S.kind, fun y => ?_, fun y => ⟨fun q => ?_, fun q => ?_⟩, hrA.hd, hfr, e0.bsz, fun b hb' => ?_⟩
        · show (cellsFrom _ scope.names []).lookup y = none
          rw [nocell]; rfl
        · exact noC _ (PySem.mem_of_lookup (show scope.names.lookup y = some .cell from q)) rfl
        · exact S.nofree _ (PySem.mem_of_lookup (show scope.names.lookup y = some .free from q)) rfl
        · obtain ⟨_, o', ho', _⟩ := e0.funs.mem hb'
          exact Heap.lt_size ho'
      refine ⟨⟨P, w, K, mg, base, N, qual, scope, f, cdv, A', outer, s.heap.objs.size, s.gens.size⟩, ⟨rfl, rfl, rfl, rfl, rfl, rfl, rfl, rfl, rfl⟩, ok, ?_⟩
      · refine Asl.of fun i wk => ⟨rfl, segx_func ?_⟩
        obtain ⟨t, hgs, ht⟩ := hbody ⟨P, w, K, mg, base, N, qual, scope, f, cdv, A', outer, s.heap.objs.size, s.gens.size⟩ ok rfl rfl rfl rfl rfl rfl rfl rfl (hrA.deeper _) ds outs hsp (by rw [hld, hl])
        have lo : LocI ⟨P, w, K, mg, base, N, qual, scope, f, cdv, A', outer, s.heap.objs.size, s.gens.size⟩ (start N vs) o := ⟨⟨m, ⟨esd, ep, g2, g3, g4⟩, fun j y v a b c => by
          obtain ⟨u, rv, k⟩ := hloc j y v a b c
          rcases k with ⟨k, q⟩ | ⟨k, q⟩
          · exact ⟨u, rv, k, q⟩
          · rcases k with k | k
            · exact (noC _ (PySem.mem_of_lookup (show scope.names.lookup y = some .cell from k)) rfl).elim
            · exact (S.nofree _ (PySem.mem_of_lookup (show scope.names.lookup y = some .free from k)) rfl).elim⟩, I1.len⟩
        have gi := gi_woken (z := ⟨[], [], []⟩) ok lo (allVal_S0 (N := N) ds _) (slots_at hld.symm) (by rw [slots_len hld.symm]) (fun p hp => by cases hp) (fun q hq => by cases hq) wk
        refine hgs.run ⟨[], [], []⟩ _ [] _ _ id id _ outs _ i _ _ i.H _ ⟨over_func, rfl, rfl, rfl⟩ ⟨fun i zi rem ρ σ H s I e => ?_, fun i zi rem e s hx => ?_⟩ gi ht
        · subst e
          obtain ⟨U, ru⟩ := I.ru
          exact segx_end (.ok (.ret .none)) ⟨.inl rfl, H, U, gi_post I.inv ru I.gs I.sz⟩
        · refine segx_wrap ?_
          rw [over_func]
          exact wpAny_mono (show wpAny _ _ _ (fun _ _ => False) (fun _ _ => False) _ from hx) (fun _ _ q => q.elim) fun _ _ q => q.elim
  exact main _ _ _ _ rfl rfl rfl fun h => Heap.get?_push_size _ rfl
end
end Kn
set_option Elab.async false
set_option maxRecDepth 100000
set_option linter.all false
set_option autoImplicit false
namespace Kn
open PySem L2 GenW
open PyProof.Rows (AllBare)
structure Gx (P : Program) (w : World) (K : PySem.W.Frag) (mg : Str → Option Value) (base : Heap) (x : Str) (k : Nat) (ps : List Str) (Fs : GSpec) : Prop where
  ex : ∃ (f : Addr) (fd : FuncData), GRaw P w K mg base k f fd ps Fs ∧ mg x = some (.ref f) ∧ PySem.W.keepIn K (.ref f) = true ∧ Binds K fd ps []
theorem Fz.okG {P : Program} {w : World} {K : PySem.W.Frag} {mg : Str → Option Value} {base : Heap} {x : Str} {st : Stmt} {ps N : List Str} {k : Nat} {Fs : GSpec} (F : Fz K mg x st ps) (S : GScope N ps (defScope st)) (noC : ∀ y ∈ (defScope st).names, y.2 ≠ .cell)
    (hbody : ∀ (F : Gf), F.Ok → F.P = P → F.w = w → F.K = K → F.mg = mg → F.base = base → F.N = N → F.scope = defScope st → F.qual = x → Room k (F.A.deeper F.env) → ∀ ds outs, Fs ds outs → ds.length = ps.length →
      ∃ t, Kn.GSs F (defBody st) t ∧ t (fun rem _ => rem = []) outs (ds.map (fun d => some (PC.val d)) ++ List.replicate (N.length - ds.length) (Option.none : Option PC))) : Gx P w K mg base x (k + 1) ps Fs := by
  obtain ⟨f, fd, F1, m, b⟩ := F.ex
  obtain ⟨oc, od, kV, doc, pm, an, cdv, ct, osl, rfl, lk, hcd⟩ := F1.ex
  exact ⟨f, _, graw_of lk hcd S noC hbody, m, F1.kp, b⟩
theorem GRaw.mono {P : Program} {w : World} {K : PySem.W.Frag} {mg : Str → Option Value} {base : Heap} {j k : Nat} {f : Addr} {fd : FuncData} {ps : List Str} {Fs : GSpec} (G : GRaw P w K mg base j f fd ps Fs) (h : j ≤ k) : GRaw P w K mg base k f fd ps Fs :=
  ⟨fun A outer s H args us vs ds outs hr e0 hb r h1 h2 h3 => codeAny_mono (G.run A outer s H args us vs ds outs (hr.mono h) e0 hb r h1 h2 h3) fun r s' q => by
    cases r with
    | error e => exact q
    | ok fl =>
      cases fl with
      | ret u =>
        obtain ⟨a, go, c, gp, nd, q1, q2, q3, q4, q5, q6, q7, q8, q9, q10⟩ := q
        exact ⟨a, go, c, gp, nd, q1, q2, q3, q4, q5, q6, q7, q8, q9, fun A hA => q10 A (hA.mono h)⟩
      | next => exact q
      | brk => exact q
      | cont => exact q⟩
theorem Gx.mono {P : Program} {w : World} {K : PySem.W.Frag} {mg : Str → Option Value} {base : Heap} {x : Str} {j k : Nat} {ps : List Str} {Fs : GSpec} (G : Gx P w K mg base x j ps Fs) (h : j ≤ k) : Gx P w K mg base x k ps Fs :=
  let ⟨f, fd, a, b⟩ := G.ex
  ⟨f, fd, a.mono h, b⟩
structure Born (X : Cx) (pins : List (Addr × Obj)) (σ : St) (n0 : Nat) (vs : List V) (ds outs : List D) (H1 : Hp) (s' : Shared) (F : Gf) (a : Addr) (go : Obj) (z : Slp) (gs : GenState) : Prop where
  inv : Inv X pins σ H1 s'
  of : F.Of X
  ok : F.Ok
  g0 : n0 ≤ F.g
  bed : ∀ U W, Rw X.K U W H1 → DvL X.K W.Tp (Hd U H1) vs ds → Bed F X pins a go z gs U W outs σ H1 s'
  gk : z.gk = []
  fr : isSusp gs = false
  aL : F.L ≤ a
section
variable {X : Cx} {pins : List (Addr × Obj)} {σ : St} {H H1 : Hp} {s s1 s' : Shared}
theorem born_of {k : Nat} {vs : List V} {ds outs : List D} {u : Value} {n0 : Nat} (hr : Room (k + 1) X.A) (I1 : Inv X pins σ H1 s1) (hsz : n0 ≤ s1.gens.size) (h : Made X.prog X.w X.K X.mg X.base k X.stack s1 vs ds outs u s') : ∃ F a go z gs, u = .ref a ∧ Born X pins σ n0 vs ds outs H1 s' F a go z gs := by
  obtain ⟨a, go, c, gp, nd, rfl, ha, hga, hgo, hg, hos, hk, hgp, hnd, hF⟩ := h
  obtain ⟨F, ⟨e1, e2, e3, e4, e5, e6, e7, e8, e9⟩, ok, asl⟩ := hF X.A.in1 hr.in1 I1.ok.frames
  have bare : AllBare s'.gens := by rw [hg]; exact PyProof.Rows.AllBare.push I1.bare rfl
  have I2 : Inv X pins σ H1 s' := I1.call' (ch := []) hos (Un.kept hk) (I1.hok.kept hk) bare fun b z => by simp at z
  have old : ∀ p ∈ X.pn ++ pins, p.1 < s1.heap.objs.size := fun p hp => Heap.lt_size (I1.pin p hp).1
  have yng : ∀ b, s1.heap.objs.size ≤ b → H1 b = none ∧ b ≠ X.env.locals ∧ b ∉ X.fs := fun b hb => ⟨I1.hok.fresh hb, Nat.ne_of_gt (Nat.lt_of_lt_of_le I1.lt hb), I1.nofs hb⟩
  refine ⟨F, a, go, ⟨gp, [], nd⟩, .fresh c, rfl, I2, ⟨e1, e2, e3, e4, e5, e6, e7, by rw [e8]; exact I1.sz, by rw [e8]; exact I1.lt, fun x c hc => ?_⟩, ok, by rw [e9]; exact hsz, fun U W rw' dv => ⟨I2.pins_of fun p hp => ?_, fun q hq p hp => ?_, fun p hp => Nat.ne_of_lt (Nat.lt_of_lt_of_le (old p hp) ha), by rw [e9]; exact hgo, by rw [hg, e9]; exact Array.getElem?_push_size .., (fun q hq => by cases hq), ⟨fun p hp => ?_, (fun q hq => by cases hq)⟩, asl, by rw [e3]; exact rw', fun p hp => by rw [e3]; exact hnd U W H1 rw' dv p hp⟩, rfl, rfl, by rw [e8]; exact ha⟩
  · rw [e8]
    obtain ⟨v, q⟩ := I1.cell x c hc
    exact q.lt
  · rcases List.mem_append.mp hp with hp | hp
    · obtain ⟨a1, a2, a3, a4⟩ := hgp p hp
      obtain ⟨b1, b2, b3⟩ := yng p.1 a1
      exact ⟨a3, b1, b2, b3, a4⟩
    · rcases List.mem_cons.mp hp with rfl | hp
      · obtain ⟨b1, b2, b3⟩ := yng a ha
        exact ⟨hga, b1, b2, b3, hgo.notcell⟩
      · exact I2.pin p (List.mem_append_right _ hp)
  · obtain ⟨a1, a2, _⟩ := hgp q hq
    rcases List.mem_cons.mp hp with rfl | hp
    · exact a2
    · exact Nat.ne_of_gt (Nat.lt_of_lt_of_le (old p hp) a1)
  · obtain ⟨a1, a2, a3, a4⟩ := hgp p hp
    exact ⟨by rw [e8]; exact a1, a4⟩
theorem wp_genCall {k : Nat} {ps : List Str} {Fs : GSpec} {x : Str} {p pos : PySem.Pos} {e : Expr} {es : List Expr} {ta : TA} {Rr : List V → List D → List D → Hp → Prop} (G : Gx X.prog X.w X.K X.mg X.base x k ps Fs) (hr : Room (k + 1) X.A) (hg : Gl X x) (ha : PA X (e :: es) ta)
    (I : Inv X pins σ H s) (h : ta σ H fun vs H1 => ∃ ds outs, ds.length = ps.length ∧ vs.length = ds.length ∧ Fs ds outs ∧ Rr vs ds outs H1)
    (hdb : (x == ("__debug__" : Str)) = false := by decide) (he : starEach (e :: es) X.env = (false, eval e X.env) :: starEach es X.env := by rfl) (hpl : (backTo pos (starEach es X.env)).any (·.1) = false := by rfl) :
    wpAny (model X.prog X.w) X.A (eval (.Call (.Name x p) (e :: es) [] pos) X.env) (fun u s' => ∃ vs ds outs H1 F a go z gs, u = .ref a ∧ Born X pins σ s.gens.size vs ds outs H1 s' F a go z gs ∧ Rr vs ds outs H1) X.xe s := by
  obtain ⟨f, fd, F1, m, kp, b⟩ := G.ex
  refine wpAny_Call_Name_kw (ld_glob I hg m ?_ hdb)
  refine PySem.W.callWith_K (h₀ := X.base) I.ok.mod.kin kp (wpAny_gsz (n := s.gens.size) (Nat.le_refl _) (wpAny_mono (ha.run pos pins s σ H _ I h) (fun us s1 ⟨vs, H1, I1, r, ds, outs, l1, l2, hF, hR⟩ hsz => ⟨I1.kIn, ?_⟩) fun _ _ q _ => q)) he hpl
  have hlen : vs.length = ps.length := by omega
  have hb := b s1 us I1.kIn (by rw [List.append_nil, ← r.length]; exact hlen)
  rw [List.append_nil] at hb
  refine wpAny_call (codeAny_mono (F1.run X.A X.stack s1 H1 ⟨us, []⟩ us vs ds outs (hr.mono (Nat.le_succ k)) I1.env0 hb r hlen l2.symm hF) fun r s' hq => ?_)
  cases r with
  | error e => exact hq.elim
  | ok fl =>
    cases fl with
    | ret u =>
      obtain ⟨F, a, go, z, gs, eu, B⟩ := born_of hr I1 hsz hq
      exact ⟨vs, ds, outs, H1, F, a, go, z, gs, eu, B, hR⟩
    | next => exact hq.elim
    | brk => exact hq.elim
    | cont => exact hq.elim
theorem Bed.rel {F : Gf} {a : Addr} {go : Obj} {z : Slp} {gs : GenState} {U : Addr → Prop} {W : Wd} {ds : List D} {G : Array GenState} (B : Bed F X pins a go z gs U W ds σ H s) (r : Rel G s s') (hk : z.gk = []) (hs : isSusp gs = false) : Bed F X pins a go z gs U W ds σ H s' where
  inv := Inv.rel B.inv r
  dis := B.dis
  da := B.da
  go := B.go
  st0 := (r.awake B.st0 hs).1
  gk := fun q hq => by rw [hk] at hq; cases hq
  st := B.st
  asl := B.asl
  rw := B.rw
  nd := B.nd
theorem Bed.isGen {F : Gf} {a : Addr} {go : Obj} {z : Slp} {gs : GenState} {U : Addr → Prop} {W : Wd} {ds : List D} (B : Bed F X pins a go z gs U W ds σ H s) : s.heap.get? a = some go ∧ s.heap.IsGen a F.g := by
  have h := (B.inv.pin (a, go) (List.mem_append_right _ (List.mem_append_right _ List.mem_cons_self))).1
  obtain ⟨nm, qn, h1, h2, h3⟩ := B.go
  exact ⟨h, go, nm, qn, h, h1, h2, h3⟩
theorem Bed.go_ {F : Gf} {a : Addr} {go : Obj} {z : Slp} {gs : GenState} {U : Addr → Prop} {W : Wd} {ds : List D} {M : Model} {A : Around} {E : Value → Shared → Prop} {tg : Expr} {u : Value} {Q : Unit → Shared → Prop} (B : Bed F X pins a go z gs U W ds σ H s) (q : Q () s) : wpAny M A (letOwnedTupleGo tg (.ref a) u) Q E s := by
  obtain ⟨nm, qn, h1, h2, h3⟩ := B.go
  exact go_of B.isGen.1 h1 h2 (by decide) q
end
theorem RU.retm {K : PySem.W.Frag} {e : Ent} {σ : St} {H : Hp} {S : PSt} {T T' : List Tm} {U : Addr → Prop} (x : RU K e σ H S T U) (h : ∀ p ∈ T', TmOk K e U S H σ p) : RU K e σ H S T' U := { x with tmp := h }
def Away (F : Gf) (i : Wk) (zi z : Slp) (F2 : Gf) (z2 : Slp) : Prop := ∀ q, (q = F2.g ∨ ∃ q2 ∈ z2.gk, q2.1 = q) → q ≠ F.g ∧ (i.s.gens.size ≤ q ∨ ∃ q0 ∈ zi.gk, q0.1 = q) ∧ ∀ q' ∈ z.gk, q'.1 ≠ q
section
variable {F : Gf} {i : Wk} {z zi : Slp} {σ : St} {H : Hp} {s : Shared} {ρ : List (Option PC)}
theorem Gi.past {F2 : Gf} {z2 : Slp} {H' : Hp} {s' : Shared} (I : Gi F i zi z σ ρ H s) (J : Inv (F.cx i.s i.H) (z.gp ++ i.pc) σ H' s') (r : ∃ U, RU F.K ⟨i.U, i.W, i.H⟩ σ H' ⟨ρ, i.W⟩ z.nd U) (k : KeepB F2 z2 s s') (aw : Away F i zi z F2 z2) : Gi F i zi z σ ρ H' s' where
  inv := J
  ru := r
  gk := fun q hq => by
    obtain ⟨a, b, c⟩ := I.gk q hq
    exact ⟨k.1 q.1 q.2 a b ((aw F2.g (.inl rfl)).2.2 q hq) fun q2 hq2 e => (aw q2.1 (.inr ⟨q2, hq2, rfl⟩)).2.2 q hq e.symm, b, c⟩
  gs := fun j st h1 h2 h3 h4 => by
    have hj : j < i.s.gens.size := (Array.getElem?_eq_some_iff.mp h1).1
    have ne : ∀ q, (q = F2.g ∨ ∃ q2 ∈ z2.gk, q2.1 = q) → j ≠ q := fun q hq e => by
      rcases (aw q hq).2.1 with h | ⟨q0, h, h'⟩
      · omega
      · exact h4 q0 h (by rw [h', e])
    exact k.1 j st (I.gs j st h1 h2 h3 h4) h2 (ne _ (.inl rfl)) fun q2 hq2 e => ne q2.1 (.inr ⟨q2, hq2, rfl⟩) e.symm
  gp := I.gp
  nd := I.nd
  gl := I.gl
  sz := Nat.le_trans I.sz k.2
  hL := I.hL
end
def tgForG (Fs : GSpec) (n : Nat) (tad : TDA) (g : TDG) (tb : GT) : GT := fun E rem ρ => ∀ W, tad ⟨ρ, W⟩ fun rs S1 => frcL rs S1 fun ds S2 => S2.W = W ∧ ds.length = n ∧ ∃ outs, Fs ds outs ∧ forG g tb E outs rem S2.ρ
theorem gst_forG {F : Gf} (O : F.Ok) {tg e : Expr} {es : List Expr} {x : Str} {k : Nat} {ps : List Str} {Fs : GSpec} {body : List Stmt} {pp cp pos : PySem.Pos} {tad : TDA} {g0 : TDG} {tb : GT} (G : Gx F.P F.w F.K F.mg F.base x k ps Fs) (hr : Room (k + 1) (F.A.deeper F.env)) (hgl : ∀ (s0 : Shared) (H0 : Hp), Gl (F.cx s0 H0) x)
    (ha : ∀ (s0 : Shared) (H0 : Hp) (en : Ent), ∃ ta, PA (F.cx s0 H0) (e :: es) ta ∧ SimA F.K en ta tad) (hg : ∀ (s0 : Shared) (H0 : Hp) (e : Ent), ∃ g', PG (F.cx s0 H0) tg g' ∧ SimG F.K e g' g0) (hb : Kn.GSs F body tb)
    (hdb : (x == ("__debug__" : Str)) = false := by decide) (he : starEach (e :: es) F.env = (false, eval e F.env) :: starEach es F.env := by rfl) (hpl : (backTo cp (starEach es F.env)).any (·.1) = false := by rfl) (hs : ∀ y, foldedSetIterable (.Call (.Name x pp) (e :: es) [] cp) F.env y = pure y := by intro _; rfl) :
    GSt F (.For tg (.Call (.Name x pp) (e :: es) [] cp) body [] pos) (tgForG Fs ps.length tad g0 tb) := by
  refine ⟨fun z c fs K J gd lv E rem ρ i zi σ H s g k I ht => segx_For ?_ hs⟩
  obtain ⟨ta, pa, sim⟩ := ha i.s i.H ⟨i.U, i.W, i.H⟩
  obtain ⟨U, ru⟩ := I.ru
  rw [g.over]
  have hD := sim.run σ H ⟨ρ, i.W⟩ z.nd _ (fun vs H1 => ∃ ds outs, ds.length = ps.length ∧ vs.length = ds.length ∧ Fs ds outs ∧ ∃ S2 : PSt, (S2.W = i.W ∧ forG g0 tb E outs rem S2.ρ) ∧ ∃ U, RU F.K ⟨i.U, i.W, i.H⟩ σ H1 S2 z.nd U ∧ DvL F.K S2.W.Tp (Hd U H1) vs ds) ⟨U, ru⟩ (ht i.W) fun rs S' vs H' h hl x => by
    refine R.frcL hl x h fun ds S2 ⟨h1, h2, outs, h3, h4⟩ hl2 ⟨U2, x2⟩ => ?_
    exact ⟨ds, outs, h2, hl2, h3, S2, ⟨h1, h4⟩, U2, x2.less fun p hp => List.mem_append_right _ hp, RU.tms hl2 x2⟩
  refine wpAny_keep (wp_genCall (X := F.cx i.s i.H) G hr (hgl _ _) pa (Inv.poisI I.inv) hD hdb he hpl) (fun v s2 s1 r q => ?_) fun e s2' s' r q => k.exc _ _ _ _ _ (xe_rel q r)
  obtain ⟨vs, ds, outs, H1, F2, a, go, z2, gs2, rfl, B, ⟨ρ2, W2⟩, ⟨e1, hf⟩, U2, x2, dv⟩ := q
  have e1 : W2 = i.W := e1
  subst e1
  have bed := (B.bed U2 i.W x2.wo dv).rel r B.gk B.fr
  refine wpAny_pyIter_gen bed.isGen.2 fun p => ?_
  have I1 := I.upd (H' := H1) (s' := s1) (Inv.rel B.inv r) ⟨U2, x2⟩ (rel_keep r)
  have psz : (poisS s).gens.size = s.gens.size := by simp [poisS]
  have g0' : s.gens.size ≤ F2.g := by rw [← psz]; exact B.g0
  have of : ∀ (i' : Wk), F2.Of (F.cx i'.s i'.H) := fun i' => ⟨B.of.P, B.of.w, B.of.K, B.of.mg, B.of.base, B.of.A, B.of.outer, Nat.le_trans older_le (Nat.le_of_lt (show F.L < F2.L from B.of.lL)), B.of.lL, fun y c h => by
    have h : F.env.cells.lookup y = some c := h
    rw [O.noc] at h; cases h⟩
  have hroom : (F.A.deeper F.env).depth < recursionLimit := hr.depth
  have loop : ∀ (os : List D) (i : Wk) (zi : Slp) (rem : List D) (ρ : List (Option PC)) (σ : St) (H : Hp) (s : Shared) (z2 : Slp) (gs2 : GenState) (U : Addr → Prop), Gi F i zi z σ ρ H s → RU F.K ⟨i.U, i.W, i.H⟩ σ H ⟨ρ, i.W⟩ z.nd U → Bed F2 (F.cx i.s i.H) (z.gp ++ i.pc) a go z2 gs2 U i.W os σ H s → Away F i zi z F2 z2 → forG g0 tb E os rem ρ →
      SegX F.M F.A (.forLoop tg (.ref a) body [] F.env) (F.M.den (.forLoop tg (.ref a) body [] F.env)) (loopFr F.env K J gd lv c p (lv []) (gd false) :: fs) s (Phi F i zi rem) := by
    intro os
    induction os with
    | nil =>
      intro i zi rem ρ σ H s z2 gs2 U I ru bed aw hf
      refine segx_forLoop ?_
      rw [(pos_loop (K := K) (J := J) (lv := lv) (p := p) (l := lv []) g rfl rfl).over]
      refine bed.next (of i) B.ok O.hd hroom (fun _ s' H' U' J' rw' fr' kb => ?_) (fun _ _ h => by cases h)
      have ru' : RU F.K ⟨i.U, i.W, i.H⟩ σ H' ⟨ρ, i.W⟩ z.nd U' := ru.to (S := ⟨ρ, i.W⟩) (by rw [← show F2.K = F.K from B.of.K]; exact rw') fr'
      refine segx_again rfl (segx_block0 (segx_leaf (.ok .next) ?_))
      exact k.nx i zi rem ρ σ H' s' (I.past (J'.pins_of fun q hq => J'.pin q (List.mem_append_right _ (List.mem_cons_of_mem _ hq))) ⟨U', ru'⟩ kb aw) hf
    | cons d os ih =>
      intro i zi rem ρ σ H s z2 gs2 U I ru bed aw hf
      obtain ⟨N, hN, hstep⟩ := hf
      refine segx_forLoop ?_
      rw [(pos_loop (K := K) (J := J) (lv := lv) (p := p) (l := lv []) g rfl rfl).over]
      refine bed.next (of i) B.ok O.hd hroom (fun h => by cases h) (fun d' ds' h x v s' H' U' z3 gs3 bed3 hs3 rv dv fr' hgk3 kb => ?_)
      cases h
      have KK : F2.K = F.K := B.of.K
      rw [KK] at dv
      have ru' : RU F.K ⟨i.U, i.W, i.H⟩ σ H' ⟨ρ, i.W⟩ z.nd U' := ru.to (S := ⟨ρ, i.W⟩) (by rw [← KK]; exact bed3.rw) fr'
      have I3 : Gi F i zi z σ ρ H' s' := I.past (bed3.inv.pins_of fun q hq => bed3.inv.pin q (List.mem_append_right _ (List.mem_append_right _ (List.mem_cons_of_mem _ hq)))) ⟨U', ru'⟩ kb aw
      have aw3 : Away F i zi z F2 z3 := fun q hq => by
        rcases hq with rfl | ⟨q2, h2, rfl⟩
        · exact aw F2.g (.inl rfl)
        · rcases hgk3 q2 h2 with h | ⟨q0, h, h'⟩
          · refine ⟨fun e => ?_, .inl (Nat.le_trans I.sz h), fun q' hq' e => ?_⟩
            · have := I.gl; have := I.sz; omega
            · have := (Array.getElem?_eq_some_iff.mp (I.gk q' hq').1).1
              omega
          · exact aw q2.1 (.inr ⟨q0, h, h'⟩)
      refine bed3.go_ ?_
      have xT : RU F.K ⟨i.U, i.W, i.H⟩ σ H' ⟨ρ, i.W⟩ (.v x (.d d) :: (z3.nd ++ z.nd)) U' := ru'.retm fun q hq => by
        rcases List.mem_cons.mp hq with rfl | hq
        · exact dv
        · rcases List.mem_append.mp hq with hq | hq
          · exact tmG_ok (S := ⟨ρ, i.W⟩) (by rw [← KK]; exact bed3.nd q hq)
          · exact ru'.tmp q hq
      have hnd : ∀ q ∈ z3.nd ++ z.nd, ∃ Tp U H, TmG F.K Tp U H q := fun q hq => by
        rcases List.mem_append.mp hq with hq | hq
        · exact ⟨_, _, _, by rw [← KK]; exact bed3.nd q hq⟩
        · exact I3.nd q hq
      have noT : NoOwn (z3.nd ++ z.nd) := fun q hq w j e => by
        subst e
        obtain ⟨_, _, _, h⟩ := hnd _ hq
        exact h
      obtain ⟨g', pg, simg⟩ := hg i.s i.H ⟨i.U, i.W, i.H⟩
      have hgD := simg.run x d σ H' ⟨ρ, i.W⟩ (z3.nd ++ z.nd) _ (fun σ' H' => ∃ S', (S'.W = i.W ∧ tb N rem S'.ρ) ∧ R F.K ⟨i.U, i.W, i.H⟩ σ' H' S' (z3.nd ++ z.nd)) noT ⟨U', xT⟩ (hstep i.W) fun S' σ' H' q x => ⟨S', q, x⟩
      refine wpAny_keep (pg.run (z3.gp ++ (a, go) :: (z.gp ++ i.pc)) (poisS s') σ H' x v _ (Inv.poisI bed3.inv) rv hgD) (fun _ s6 s7 rel ⟨σ6, H6, I6, ⟨ρ6, W6⟩, ⟨e6, q6⟩, x6⟩ => ?_) (fun e s2' s' r q => exc_loop g k rfl rfl _ _ _ _ _ (xe_rel q r))
      have e6 : W6 = i.W := e6
      subst e6
      have I6r := Inv.rel I6 rel
      have kg := rel_keep rel
      have I7 : Gi F i zi ⟨z3.gp ++ (a, go) :: z.gp, (F2.g, gs3) :: (z3.gk ++ z.gk), z3.nd ++ z.nd⟩ σ6 ρ6 H6 s7 := {
        inv := by rw [show (z3.gp ++ (a, go) :: z.gp) ++ i.pc = z3.gp ++ (a, go) :: (z.gp ++ i.pc) by simp]; exact I6r
        ru := x6
        gk := fun q hq => by
          rcases List.mem_cons.mp hq with rfl | hq
          · obtain ⟨h1, h2, _⟩ := aw3 F2.g (.inl rfl)
            exact ⟨kg.1 _ _ bed3.st0 hs3, hs3, h1, h2⟩
          · rcases List.mem_append.mp hq with hq | hq
            · obtain ⟨h1, h2, _⟩ := aw3 q.1 (.inr ⟨q, hq, rfl⟩)
              exact ⟨kg.1 _ _ (bed3.gk q hq) (bed3.st.gk q hq).1, (bed3.st.gk q hq).1, h1, h2⟩
            · obtain ⟨h1, h2, h3⟩ := I3.gk q hq
              exact ⟨kg.1 _ _ h1 h2, h2, h3⟩
        gs := fun j st h1 h2 h3 h4 => kg.1 _ _ (I3.gs j st h1 h2 h3 h4) h2
        gp := fun q hq => by
          have dis := bed3.dis
          rcases List.mem_append.mp hq with hq | hq
          · refine ⟨Nat.le_trans (Nat.le_of_lt (show F.L < F2.L from B.of.lL)) (bed3.st.gp q hq).1, fun q' hq' e => dis q hq q' (List.mem_cons_of_mem _ (List.mem_append_right _ (List.mem_append_right _ hq'))) e.symm⟩
          · rcases List.mem_cons.mp hq with rfl | hq
            · refine ⟨?_, fun q' hq' e => ?_⟩
              · exact Nat.le_trans (Nat.le_of_lt (show F.L < F2.L from B.of.lL)) B.aL
              · exact bed3.da q' (List.mem_append_right _ (List.mem_append_right _ hq')) e
            · exact I3.gp q hq
        nd := hnd
        gl := I3.gl
        sz := Nat.le_trans I3.sz kg.2
        hL := I3.hL }
      refine hb.run _ _ _ _ _ id id N rem ρ6 i zi σ6 H6 s7 (pos_loop g rfl rfl) ⟨fun i' zi' rem' ρ' σ' H' s' I' hn' => ?_, fun i' zi' rem' e s' hx => exc_loop g k rfl rfl i' zi' rem' e s' hx⟩ I7 q6
      have inv' : Inv (F.cx i'.s i'.H) (z3.gp ++ (a, go) :: (z.gp ++ i'.pc)) σ' H' s' := by
        have h := I'.inv
        rw [show (z3.gp ++ (a, go) :: z.gp) ++ i'.pc = z3.gp ++ (a, go) :: (z.gp ++ i'.pc) by simp] at h
        exact h
      obtain ⟨U', x'⟩ := I'.ru
      have dis := bed3.dis
      have da := bed3.da
      refine segx_again rfl (ih i' zi' rem' ρ' σ' H' s' z3 gs3 U' ?_ (x'.less fun p hp => List.mem_append_right _ hp) ⟨inv', fun q hq q' hq' => ?_, fun q' hq' => ?_, bed3.go, (I'.gk (F2.g, gs3) List.mem_cons_self).1, fun q hq => (I'.gk q (List.mem_cons_of_mem _ (List.mem_append_left _ hq))).1, bed3.st, bed3.asl, by rw [KK]; exact x'.wo, fun q hq => by rw [KK]; exact tmG_of (S := ⟨ρ', i'.W⟩) (x'.tmp q (List.mem_append_left _ hq)) (I'.nd q (List.mem_append_left _ hq))⟩ (fun q hq => ?_) (hN rem' ρ' hn'))
      · exact {
          inv := inv'.pins_of fun q hq => inv'.pin q (List.mem_append_right _ (List.mem_append_right _ (List.mem_cons_of_mem _ hq)))
          ru := ⟨U', x'.less fun p hp => List.mem_append_right _ hp⟩
          gk := fun q hq => I'.gk q (List.mem_cons_of_mem _ (List.mem_append_right _ hq))
          gs := I'.gs
          gp := fun q hq => I'.gp q (List.mem_append_right _ (List.mem_cons_of_mem _ hq))
          nd := fun q hq => I'.nd q (List.mem_append_right _ hq)
          gl := I'.gl
          sz := I'.sz
          hL := I'.hL }
      · rcases List.mem_cons.mp hq' with rfl | hq'
        · exact dis q hq _ List.mem_cons_self
        · have hq' : q' ∈ [] ++ (z.gp ++ i'.pc) := hq'
          rw [List.nil_append] at hq'
          rcases List.mem_append.mp hq' with hq' | hq'
          · exact dis q hq q' (List.mem_cons_of_mem _ (List.mem_append_right _ (List.mem_append_left _ hq')))
          · exact ((I'.gp q (List.mem_append_left _ hq)).2 q' hq').symm
      · have hq' : q' ∈ [] ++ (z.gp ++ i'.pc) := hq'
        rw [List.nil_append] at hq'
        rcases List.mem_append.mp hq' with hq' | hq'
        · exact da q' (List.mem_append_right _ (List.mem_append_left _ hq'))
        · exact (I'.gp (a, go) (List.mem_append_right _ List.mem_cons_self)).2 q' hq'
      · have old := (aw3 q hq).2.2
        rcases hq with rfl | ⟨q2, h2, rfl⟩
        · obtain ⟨_, _, h1, h2⟩ := I'.gk (F2.g, gs3) List.mem_cons_self
          exact ⟨h1, h2, old⟩
        · obtain ⟨_, _, h3, h4⟩ := I'.gk q2 (List.mem_cons_of_mem _ (List.mem_append_left _ h2))
          exact ⟨h3, h4, old⟩
  refine loop outs i zi rem ρ2 σ H1 s1 z2 gs2 U2 I1 x2 bed (fun q hq => ?_) hf
  rcases hq with rfl | ⟨q2, h2, _⟩
  · refine ⟨fun e => ?_, .inl (Nat.le_trans I.sz g0'), fun q' hq' e => ?_⟩
    · have := I.gl; have := I.sz; omega
    · have := (Array.getElem?_eq_some_iff.mp (I.gk q' hq').1).1
      omega
  · rw [B.gk] at h2; cases h2
end Kn
set_option Elab.async false
set_option maxRecDepth 100000
set_option linter.all false
set_option autoImplicit false
namespace Kn
open PySem L2 GenW
open PyProof.Rows (AllBare)
def tForG (K : PySem.W.Frag) (Fs : GSpec) (n : Nat) (ta : TA) (g : TG) (tb : TS) : TS := fun En σ H => ta σ H fun vs H1 => ∃ ds outs, ds.length = n ∧ vs.length = ds.length ∧ Fs ds outs ∧ ∃ (U : Addr → Prop) (W : Wd), Rw K U W H1 ∧ DvL K W.Tp (Hd U H1) vs ds ∧
  ∃ I : List D → List Tm → (Addr → Prop) → Wd → St → Hp → Prop, (∀ nd, (∀ p ∈ nd, TmG K W.Tp U H1 p) → I outs nd U W σ H1) ∧
    ∀ os nd U W σ H, I os nd U W σ H → Rw K U W H ∧ (∀ p ∈ nd, TmG K W.Tp U H p) ∧ (os = [] → ∀ H' U', Rw K U' W H' → Kn.Fr ⟨U, W, H⟩ U' W H' → En.nx σ H') ∧
      (∀ d rest, os = d :: rest → ∀ x H' U' nd', Rw K U' W H' → Kn.Fr ⟨U, W, H⟩ U' W H' → Dv K W.Tp (Hd U' H') x d → (∀ p ∈ nd', TmG K W.Tp U' H' p) →
        g x σ H' fun σ2 H2 => tb { En with nx := fun σ3 H3 => ∃ U3 W3, I rest nd' U3 W3 σ3 H3, ct := fun σ3 H3 => ∃ U3 W3, I rest nd' U3 W3 σ3 H3, bk := En.nx } σ2 H2)
section
variable {X : Cx}
theorem Bed.on {F : Gf} {pins : List (Addr × Obj)} {a : Addr} {go : Obj} {z : Slp} {gs : GenState} {U U3 : Addr → Prop} {W W3 : Wd} {ds : List D} {σ σ' : St} {H H' : Hp} {s s' : Shared} (B : Bed F X pins a go z gs U W ds σ H s) (hs : isSusp gs = true) (J : Inv X (z.gp ++ (a, go) :: pins) σ' H' s') (k : KeepG s s')
    (rw' : Rw F.K U3 W3 H') (nd : ∀ p ∈ z.nd, TmG F.K W3.Tp U3 H' p) : Bed F X pins a go z gs U3 W3 ds σ' H' s' where
  inv := J
  dis := B.dis
  da := B.da
  go := B.go
  st0 := k.1 _ _ B.st0 hs
  gk := fun q hq => k.1 _ _ (B.gk q hq) (B.st.gk q hq).1
  st := B.st
  asl := B.asl
  rw := rw'
  nd := nd
theorem ps_forG {tg e : Expr} {es : List Expr} {x : Str} {k : Nat} {ps : List Str} {Fs : GSpec} {body : List Stmt} {pp cp pos : PySem.Pos} {ta : TA} {g : TG} {tb : TS} (hp : PassesOwn (model X.prog X.w) X.A X.env X.xe) (hxe : ∀ (G : Array GenState) (s2 s : Shared) (e : Value), Rel G s2 s → X.xe e s2 → X.xe e s) (hc : X.calm = true)
    (G : Gx X.prog X.w X.K X.mg X.base x k ps Fs) (hr : Room (k + 1) X.A) (hgl : Gl X x) (ha : PA X (e :: es) ta) (hg : PG X tg g) (hb : PSs X body tb)
    (hdb : (x == ("__debug__" : Str)) = false := by decide) (he : starEach (e :: es) X.env = (false, eval e X.env) :: starEach es X.env := by rfl) (hpl : (backTo cp (starEach es X.env)).any (·.1) = false := by rfl) (hs : ∀ y, foldedSetIterable (.Call (.Name x pp) (e :: es) [] cp) X.env y = pure y := by intro _; rfl) :
    PS X (.For tg (.Call (.Name x pp) (e :: es) [] cp) body [] pos) (tForG X.K Fs ps.length ta g tb) := by
  refine ⟨fun pins s σ H D I h => ?_⟩
  refine wpAny_For (wpAny_mono (wp_genCall G hr hgl ha I h hdb he hpl) (fun v s1 q => ?_) fun _ _ q => q) hs
  obtain ⟨vs, ds, outs, H1, F, a, go, z, gs, rfl, B, U, W, rw1, dv, Iv, i0, step⟩ := q
  have bed := B.bed U W rw1 dv
  have KK : F.K = X.K := B.of.K
  refine wpAny_pyIter_gen bed.isGen.2 ?_
  refine codeAny_forLoop_any (fun n s' => ∃ os z gs U W σ H, n = os.length ∧ Bed F X pins a go z gs U W os σ H s' ∧ Iv os z.nd U W σ H) ?_ outs.length ⟨outs, z, gs, U, W, σ, H1, rfl, bed, i0 z.nd (by rw [← KK]; exact bed.nd)⟩
  rintro n s3 ⟨os, z, gs, U, W, σ, H, rfl, bed, iv⟩
  obtain ⟨_, _, hnil, hcons⟩ := step os z.nd U W σ H iv
  refine wpAny_passesOwn hp (bed.next B.of B.ok (I.ok.hd hc) hr.depth (fun e s' H' U' J rw' fr' kb => ?_) (fun d rest e x v s' H' U' z' gs' bed' hs' rv dv fr' _ kb => ?_))
  · exact wpAny_execs_nil ⟨σ, H', J.pins_of fun q hq => J.pin q (List.mem_append_right _ (List.mem_cons_of_mem _ hq)), hnil e H' U' (by rw [← KK]; exact rw') fr'⟩
  · refine wpAny_passesOwn hp (bed'.go_ ?_)
    refine wpAny_passesOwn hp (wpAny_keep (hg.run _ (poisS s') σ H' x v _ (Inv.poisI bed'.inv) rv (hcons d rest e x H' U' z'.nd (by rw [← KK]; exact bed'.rw) fr' (by rw [← KK]; exact dv) (by rw [← KK]; exact bed'.nd))) (fun _ s6 s7 rel ⟨σ6, H6, I6, q6⟩ => ?_) fun e s2 s r q => hxe _ _ _ e r q)
    refine wpAny_passesOwn hp (wpAny_keepR rel (hb.run _ s6 σ6 H6 _ I6 q6) (fun f s8 s9 rel' q7 => ?_) fun e s2 s r q => hxe _ _ _ e r q)
    have less : ∀ {σ7 : St} {H7 : Hp}, Inv X (z'.gp ++ (a, go) :: pins) σ7 H7 s8 → Inv X pins σ7 H7 s9 := fun {σ7 H7} J => by
      have J := Inv.rel J rel'
      exact J.pins_of fun q hq => J.pin q (List.mem_append_right _ (List.mem_append_right _ (List.mem_cons_of_mem _ hq)))
    have again : ∀ {σ7 : St} {H7 : Hp}, Inv X (z'.gp ++ (a, go) :: pins) σ7 H7 s8 → (∃ U3 W3, Iv rest z'.nd U3 W3 σ7 H7) → ∃ m, m < os.length ∧ ∃ os z gs U W σ H, m = os.length ∧ Bed F X pins a go z gs U W os σ H s9 ∧ Iv os z.nd U W σ H := fun {σ7 H7} J ⟨U3, W3, iv'⟩ => by
      obtain ⟨r3, n3, _⟩ := step rest z'.nd U3 W3 σ7 H7 iv'
      exact ⟨rest.length, by rw [e]; simp, rest, z', gs', U3, W3, σ7, H7, rfl, bed'.on hs' (Inv.rel J rel') (rel_keep rel') (by rw [KK]; exact r3) (by rw [KK]; exact n3), iv'⟩
    cases f with
    | next => obtain ⟨σ7, H7, I7, n7⟩ := q7; exact again I7 n7
    | cont => obtain ⟨σ7, H7, I7, n7⟩ := q7; exact again I7 n7
    | brk => obtain ⟨σ7, H7, I7, q7⟩ := q7; exact ⟨σ7, H7, less I7, q7⟩
    | ret v => obtain ⟨x7, σ7, H7, I7, r7, q7⟩ := q7; exact ⟨x7, σ7, H7, less I7, r7, q7⟩
end
theorem ps_forGK {X : Cx} (K : PySem.W.Frag) {tg e : Expr} {es : List Expr} {x : Str} {k : Nat} {ps : List Str} {Fs : GSpec} {body : List Stmt} {pp cp pos : PySem.Pos} {ta : TA} {g : TG} {tb : TS} (hp : PassesOwn (model X.prog X.w) X.A X.env X.xe) (hxe : ∀ (G : Array GenState) (s2 s : Shared) (e : Value), Rel G s2 s → X.xe e s2 → X.xe e s) (hc : X.calm = true)
    (G : Gx X.prog X.w X.K X.mg X.base x k ps Fs) (hr : Room (k + 1) X.A) (hgl : Gl X x) (ha : PA X (e :: es) ta) (hg : PG X tg g) (hb : PSs X body tb) (hK : X.K = K := by rfl)
    (hdb : (x == ("__debug__" : Str)) = false := by decide) (he : starEach (e :: es) X.env = (false, eval e X.env) :: starEach es X.env := by rfl) (hpl : (backTo cp (starEach es X.env)).any (·.1) = false := by rfl) (hs : ∀ y, foldedSetIterable (.Call (.Name x pp) (e :: es) [] cp) X.env y = pure y := by intro _; rfl) :
    PS X (.For tg (.Call (.Name x pp) (e :: es) [] cp) body [] pos) (tForG K Fs ps.length ta g tb) := by
  subst hK
  exact ps_forG hp hxe hc G hr hgl ha hg hb hdb he hpl hs
def tdForG (Fs : GSpec) (n : Nat) (ta : TDA) (g : TDG) (tb : TDS) : TDS := fun E S => ta S fun rs S1 => frcL rs S1 fun ds S2 => ds.length = n ∧ ∃ outs, Fs ds outs ∧ forD g tb E outs S2
section
variable {K : PySem.W.Frag} {e : Ent}
theorem tmK_ok {σ : St} {H : Hp} {U : Addr → Prop} {S : PSt} : ∀ {p : Tm}, TmG K S.W.Tp U H p → TmOk K e U S H σ p
  | .v v (.d d), h => h
  | .pin b o w, h => h
theorem tmK_of {σ : St} {H : Hp} {U : Addr → Prop} {S : PSt} : ∀ {p : Tm}, TmOk K e U S H σ p → (∃ Tp U H, TmG K Tp U H p) → TmG K S.W.Tp U H p
  | .v v (.d d), h, _ => h
  | .pin b o w, h, _ => h
  | .v v (.own j), _, ⟨_, _, _, h⟩ => h.elim
  | .nw l ds, _, ⟨_, _, _, h⟩ => h.elim
instance simForG {Fs : GSpec} {n : Nat} {ta : TA} {g : TG} {tb : TS} {ta' : TDA} {g' : TDG} {tb' : TDS} [h0 : SimA K e ta ta'] [h2 : SimG K e g g'] [h3 : SimS K e tb tb'] : SimS K e (tForG K Fs n ta g tb) (tdForG Fs n ta' g' tb') := ⟨fun σ H S T Ed E hT x h k => by
  refine h0.run σ H S T _ _ x h fun rs S1 vs H1 hr hl x1 => ?_
  refine R.frcL hl x1 hr fun ds S2 ⟨h1, outs, hF, hf⟩ hl2 ⟨U, x2⟩ => ?_
  have xT := x2.less (T' := T) fun p hp => List.mem_append_right _ hp
  refine ⟨ds, outs, h1, hl2, hF, U, S2.W, x2.wo, RU.tms hl2 x2, fun os nd U W σ H => ∃ S, W = S.W ∧ RU K e σ H S (nd ++ T) U ∧ (∀ p ∈ nd, ∃ Tp U H, TmG K Tp U H p) ∧ forD g' tb' Ed os S, fun nd hnd => ⟨S2, rfl, xT.retm fun p hp => ?_, fun p hp => ⟨_, _, _, hnd p hp⟩, hf⟩, ?_⟩
  · rcases List.mem_append.mp hp with hp | hp
    · exact tmK_ok (hnd p hp)
    · exact xT.tmp p hp
  rintro os nd U W σ H ⟨S, rfl, ru, kd, hf⟩
  refine ⟨ru.wo, fun p hp => tmK_of (ru.tmp p (List.mem_append_left _ hp)) (kd p hp), fun e H' U' rw' fr' => ?_, fun d rest e x H' U' nd' rw' fr' dv hnd' => ?_⟩
  · subst e
    exact k.nx S σ H' hf ⟨U', (ru.to rw' fr').less fun p hp => List.mem_append_right _ hp⟩
  · subst e
    obtain ⟨N, hN, hf⟩ := hf
    have ru' := ru.to rw' fr'
    have kd' : ∀ p ∈ nd', ∃ Tp U H, TmG K Tp U H p := fun p hp => ⟨_, _, _, hnd' p hp⟩
    have noT : NoOwn (nd' ++ T) := NoOwn.app (fun p hp w j q => by
      subst q
      obtain ⟨_, _, _, h⟩ := kd' _ hp
      exact h) hT
    refine h2.run x d σ H' S (nd' ++ T) _ _ noT ⟨U', ru'.retm fun p hp => ?_⟩ hf fun S3 σ3 H3 hb x3 => ?_
    · rcases List.mem_cons.mp hp with rfl | hp
      · exact dv
      · rcases List.mem_append.mp hp with hp | hp
        · exact tmK_ok (hnd' p hp)
        · exact ru'.tmp p (List.mem_append_right _ hp)
    · have kk := k.more (T1 := nd')
      exact h3.run σ3 H3 S3 (nd' ++ T) _ _ noT x3 hb ⟨fun S' σ' H' n ⟨U3, x'⟩ => ⟨U3, S'.W, S', rfl, x', kd', hN S' n⟩, kk.rt, kk.nx, fun S' σ' H' n ⟨U3, x'⟩ => ⟨U3, S'.W, S', rfl, x', kd', hN S' n⟩, kk.rn⟩⟩
end
theorem u_tdForG {Fs : GSpec} {n : Nat} {ta : TDA} {g : TDG} {tb : TDS} {E S} : tdForG Fs n ta g tb E S = (ta S fun rs S1 => frcL rs S1 fun ds S2 => ds.length = n ∧ ∃ outs, Fs ds outs ∧ forD g tb E outs S2) := rfl
theorem u_tgThen {t u : GT} {E rem ρ} : tgThen t u E rem ρ = t (u E) rem ρ := rfl
theorem u_tgNil {E rem ρ} : tgNil E rem ρ = E rem ρ := rfl
theorem u_tgP {td : TDS} {E rem ρ} : tgP td E rem ρ = ∀ W, td ⟨fun S => S.W = W ∧ E rem S.ρ, fun _ _ => False, fun _ => False, fun _ => False, fun _ _ => False⟩ ⟨ρ, W⟩ := rfl
theorem u_tgIf {c : TDT} {t u : GT} {E rem ρ} : tgIf c t u E rem ρ = ∀ W, c ⟨ρ, W⟩ fun b S => S.W = W ∧ if b = true then t E rem S.ρ else u E rem S.ρ := rfl
theorem u_tgY {te : TDE} {E rem ρ} : tgY te E rem ρ = ∀ W, te ⟨ρ, W⟩ fun r S => frc r S fun d S2 => S2.W = W ∧ allVal S2.ρ = true ∧ ∃ rest, rem = d :: rest ∧ E rest S2.ρ := rfl
theorem u_tgFor {ti : TDI} {g : TDG} {tb : GT} {E rem ρ} : tgFor ti g tb E rem ρ = ∀ W, ti ⟨ρ, W⟩ fun ds S => S.W = W ∧ forG g tb E ds rem S.ρ := rfl
theorem u_tgForG {Fs : GSpec} {n : Nat} {tad : TDA} {g : TDG} {tb : GT} {E rem ρ} : tgForG Fs n tad g tb E rem ρ = ∀ W, tad ⟨ρ, W⟩ fun rs S1 => frcL rs S1 fun ds S2 => S2.W = W ∧ ds.length = n ∧ ∃ outs, Fs ds outs ∧ forG g tb E outs rem S2.ρ := rfl
def forGB (ds rem : List D) (ρ : List (Option PC)) [g : Bx TDG] [tb : Bx GT] [E : Bx GEn] : Prop := forG g.v tb.v E.v ds rem ρ
theorem b_forG {g : TDG} {tb : GT} {E : GEn} {ds rem : List D} {ρ : List (Option PC)} : forG g tb E ds rem ρ = @forGB ds rem ρ ⟨g⟩ ⟨tb⟩ ⟨E⟩ := rfl
section
variable {α : Type} {g : TDG} {tb : GT} {E : GEn} {rem : List D} {ρ : List (Option PC)}
theorem forG_flat (h : α → D) (f : α → List D) (tl : List D) (J : List (Option PC) → Prop) : ∀ (xs : List α), rem = xs.flatMap f ++ tl → J ρ → (∀ x ∈ xs, ∀ (tl' : List D) ρ, J ρ → ∀ W, g (h x) ⟨ρ, W⟩ fun S2 => S2.W = W ∧ tb (fun rem' ρ' => rem' = tl' ∧ J ρ') (f x ++ tl') S2.ρ) → (∀ ρ, J ρ → E tl ρ) → @forGB (xs.map h) rem ρ ⟨g⟩ ⟨tb⟩ ⟨E⟩ := by
  intro xs
  induction xs generalizing rem ρ with
  | nil =>
    intro e j _ q
    rw [List.flatMap_nil, List.nil_append] at e
    subst e
    exact q _ j
  | cons x xs ih =>
    intro e j hs q
    rw [List.flatMap_cons, List.append_assoc] at e
    subst e
    exact ⟨fun rem' ρ' => rem' = xs.flatMap f ++ tl ∧ J ρ', fun rem' ρ' hh => ih hh.1 hh.2 (fun y hy => hs y (List.mem_cons_of_mem _ hy)) q, hs x List.mem_cons_self _ _ j⟩
end
end Kn
set_option synthInstance.maxHeartbeats 0
set_option synthInstance.maxSize 100000
set_option Elab.async false
set_option maxRecDepth 100000
set_option linter.all false
namespace Kn
open PySem L2
def top (i : Nat) : Stmt := PySem.Challenge.pw_kindnotes_k06_kinds_of_a_size.main.body.getD i (.Pass ⟨0, 0, 0, 0⟩)
structure Txt (K : PySem.W.Frag) (mg : Str → Option Value) : Prop where
  b_all : mg "all" = none
  b_dict : mg "dict" = none
  b_int : mg "int" = none
  b_isinstance : mg "isinstance" = none
  b_len : mg "len" = none
  b_range : mg "range" = none
  b_str : mg "str" = none
  b_sum : mg "sum" = none
  b_tuple : mg "tuple" = none
  c_LONGEST_WORD : ∃ u, mg "LONGEST_WORD" = some u ∧ RelV (.int 12) u
  c_MOST_PARTS : ∃ u, mg "MOST_PARTS" = some u ∧ RelV (.int 3) u
  c_MOST_WORDS : ∃ u, mg "MOST_WORDS" = some u ∧ RelV (.int 12) u
  c_SMALL : ∃ u, mg "SMALL" = some u ∧ RelV (.str "abcdefghijklmnopqrstuvwxyz") u
  e_BadKind : ExcF K mg "BadKind"
  g_NotesError : mg "NotesError" = some (.ref (clsA mg "NotesError"))
  g_BadKind : mg "BadKind" = some (.ref (clsA mg "BadKind"))
  g_Stock : mg "Stock" = some (.ref (clsA mg "Stock"))
  exm_BadKind_BadKind : PySem.W.exmOne K (.ref (clsA mg "BadKind")) (.ref (clsA mg "BadKind")) = some true
  k_Stock : Cls K (clsA mg "Stock")
  f_Stock_shapes : Fd K (clsA mg "Stock") "shapes"
  f_Stock_above : Fd K (clsA mg "Stock") "above"
end Kn
set_option synthInstance.maxHeartbeats 0
set_option synthInstance.maxSize 100000
set_option Elab.async false
set_option maxRecDepth 100000
set_option linter.all false
namespace Kn
open PySem L2
local macro_rules | `(tactic| walk_at "wk") => `(tactic| repeat (first
  | refine ⟨_, rfl, ?_⟩
  | refine ⟨_, _, rfl, rfl, ?_⟩
  | refine ⟨⟨by decide, by decide⟩, ?_⟩
  | refine ⟨(by show (0 : Int) < _; decide), ?_⟩
  | refine ⟨Or.inl ⟨by omega, by omega⟩, ?_⟩
  | refine Or.inl ⟨_, rfl, ?_⟩
  | fail))
local macro_rules | `(tactic| walk_at "lits") => `(tactic| repeat (first
  | exact lit_nil
  | exact lit_str
  | exact lit_int
  | exact lit_non
  | refine lit_cons ?_ ?_
  | refine lit_tup ?_
  | fail))
local macro_rules | `(tactic| walk_at "d") => `(tactic| simp only [↓u_tdForG, ↓u_tgThen, ↓u_tgNil, ↓u_tgP, ↓u_tgIf, ↓u_tgY, ↓u_tgFor, ↓u_tgForG, ↓b_forG, ↓u_tdC, ↓u_tdOp, ↓u_tdNil, ↓u_tdCons, ↓u_tdTup, ↓u_tnLst, ↓u_tdFrz, ↓u_tdFrzK, ↓u_tkNew, ↓u_tdTest, ↓u_tdAnd, ↓u_tdOr, ↓u_tdNot, ↓u_tdYes, ↓u_tdNotV, ↓u_tdCB, ↓u_tdNoPart, ↓u_tdPart, ↓u_tdSl, ↓u_tdNext, ↓u_tdSeq, ↓u_tdDrop, ↓u_tdRet, ↓u_tdIfS, ↓u_gdName, ↓u_tdAsg, ↓u_tdAsgN, ↓u_tdAsgK, ↓u_tiAny, ↓u_tiRng1, ↓u_tiRng2, ↓u_tdFor, ↓u_tnLc, ↓u_tdCall, ↓u_tdRaise, ↓u_tdApp, ↓u_tdDPut, ↓u_tkDict, ↓u_tdFldC, ↓u_tdSetC, ↓u_tdMakeF, ↓u_tdTryAs, ↓u_tdTryN, ↓u_addF_i, ↓u_addF_s, ↓u_addF_t, ↓u_addF_l, ↓u_iiF, ↓u_mulF_i, ↓u_mulF_s, ↓u_inF_l, ↓u_inF_t, ↓u_inF_s, ↓u_inF_ds, ↓u_inF_di, ↓u_ixF_l, ↓u_ixF_t, ↓u_ixF_s, ↓u_ixF_di, ↓u_ixF_ds, ↓u_slF_l, ↓u_slF_t, ↓u_slF_s, ↓u_lenF_l, ↓u_lenF_t, ↓u_lenF_s, ↓u_lenF_d, ↓u_isiF, ↓u_isiD, ↓u_allF, ↓u_sumF, ↓u_intF_i, ↓u_intF_b, ↓u_walkF_l, ↓u_walkF_t, ↓u_walkF_s, ↓u_walkF_d, ↓u_arg1, ↓u_arg2, ↓u_frcL_n, ↓u_frcL_c, ↓u_addD, ↓u_iiD, ↓u_mulD, ↓u_eqD_f, ↓u_eqD_t, ↓u_inD_f, ↓u_inD_t, ↓u_ixD, ↓u_dd2, ↓u_isND_f, ↓u_isND_t, ↓u_fldF, ↓u_turnD, ↓b_Call, ↓b_opt, ↓b_dd1, ↓b_asB, ↓b_asI, ↓b_frc, ↓b_for, ↓b_comp, ↓b_ite, ↓b_while, ↓b_var, ↓b_aug, ↓b_mutL, ↓b_mutD, ↓b_retV, ↓b_deref, ↓b_dd1own, ↓b_mutO, ↓b_mutDO, ↓b_frcO, ↓b_dctC, ↓b_ref, ↓b_insF, ↓b_insC, ↓b_exB, ↓o_opt, ↓o_asB, ↓o_asI, ↓o_non, ↓o_bl, ↓o_int, ↓o_str, ↓o_ty, ↓o_tup, ↓o_lst, ↓o_dct, ↓o_obj, ↓o_varV, ↓o_varL, ↓o_varD, ↓o_frc, ↓o_augI, ↓o_augS, ↓o_augL, ↓o_retV, ↓o_iteT, ↓o_iteF, ↓o_derefL, ↓o_derefD, ↓o_mutO, ↓o_mutDO, ↓o_frcL, ↓o_frcD, ↓o_frcV, ↓o_dctC, ↓o_ref, ↓o_derefR, ↓o_dd1R, ↓o_mutR, ↓o_derefK, ↓o_dd1K, ↓o_mutK, ↓o_putT, ↓o_insF, ↓o_insC, ↓o_derefI, ↓o_dd1I, ↓o_putS, ↓o_putP, look_c, look_n, putFd_c, putFd_n, ofS_eq, ↓reduceIte, eq_self, List.foldr_cons, List.foldr_nil, DEnds.un, PSt.unset, List.zip_cons_cons, List.zip_nil_left, List.zip_nil_right, List.reverse_cons, List.reverse_nil, exL, exK, exC, tysOf, tyN, isB, tyOk, isNn, PSt.set, S0, PSt.wipe, wipeR,
  List.map_cons, List.map_nil, List.length_cons, List.length_nil, List.replicate_succ, List.replicate_zero, List.cons_append, List.nil_append, List.set_cons_zero, List.set_cons_succ, List.getElem?_cons_zero, List.getElem?_cons_succ, List.getElem?_nil,
  Bool.not_true, Bool.not_false, bq_t, bq_f, Bool.not_not, Bool.false_eq_true, true_and, and_true, Nat.reduceAdd, Nat.reduceSub, Nat.reduceLeDiff, String.reduceEq, decide_true, decide_false, Bool.true_or, Bool.false_or, Bool.true_and, Bool.false_and, Bool.or_true, Bool.or_false, Bool.and_true, Bool.and_false, decide_eq_true_eq, List.mem_cons, List.not_mem_nil, or_true, true_or, or_false, false_or, List.any_cons, List.any_nil, List.all_cons, List.all_nil, Option.map_some, Option.map_none, Option.isSome_some, Option.isSome_none, eqOk_ii, eqOk_ss, eqOk_bb, eqOk_nn, eqOk_ns, eqOk_sn, eqOk_ni, eqOk_in, eqOk_si, eqOk_is, D.int.injEq, D.str.injEq, D.bl.injEq, reduceCtorEq, keyD, atI_0, atI_1, atI_2, atI_3, atI_4, cut1, ne_eq, not_true_eq_false, not_false_eq_true, Bool.not_eq_true', Bool.not_eq_false', decide_eq_false_iff_not])
local macro_rules | `(tactic| walk_at "z") => `(tactic| first
  | (apply z_seq; (focus walk_at "z"); (focus walk_at "z"))
  | (apply z_try; (focus (intro _ _ _; walk_at "z")); (focus (intro _ _ _; walk_at "z")); (focus walk_at "z"))
  | (apply z_tryN; (focus (intro _ _ _; walk_at "z")); (focus walk_at "z"); (focus walk_at "z"))
  | (apply z_cl; (focus (intro _ _ _; walk_at "z")); (focus walk_at "z"))
  | exact inferInstance
  | (apply z_if; (focus walk_at "z"); (focus walk_at "z"); (focus walk_at "z"))
  | (apply z_while; (focus walk_at "z"); (focus walk_at "z"))
  | (apply z_for; (focus walk_at "z"); (focus walk_at "z"); (focus walk_at "z")))
variable {P : Program} {w : World} {K : PySem.W.Frag} {mg : Str → Option Value} {base : Heap}
abbrev s__law_take : Stmt := top 19
abbrev N__law_take : List Str := ["_law_tape_here", "_law_many"]
abbrev P__law_take : List Str := ["_law_tape_here", "_law_many"]
theorem sc__law_take : FnScope N__law_take P__law_take (defScope s__law_take) := ⟨rfl, rfl, rfl, by decide +kernel, rfl, by decide +kernel, by decide +kernel⟩
theorem ok__law_take (F : Fz K mg "_law_take" s__law_take P__law_take) (T : Txt K mg) : Fx P w K mg base CX0 "_law_take" 1 P__law_take spTake := by
  refine F.ok sc__law_take (fun vs H Q E h => ?_) (fun f cdv A outer s H vs Q E hr h => ?_)
  · obtain ⟨t, m, rfl, _⟩ := h
    rfl
  · obtain ⟨t, m, rfl, ⟨ns, ht⟩, hm, k⟩ := h
    refine ⟨_, (pss_cons (ps_if (pt_cmpR op_eq (pe_callB (call_len_seqK K) (by rfl) T.b_len PySem.boot_len (pa_cons (pv 0) pa_nil)) pe_int (nomark _)) (pss_one (ps_ret pe_int)) pss_nil)
      (pss_one (ps_ret (pe_op op_mod (pe_callTy call_int1 (by rfl) T.b_int (by decide +kernel) (pa_cons (pe_bmK K PySem.F.plainAttrs_list PySem.F.slot_list_pop PySem.F.type_list_pop mt_popAt (pv 0) (pa_cons pe_int pa_nil)) pa_nil)) (pv 1))))), ?_⟩
    refine ⟨_, rfl, t, _, rfl, .inl (SqL.of ht), rfl, _, rfl, ?_⟩
    refine ite2 (fun c => ?_) (fun c => ?_)
    · exact k 0 H (Int.le_refl _) hm (Dr.refl ⟨ns, ht⟩)
    · cases ns with
      | nil => exact (c rfl).elim
      | cons n ns =>
        refine ⟨_, rfl, .inl ⟨rfl, _, SqL.of ht⟩, t, _, 0, 0, _, rfl, rfl, ht, by decide, by decide, by simp [seqIndex?], rfl, .inl ⟨n, rfl, ?_⟩⟩
        refine ⟨_, rfl, n, m, rfl, rfl, hm, ?_⟩
        exact k (n % m) _ (Int.emod_nonneg _ (by omega)) (Int.emod_lt_of_pos _ hm) (Dr.put ns)
abbrev s__law_cell : Stmt := top 17
abbrev N__law_cell : List Str := ["_law_script", "_law_k"]
abbrev P__law_cell : List Str := ["_law_script", "_law_k"]
theorem sc__law_cell : FnScope N__law_cell P__law_cell (defScope s__law_cell) := ⟨rfl, rfl, rfl, by decide +kernel, rfl, by decide +kernel, by decide +kernel⟩
def spCell (K : PySem.W.Frag) : Sp := fun vs H Q _ => ∃ (a : Addr) (k : Int) (ns : List Int), vs = [.ref a, .int k] ∧ SqL K H a (ns.map V.int) ∧ 0 ≤ k ∧ ∀ z, Q (.int z) H
theorem ok__law_cell (F : Fz K mg "_law_cell" s__law_cell P__law_cell) (T : Txt K mg) : Fx P w K mg base CX0 "_law_cell" 1 P__law_cell (spCell K) := by
  refine F.ok sc__law_cell (fun vs H Q E h => ?_) (fun f cdv A outer s H vs Q E hr h => ?_)
  · obtain ⟨a, i, ns, rfl, _⟩ := h
    rfl
  · obtain ⟨a, i, ns, rfl, hs, hi, k⟩ := h
    refine ⟨_, (pss_cons (ps_if (pt_cmpR op_lt (pv 1) (pe_callB (call_len_seqK K) (by rfl) T.b_len PySem.boot_len (pa_cons (pv 0) pa_nil)) (nomark _)) (pss_one (ps_ret (pe_ix (ix_listK K) (pv 0) (pv 1) (fun _ _ => rfl)))) pss_nil)
      (pss_one (ps_ret pe_int))), ?_⟩
    refine ⟨_, rfl, _, rfl, a, _, rfl, .inl hs, _, _, rfl, rfl, _, rfl, ?_⟩
    refine ite2 (fun c => ?_) (fun c => ?_)
    · have c := of_decide_eq_true c
      rw [List.length_map] at c
      have hj : i.toNat < ns.length := by omega
      refine ⟨_, rfl, _, rfl, a, _, i, V.int ns[i.toNat], rfl, rfl, hs, at_of (j := i.toNat) (by omega) (by simp [hj]), k _⟩
    · exact k _
abbrev s__law_tape : Stmt := top 18
abbrev N__law_tape : List Str := ["_law_script", "_law_k", "_law_size_here", "_law_cell_here", "_law_left", "_law_tape_here", "_law_j", "_law_mixed"]
abbrev P__law_tape : List Str := ["_law_script", "_law_k", "_law_size_here"]
theorem sc__law_tape : FnScope N__law_tape P__law_tape (defScope s__law_tape) := ⟨rfl, rfl, rfl, by decide +kernel, rfl, by decide +kernel, by decide +kernel⟩
def spTape (K : PySem.W.Frag) : Sp := fun vs H Q _ => ∃ (a : Addr) (k n : Int) (ns : List Int), vs = [.ref a, .int k, .int n] ∧ SqL K H a (ns.map V.int) ∧ 0 ≤ k ∧ 0 ≤ n ∧ n ≤ 1000 ∧
  ∀ (t : Addr) (H' : Hp), H t = none → Same H H' → Tape H' t → Q (.ref t) H'
theorem ok__law_tape (F : Fz K mg "_law_tape" s__law_tape P__law_tape) (T : Txt K mg) (G__law_cell : Fx P w K mg base CX0 "_law_cell" 1 P__law_cell (spCell K)) : Fx P w K mg base CX0 "_law_tape" 2 P__law_tape (spTape K) := by
  refine F.ok sc__law_tape (fun vs H Q E h => ?_) (fun f cdv A outer s H vs Q E hr h => ?_)
  · obtain ⟨a, i, n, ns, rfl, _⟩ := h
    rfl
  · obtain ⟨a, i, n, ns, rfl, hs, hi, hn0, hn, k⟩ := h
    refine ⟨_, (pss_cons (ps_set (i := 3) sc__law_tape.nd rfl (Or.inl rfl) (fcall G__law_cell (hr.mono (by first | decide | omega)) (by rfl) (pa_cons (pv 0) (pa_cons (pv 1) pa_nil))))
      (pss_cons (ps_set (i := 4) sc__law_tape.nd rfl (Or.inl rfl) (pv 3))
      (pss_cons (ps_set (i := 5) sc__law_tape.nd rfl (Or.inl rfl) (pe_lst pa_nil))
      (pss_cons (ps_for PassesOwn.never rfl (pi_range1 (by rfl) T.b_range (pa_cons (pv 2) pa_nil)) (pg_name (i := 6) sc__law_tape.nd rfl (Or.inl rfl)) (pss_one (ps_if (PW.pt (pw_and (pt_cmpR op_ge (pv 3) (pe_op op_pow pe_int pe_int) (nomark _)) (pw_and1 (pt_cmpR op_gt (pv 4) pe_int (nomark _))))) (pss_cons (ps_expr (pe_bmK K PySem.F.plainAttrs_list PySem.F.slot_list_append PySem.F.type_list_append mt_append (pv 5) (pa_cons (pe_op op_mod (pe_callTy call_int1 (by rfl) T.b_int (by decide +kernel) (pa_cons (pv 4) pa_nil)) pe_int) pa_nil)))
      (pss_one (ps_set (i := 4) sc__law_tape.nd rfl (Or.inl rfl) (pe_op op_fdiv (pv 4) pe_int)))) (pss_cons (ps_set (i := 7) sc__law_tape.nd rfl (Or.inl rfl) (pe_op op_mod (pe_callTy call_int1 (by rfl) T.b_int (by decide +kernel) (pa_cons (pe_op op_add (pe_op op_mul (pe_op op_mod (pe_callTy call_int1 (by rfl) T.b_int (by decide +kernel) (pa_cons (pv 3) pa_nil)) pe_int) (pe_op op_add pe_int (pe_op op_mul pe_int (pv 6)))) (pe_op op_mul pe_int (pv 6))) pa_nil)) pe_int))
      (pss_one (ps_expr (pe_bmK K PySem.F.plainAttrs_list PySem.F.slot_list_append PySem.F.type_list_append mt_append (pv 5) (pa_cons (pe_op op_add (pv 7) (pe_op op_fdiv (pv 7) pe_int)) pa_nil))))))))
      (pss_one (ps_ret (pv 5))))))), ?_⟩
    refine ⟨_, rfl, _, rfl, a, i, ns, rfl, hs, hi, fun z => ?_⟩
    refine ⟨_, rfl, (by show 0 ≤ sizeLine; decide), fun t ht => ?_⟩
    refine ⟨_, rfl, n, rfl, by omega, by omega, ?_⟩
    refine for_range (n := n.toNat) (fun j σ H2 => ∃ (l : Int) (v6 v7 : Option V) (ms : List Int), σ = [some (.ref a), some (.int i), some (.int n), some (.int z), some (.int l), some (.ref t), v6, v7] ∧ H2 t = some (.lst (ms.map V.int)) ∧ ms.length = j ∧ ∀ b o, H b = some o → H2 b = some o) ?_ ?_ ?_
    · exact ⟨z, _, _, [], rfl, upd_same, rfl, fun b o e => by rw [upd_ne (ne_of_none e ht)]; exact e⟩
    · rintro j σ H2 hj ⟨l, v6, v7, ms, rfl, h2, hl, kp⟩
      have step : ∀ (x : Int) (l' : Int) (v6' v7' : Option V), ∃ (l : Int) (v6 v7 : Option V) (ms' : List Int), [some (V.ref a), some (V.int i), some (V.int n), some (V.int z), some (V.int l'), some (V.ref t), v6', v7'] = [some (V.ref a), some (.int i), some (.int n), some (.int z), some (.int l), some (.ref t), v6, v7] ∧ (upd H2 t (.lst (ms.map V.int ++ [V.int x]))) t = some (.lst (ms'.map V.int)) ∧ ms'.length = j + 1 ∧ ∀ b o, H b = some o → (upd H2 t (.lst (ms.map V.int ++ [V.int x]))) b = some o := fun x l' v6' v7' =>
        ⟨l', v6', v7', ms ++ [x], rfl, by rw [upd_same]; simp, by simp [hl], fun b o e => by rw [upd_ne (ne_of_none e ht)]; exact kp b o e⟩
      have hp : (10 : Int) ^ (18 : Int).toNat = 1000000000000000000 := by decide
      have app : ∀ (x : Int) (l' : Int) (v6' v7' : Option V), (ms.map V.int).length < sizeLine := fun _ _ _ _ => small1000 (by rw [List.length_map]; omega)
      have hm : 0 ≤ z % 9973 ∧ z % 9973 < 9973 := ⟨Int.emod_nonneg _ (by decide), Int.emod_lt_of_pos _ (by decide)⟩
      refine ⟨_, rfl, _, _, rfl, rfl, ⟨by decide, by decide, by decide⟩, _, _, rfl, rfl, _, rfl, ?_⟩
      refine ite2 (fun c => ?_) (fun c => ?_)
      · refine ⟨_, rfl, _, _, rfl, rfl, _, rfl, ?_⟩
        refine ite2 (fun c2 => ?_) (fun c2 => ?_)
        · refine ⟨_, rfl, .inl ⟨rfl, _, SqL.of h2⟩, _, rfl, .inl ⟨l, rfl, ?_⟩⟩
          refine ⟨_, _, rfl, rfl, (by show (0 : Int) < 5040; decide), t, _, _, rfl, rfl, h2, app 0 0 none none, ?_⟩
          refine ⟨_, rfl, _, _, rfl, rfl, ⟨by decide, by decide⟩, ?_⟩
          exact step _ _ _ _
        · walk_at "wk"
          refine ⟨.inl ⟨rfl, _, SqL.of h2⟩, ?_⟩
          walk_at "wk"
          exact ⟨t, _, _, rfl, rfl, h2, app 0 0 none none, step _ _ _ _⟩
      · walk_at "wk"
        refine ⟨.inl ⟨rfl, _, SqL.of h2⟩, ?_⟩
        walk_at "wk"
        exact ⟨t, _, _, rfl, rfl, h2, app 0 0 none none, step _ _ _ _⟩
    · rintro σ H2 ⟨l, v6, v7, ms, rfl, h2, hl, kp⟩
      exact ⟨_, rfl, k t H2 ht kp ⟨ms, h2⟩⟩
theorem okD__law_take (F : Fz K mg "_law_take" s__law_take P__law_take) (T : Txt K mg) : Fx P w K mg base (L2.CX P w) "_law_take" 1 P__law_take (lift K F_take) := (ok__law_take (P := P) (w := w) (base := base) F T).toX.imp fun _ _ _ _ h => take_lift h
theorem okD__law_tape (F : Fz K mg "_law_tape" s__law_tape P__law_tape) (T : Txt K mg) (G : Fx P w K mg base CX0 "_law_cell" 1 P__law_cell (spCell K)) : Fx P w K mg base (L2.CX P w) "_law_tape" 2 P__law_tape (lift K F_tape) := (ok__law_tape F T G).toX.imp fun _ _ _ _ h => tape_lift h
def SMALLc : List Nat := [97, 98, 99, 100, 101, 102, 103, 104, 105, 106, 107, 108, 109, 110, 111, 112, 113, 114, 115, 116, 117, 118, 119, 120, 121, 122]
theorem small_c : (Str.ofString "abcdefghijklmnopqrstuvwxyz").cps.toList = SMALLc := by decide +kernel
def isWord (x : Str) : Bool := decide (1 ≤ x.length) && decide (x.length ≤ 12) && x.cps.toList.all fun c => decide (c ∈ SMALLc)
def isWordD : D → Bool
  | .str x => isWord x
  | _ => false
mutual
def fitD : D → Bool
  | .str x => decide (x.length ≤ 1000)
  | .tup ds => decide (ds.length ≤ 1000) && fitL ds
  | .non => true
  | .bl _ => true
  | .int _ => true
  | _ => false
def fitL : List D → Bool
  | [] => true
  | d :: ds => fitD d && fitL ds
end
abbrev s_is_word : Stmt := top 9
abbrev N_is_word : List Str := ["value", "char"]
abbrev P_is_word : List Str := ["value"]
theorem sc_is_word : FnScope N_is_word P_is_word (defScope s_is_word) := ⟨rfl, rfl, rfl, by decide +kernel, rfl, by decide +kernel, by decide +kernel⟩
def F_is_word : FSpec := fun ds W Q _ => ∃ d, ds = [d] ∧ fitD d = true ∧ Q (.bl (isWordD d)) W
theorem ok_is_word (F : Fz K mg "is_word" s_is_word P_is_word) (T : Txt K mg) : Fx P w K mg base (L2.CX P w) "is_word" 1 P_is_word (lift K F_is_word) := by
  refine F.okD sc_is_word (fun ds W Q E h => ?_) (fun f cdv A outer s H E e ds Qd Ed hr lk h => ?_)
  · obtain ⟨d, rfl, _⟩ := h
    rfl
  · obtain ⟨d, rfl, hf, k⟩ := h
    refine ⟨_, _, (pss_cons (ps_if (PW.pt (pw_or (pt_not (pt_val (pe_callB (call_isi1K K) (by rfl) T.b_isinstance (by decide +kernel) (pa_cons (pv 0) (pa_cons (pe_bltn (v := .ty "str") (by rfl) T.b_str (by decide +kernel) rfl) pa_nil))))) (pw_or (pt_cmpR op_ltU (pe_callB (call_lenU K) (by rfl) T.b_len PySem.boot_len (pa_cons (pv 0) pa_nil)) pe_int (nomark _)) (pw_or1 (pt_cmpR op_gtU (pe_callB (call_lenU K) (by rfl) T.b_len PySem.boot_len (pa_cons (pv 0) pa_nil)) (pglob rfl T.c_LONGEST_WORD) (nomark _)))))) (pss_one (ps_ret pe_bl)) pss_nil)
      (pss_one (ps_ret (pe_callB (cr_allK K rfl) (by rfl) T.b_all (by decide +kernel) (pa_cons (pe_lc (own := [("char", 1)]) (g := (gName 1)) (tt := tYes) rfl sc_is_word.nd (pi_any K (pv 0)) (blkOk_by (own := [("char", 1)]) (N := N_is_word) (sc := defScope s_is_word) (by decide +kernel)) (fun _ _ _ _ _ => (pg_name (i := 1) sc_is_word.nd rfl (by first | exact Or.inl rfl | exact Or.inr rfl))) (fun _ _ _ _ _ => pts_nil) (fun _ _ _ _ _ => (pe_cmpR (op_inU K (hu65_of hr)) (pv 1) (pglob rfl T.c_SMALL) (by rfl)))) pa_nil))))), inferInstance, ?_⟩
    cases d with
    | str x =>
      have hx : x.length ≤ 1000000 := by rw [fitD] at hf; have := of_decide_eq_true hf; omega
      have k : Qd (.bl (isWord x)) e.W := k
      have hs : (signs x) = x.cps.toList.map fun c => D.str ⟨#[c]⟩ := rfl
      unfold isWord at k
      walk_at "d"
      refine ⟨hx, ?_⟩
      refine iteB_by (fun c => ?_) (fun c => ?_)
      · walk_at "d"
        rw [decide_eq_false (show ¬ 1 ≤ x.length by omega)] at k; exact k
      · walk_at "d"
        refine ⟨hx, ?_⟩
        refine iteB_by (fun c2 => ?_) (fun c2 => ?_)
        · walk_at "d"
          rw [decide_eq_false (show ¬ x.length ≤ 12 by omega), Bool.and_false] at k; exact k
        · walk_at "d"
          rw [decide_eq_true (show 1 ≤ x.length by omega), decide_eq_true (show x.length ≤ 12 by omega)] at k
          rw [hs]
          refine comp_map _ (fun c => .bl (decide (c ∈ SMALLc))) _ (by simp; exact hx) (fun c hc N M hn => ?_) ?_
          · walk_at "d"
            rw [strIn_sign, small_c]
            exact hn
          · walk_at "d"
            rw [bls_mapF]
            walk_at "d"
            rw [List.all_map]
            exact k
    | non => walk_at "d"; exact k
    | bl b => walk_at "d"; exact k
    | int b => walk_at "d"; exact k
    | tup b => walk_at "d"; exact k
    | _ => simp [fitD] at hf
theorem repS_list (x : Str) (n : Nat) : (repS x n).cps.toList = (List.replicate n x.cps.toList).flatten := by unfold repS; simp
theorem repS_len (x : Str) (n : Nat) : (repS x n).length = n * x.length := by
  show ((List.replicate n x.cps.toList).flatten).toArray.size = _
  rw [List.size_toArray, List.length_flatten, List.map_replicate, List.sum_replicate_nat]
  rfl
theorem repS_mem {x : Str} {n c : Nat} (h : c ∈ (repS x n).cps.toList) : c ∈ x.cps.toList := by
  rw [repS_list, List.mem_flatten] at h
  obtain ⟨l, hl, hc⟩ := h
  rw [List.eq_of_mem_replicate hl] at hc
  exact hc
theorem toList_app (a b : Str) : (a ++ b).cps.toList = a.cps.toList ++ b.cps.toList := by
  show (a.cps ++ b.cps).toList = _
  simp
theorem len_app (a b : Str) : (a ++ b).length = a.length + b.length := by
  show (a.cps ++ b.cps).size = _
  simp; rfl
def ownS (st k : Nat) : Str := ⟨#[SMALLc.getD ((st + k) % 26) 0]⟩
def wordAt (b : Bool) (fi lo : Str) (st k : Nat) : Str := if b then (ownS st k ++ fi) ++ repS lo k else (fi ++ repS lo k) ++ ownS st k
def smS (n : Nat) (x : Str) : Prop := x.length ≤ n ∧ ∀ c ∈ x.cps.toList, c ∈ SMALLc
theorem smS_one {c : Nat} (h : c ∈ SMALLc) : smS 1 ⟨#[c]⟩ := ⟨by show 1 ≤ 1; omega, fun d hd => by
  have : d = c := by simpa using hd
  rw [this]; exact h⟩
theorem smS_rep {m : Nat} {x : Str} (h : smS m x) (n : Nat) : smS (n * m) (repS x n) := ⟨by rw [repS_len]; exact Nat.mul_le_mul_left n h.1, fun c hc => h.2 c (repS_mem hc)⟩
theorem smS_app {m n : Nat} {x y : Str} (h : smS m x) (k : smS n y) : smS (m + n) (x ++ y) := by
  refine ⟨by rw [len_app]; exact Nat.add_le_add h.1 k.1, fun c hc => ?_⟩
  rw [toList_app] at hc
  rcases List.mem_append.mp hc with hc | hc
  · exact h.2 c hc
  · exact k.2 c hc
theorem smS_mono {m n : Nat} {x : Str} (h : smS m x) (k : m ≤ n) : smS n x := ⟨Nat.le_trans h.1 k, h.2⟩
theorem small_at {i : Nat} (h : i < 26) : SMALLc[i]? = some (SMALLc.getD i 0) := by
  have : i < SMALLc.length := h
  rw [List.getD_eq_getElem?_getD, List.getElem?_eq_getElem this]; rfl
theorem own_sm (st k : Nat) : smS 1 (ownS st k) := smS_one (List.mem_of_getElem? (small_at (Nat.mod_lt _ (by decide))))
theorem word_sm {b : Bool} {fi lo : Str} {st k : Nat} (h1 : smS 3 fi) (h2 : smS 1 lo) : smS (4 + k) (wordAt b fi lo st k) := by
  unfold wordAt
  have hr := smS_rep h2 k
  cases b
  · exact smS_mono (smS_app (smS_app h1 hr) (own_sm st k)) (by omega)
  · exact smS_mono (smS_app (smS_app (own_sm st k) h1) hr) (by omega)
theorem word_is {b : Bool} {fi lo : Str} {st k : Nat} (h1 : smS 3 fi) (h2 : smS 1 lo) (hk : k ≤ 8) : isWord (wordAt b fi lo st k) = true := by
  have h := word_sm (b := b) (st := st) (k := k) h1 h2
  have hl : 1 ≤ (wordAt b fi lo st k).length := by
    have e : (ownS st k).length = 1 := rfl
    unfold wordAt
    cases b
    · show 1 ≤ ((fi ++ repS lo k) ++ ownS st k).length
      rw [len_app, e]; omega
    · show 1 ≤ ((ownS st k ++ fi) ++ repS lo k).length
      rw [len_app, len_app, e]; omega
  unfold isWord
  rw [decide_eq_true hl, decide_eq_true (show (wordAt b fi lo st k).length ≤ 12 by have := h.1; omega), Bool.true_and, Bool.true_and, List.all_eq_true]
  exact fun c hc => decide_eq_true (h.2 c hc)
theorem small_inj : ∀ i ∈ List.range 26, ∀ j ∈ List.range 26, SMALLc.getD i 0 = SMALLc.getD j 0 → i = j := by decide +kernel
theorem own_inj {st i j : Nat} (hi : i < 26) (hj : j < 26) (h : SMALLc.getD ((st + i) % 26) 0 = SMALLc.getD ((st + j) % 26) 0) : i = j := by
  have := small_inj _ (List.mem_range.mpr (Nat.mod_lt (st + i) (by decide))) _ (List.mem_range.mpr (Nat.mod_lt (st + j) (by decide))) h
  omega
theorem word_inj {b : Bool} {fi lo : Str} {st i j : Nat} (hi : i < 26) (hj : j < 26) (h : wordAt b fi lo st i = wordAt b fi lo st j) : i = j := by
  have h := congrArg (fun x : Str => x.cps.toList) h
  have eo : ∀ k, (ownS st k).cps.toList = [SMALLc.getD ((st + k) % 26) 0] := fun k => rfl
  unfold wordAt at h
  cases b
  · have h : ((fi ++ repS lo i) ++ ownS st i).cps.toList = ((fi ++ repS lo j) ++ ownS st j).cps.toList := h
    simp only [toList_app, eo] at h
    have := congrArg List.getLast? h
    rw [List.getLast?_concat, List.getLast?_concat] at this
    exact own_inj hi hj (Option.some.inj this)
  · have h : ((ownS st i ++ fi) ++ repS lo i).cps.toList = ((ownS st j ++ fi) ++ repS lo j).cps.toList := h
    simp only [toList_app, eo] at h
    simp only [List.singleton_append, List.cons_append] at h
    injection h with h _
    exact own_inj hi hj h
def wordsOf (b : Bool) (fi lo : Str) (st n : Nat) : List Str := (List.range n).map (wordAt b fi lo st)
structure Words (n : Nat) (ws : List Str) : Prop where
  len : ws.length = n
  word : ∀ x ∈ ws, isWord x = true
  nodup : ws.Nodup
  short : ∀ x ∈ ws, x.length ≤ n + 3
theorem words_of {b : Bool} {fi lo : Str} {st n : Nat} (h1 : smS 3 fi) (h2 : smS 1 lo) (hn : n ≤ 9) : Words n (wordsOf b fi lo st n) := by
  refine ⟨by simp [wordsOf], fun x hx => ?_, ?_, fun x hx => ?_⟩
  · obtain ⟨k, hk, rfl⟩ := List.mem_map.mp hx
    have := List.mem_range.mp hk
    exact word_is h1 h2 (by omega)
  · unfold wordsOf
    refine List.Pairwise.map _ (fun i j h => ?_) (List.Pairwise.and_mem.mp (List.nodup_range (n := n)))
    obtain ⟨hi, hj, hne⟩ := h
    have := List.mem_range.mp hi
    have := List.mem_range.mp hj
    exact fun e => hne (word_inj (by omega) (by omega) e)
  · obtain ⟨k, hk, rfl⟩ := List.mem_map.mp hx
    have := List.mem_range.mp hk
    have := (word_sm (b := b) (st := st) (k := k) h1 h2).1
    omega
abbrev s__law_words : Stmt := top 20
abbrev N__law_words : List Str := ["_law_tape_here", "_law_many", "_law_alphabet", "_law_filler", "_law_longer", "_law_start", "_law_last", "_law_words_here", "_law_k", "_law_own"]
abbrev P__law_words : List Str := ["_law_tape_here", "_law_many"]
theorem sc__law_words : FnScope N__law_words P__law_words (defScope s__law_words) := ⟨rfl, rfl, rfl, by decide +kernel, rfl, by decide +kernel, by decide +kernel⟩
def F_words : FSpec := fun ds W Q _ => ∃ n : Nat, ds = [.tape, .int n] ∧ n ≤ 9 ∧ ∀ ws : List Str, Words n ws → Q (.lst (ws.map D.str)) W
theorem pickS (r : Int) (a0 : 0 ≤ r) (a1 : r < 26) : ∃ c, atI (Str.ofString "abcdefghijklmnopqrstuvwxyz").cps.toList r = some c ∧ c ∈ SMALLc := by
  refine ⟨SMALLc.getD r.toNat 0, ?_, List.mem_of_getElem? (small_at (by omega))⟩
  rw [small_c, show r = ((r.toNat : Nat) : Int) by omega]
  exact atI_nat (small_at (by omega))
theorem alen : (Str.ofString "abcdefghijklmnopqrstuvwxyz").length ≤ 1000000 := by decide +kernel
theorem ok__law_words (F : Fz K mg "_law_words" s__law_words P__law_words) (T : Txt K mg) (G__law_take : Fx P w K mg base (L2.CX P w) "_law_take" 1 P__law_take (lift K F_take)) : Fx P w K mg base (L2.CX P w) "_law_words" 2 P__law_words (lift K F_words) := by
  refine F.okD sc__law_words (fun ds W Q E h => ?_) (fun f cdv A outer s H E e ds Qd Ed hr lk h => ?_)
  · obtain ⟨n, rfl, _⟩ := h
    rfl
  · obtain ⟨n, rfl, hn, k⟩ := h
    refine ⟨_, _, (pss_cons (ps_set (i := 2) sc__law_words.nd rfl (Or.inl rfl) pe_str)
      (pss_cons (ps_set (i := 3) sc__law_words.nd rfl (Or.inl rfl) (pe_op op_mulU (pe_ix (ix_U K (hu_of hr)) (pv 2) (fcallX (takes_of rfl rfl rfl rfl) G__law_take (hr.mono (by first | decide | omega)) (by rfl) (pa_cons (pv 0) (pa_cons pe_int pa_nil))) (fun _ _ => rfl)) (fcallX (takes_of rfl rfl rfl rfl) G__law_take (hr.mono (by first | decide | omega)) (by rfl) (pa_cons (pv 0) (pa_cons pe_int pa_nil)))))
      (pss_cons (ps_set (i := 4) sc__law_words.nd rfl (Or.inl rfl) (pe_op op_mulU (pe_ix (ix_U K (hu_of hr)) (pv 2) (fcallX (takes_of rfl rfl rfl rfl) G__law_take (hr.mono (by first | decide | omega)) (by rfl) (pa_cons (pv 0) (pa_cons pe_int pa_nil))) (fun _ _ => rfl)) (fcallX (takes_of rfl rfl rfl rfl) G__law_take (hr.mono (by first | decide | omega)) (by rfl) (pa_cons (pv 0) (pa_cons pe_int pa_nil)))))
      (pss_cons (ps_set (i := 5) sc__law_words.nd rfl (Or.inl rfl) (fcallX (takes_of rfl rfl rfl rfl) G__law_take (hr.mono (by first | decide | omega)) (by rfl) (pa_cons (pv 0) (pa_cons pe_int pa_nil))))
      (pss_cons (ps_set (i := 6) sc__law_words.nd rfl (Or.inl rfl) (fcallX (takes_of rfl rfl rfl rfl) G__law_take (hr.mono (by first | decide | omega)) (by rfl) (pa_cons (pv 0) (pa_cons pe_int pa_nil))))
      (pss_cons (setO_of (ps_set (i := 7) sc__law_words.nd rfl (Or.inl rfl) (pe_lst pa_nil)))
      (pss_cons (ps_for (passes_of rfl) rfl (pi_range1 (by rfl) T.b_range (pa_cons (pv 1) pa_nil)) (pg_name (i := 8) sc__law_words.nd rfl (Or.inl rfl)) (pss_cons (ps_set (i := 9) sc__law_words.nd rfl (Or.inl rfl) (pe_ix (ix_U K (hu_of hr)) (pv 2) (pe_op op_modU (pe_op (op_addU K) (pv 5) (pv 8)) pe_int) (fun _ _ => rfl)))
      (pss_one (ps_if (pt_cmpR (op_eqU K hr.units) (pv 6) pe_int (nomark _)) (pss_one (ps_expr (pe_bmK K PySem.F.plainAttrs_list PySem.F.slot_list_append PySem.F.type_list_append mt_append (pv 7) (pa_cons (pe_op (op_addU K) (pe_op (op_addU K) (pv 9) (pv 3)) (pe_op op_mulU (pv 4) (pv 8))) pa_nil)))) (pss_one (ps_expr (pe_bmK K PySem.F.plainAttrs_list PySem.F.slot_list_append PySem.F.type_list_append mt_append (pv 7) (pa_cons (pe_op (op_addU K) (pe_op (op_addU K) (pv 3) (pe_op op_mulU (pv 4) (pv 8))) (pv 9)) pa_nil))))))))
      (pss_one (ps_ret (pv 7)))))))))), inferInstance, ?_⟩
    walk_at "d"
    refine ⟨26, rfl, by decide, fun r1 a0 a1 => ?_⟩
    obtain ⟨c1, e1, m1⟩ := pickS r1 a0 a1
    walk_at "d"
    refine ⟨alen, ?_⟩
    rw [e1]
    walk_at "d"
    refine ⟨4, rfl, by decide, fun n1 a2 a3 => ?_⟩
    walk_at "d"
    refine ⟨a2, (by show 1 ≤ 1000; decide), by omega, 26, rfl, by decide, fun r2 a4 a5 => ?_⟩
    obtain ⟨c2, e2, m2⟩ := pickS r2 a4 a5
    walk_at "d"
    refine ⟨alen, ?_⟩
    rw [e2]
    walk_at "d"
    refine ⟨2, rfl, by decide, fun n2 a6 a7 => ?_⟩
    walk_at "d"
    refine ⟨a6, (by show 1 ≤ 1000; decide), by omega, 26, rfl, by decide, fun st a8 a9 => ?_⟩
    walk_at "d"
    refine ⟨2, rfl, by decide, fun la b0 b1 => ?_⟩
    obtain ⟨st, rfl⟩ : ∃ j : Nat, st = (j : Int) := ⟨st.toNat, by omega⟩
    have hfi : smS 3 (repS ⟨#[c1]⟩ n1.toNat) := smS_mono (smS_rep (smS_one m1) n1.toNat) (by omega)
    have hlo : smS 1 (repS ⟨#[c2]⟩ n2.toNat) := smS_mono (smS_rep (smS_one m2) n2.toNat) (by omega)
    generalize repS ⟨#[c1]⟩ n1.toNat = fi at *
    generalize repS ⟨#[c2]⟩ n2.toNat = lo at *
    walk_at "d"
    refine ⟨by omega, by omega, ?_⟩
    refine for_rng (fun i S => ∃ v8 v9, S = ⟨[some (.val .tape), some (.val (.int n)), some (.val (.str "abcdefghijklmnopqrstuvwxyz")), some (.val (.str fi)), some (.val (.str lo)), some (.val (.int st)), some (.val (.int la)), some (.ownL ((wordsOf (decide (la = 0)) fi lo st i).map D.str)), v8, v9], e.W⟩) ⟨_, _, rfl⟩ ?_ ?_
    · rintro i S hi ⟨v8, v9, rfl⟩
      have hsm := hlo.1
      have hfm := hfi.1
      have hrl : (repS lo i).length ≤ 9 := by
        rw [repS_len]
        calc i * lo.length ≤ i * 1 := Nat.mul_le_mul_left i hsm
          _ ≤ 9 := by omega
      have own : atI (Str.ofString "abcdefghijklmnopqrstuvwxyz").cps.toList (((st : Int) + (0 + (i : Int))) % 26) = some (SMALLc.getD ((st + i) % 26) 0) := by
        rw [small_c, show ((st : Int) + (0 + (i : Int))) % 26 = (((st + i) % 26 : Nat) : Int) by omega]
        exact atI_nat (small_at (Nat.mod_lt _ (by decide)))
      have fin : ∀ x, x = wordAt (decide (la = 0)) fi lo st i → (wordsOf (decide (la = 0)) fi lo st i).map D.str ++ [D.str x] = (wordsOf (decide (la = 0)) fi lo st (i + 1)).map D.str := fun x hx => by
        unfold wordsOf
        rw [List.range_succ, List.map_append, List.map_append, hx]; rfl
      have lenl : ((wordsOf (decide (la = 0)) fi lo st i).map D.str).length = i := by simp [wordsOf]
      have ei : ((0 : Int) + (i : Int)).toNat = i := by omega
      walk_at "d"
      refine ⟨by decide, alen, ?_⟩
      rw [own]
      walk_at "d"
      refine iteB_by (fun c => ?_) (fun c => ?_)
      · have e0 : decide (la = 0) = true := decide_eq_true c
        rw [e0] at fin lenl ⊢
        walk_at "d"
        rw [ei, fin ((⟨#[SMALLc.getD ((st + i) % 26) 0]⟩ ++ fi) ++ repS lo i) rfl]
        exact ⟨by show 1 + fi.length ≤ _; omega, by omega, by omega, by omega, by rw [len_app]; show 1 + fi.length + _ ≤ _; omega, by rw [lenl]; omega, _, _, rfl⟩
      · have e0 : decide (la = 0) = false := decide_eq_false c
        rw [e0] at fin lenl ⊢
        walk_at "d"
        rw [ei, fin ((fi ++ repS lo i) ++ ⟨#[SMALLc.getD ((st + i) % 26) 0]⟩) rfl]
        exact ⟨by omega, by omega, by omega, by omega, by rw [len_app]; show _ + 1 ≤ _; omega, by rw [lenl]; omega, _, _, rfl⟩
    · rintro S ⟨v8, v9, rfl⟩
      walk_at "d"
      exact k _ (words_of hfi hlo hn)
def dkS (l : List (Str × Str)) : List (Key × D) := l.map fun p => (Sum.inr p.1, D.str p.2)
def lkS : List (Str × Str) → Str → Option Str
  | [], _ => none
  | p :: l, x => if p.1 = x then some p.2 else lkS l x
theorem look_dkS (x : Str) : ∀ l : List (Str × Str), look (dkS l) (Sum.inr x) = (lkS l x).map D.str
  | [] => rfl
  | p :: l => by
    show (if (Sum.inr p.1 : Key) = Sum.inr x then some (D.str p.2) else look (dkS l) (Sum.inr x)) = _
    by_cases c : p.1 = x
    · rw [lkS, if_pos c, if_pos (by rw [c])]; rfl
    · rw [lkS, if_neg c, if_neg (fun z => c (Sum.inr.inj z)), look_dkS x l]
theorem lkS_none {x : Str} : ∀ {l : List (Str × Str)}, x ∉ l.map (·.1) → lkS l x = none
  | [], _ => rfl
  | p :: l, h => by
    rw [List.map_cons, List.mem_cons, not_or] at h
    rw [lkS, if_neg (fun z => h.1 z.symm), lkS_none h.2]
theorem lkS_mem {x y : Str} : ∀ {l : List (Str × Str)}, (l.map (·.1)).Nodup → (x, y) ∈ l → lkS l x = some y
  | p :: l, hn, h => by
    rw [List.map_cons, List.nodup_cons] at hn
    rcases List.mem_cons.mp h with rfl | h
    · rw [lkS, if_pos rfl]
    · have : p.1 ≠ x := fun z => hn.1 (z ▸ List.mem_map.mpr ⟨_, h, rfl⟩)
      rw [lkS, if_neg this, lkS_mem hn.2 h]
theorem look_any {ks : List (Key × D)} {k : Key} : (ks.any fun p => decide (p.1 = k)) = (look ks k).isSome := by
  induction ks with
  | nil => rfl
  | cons p l ih =>
    rw [List.any_cons, look]
    by_cases c : p.1 = k
    · rw [if_pos c, decide_eq_true c]; rfl
    · rw [if_neg c, decide_eq_false c, Bool.false_or, ih]
theorem put_none {ks : List (Key × D)} {k : Key} {d : D} (h : look ks k = none) : put ks k d = ks ++ [(k, d)] := by
  unfold put
  rw [look_any, h]; rfl
theorem put_dkS {l : List (Str × Str)} {x y : Str} (h : x ∉ l.map (·.1)) : put (dkS l) (Sum.inr x) (.str y) = dkS (l ++ [(x, y)]) := by
  rw [put_none (by rw [look_dkS, lkS_none h]; rfl)]
  simp [dkS]
def shapesOf (ws : List Str) (b : Nat) (mu : List Str) : List (Str × Str) := ((ws.take b).map fun x => (x, ("" : Str))) ++ ((ws.drop 4).take mu.length).zip mu
def underOf (ws : List Str) (un : List (Nat × Nat)) : List (Str × Str) := un.map fun p => (ws.getD p.1 "", ws.getD p.2 "")
structure Stk (flat : Bool) (menu ws : List Str) (b : Nat) (mu : List Str) (un : List (Nat × Nat)) : Prop where
  w : Words 7 ws
  b2 : 2 ≤ b
  b4 : b ≤ 4
  m3 : mu.length ≤ 3
  mm : ∀ x ∈ mu, x ∈ menu
  u : ∀ p ∈ un, 1 ≤ p.1 ∧ p.1 < b ∧ p.2 < p.1
  asc : (un.map (·.1)).Pairwise (· < ·)
  fl : flat = true → un = []
theorem ws_ix {n : Nat} {ws : List Str} (h : ws.length = n) {i : Nat} (hi : i < n) : ws[i]? = some (ws.getD i "") := by
  rw [List.getD_eq_getElem?_getD, List.getElem?_eq_getElem (by omega)]; rfl
theorem ws_inj {ws : List Str} (h : ws.Nodup) {i j : Nat} (hi : i < ws.length) (hj : j < ws.length) (e : ws.getD i "" = ws.getD j "") : i = j := by
  have a := ws_ix rfl hi
  have b := ws_ix rfl hj
  rw [e] at a
  exact nd_ix h a b
theorem shapes_step1 {ws : List Str} {i : Nat} (hi : i < ws.length) : ((ws.take (i + 1)).map fun x => (x, ("" : Str))) = ((ws.take i).map fun x => (x, ("" : Str))) ++ [(ws.getD i "", ("" : Str))] := by
  rw [take_succ_get (ws_ix rfl hi), List.map_append]; rfl
theorem shapes_step2 {ws mu : List Str} {b : Nat} {m : Str} (hw : ws.length = 7) (hi : mu.length < 3) : shapesOf ws b (mu ++ [m]) = shapesOf ws b mu ++ [(ws.getD (4 + mu.length) "", m)] := by
  have e : (ws.drop 4)[mu.length]? = some (ws.getD (4 + mu.length) "") := by
    rw [List.getElem?_drop]; exact ws_ix hw (by omega)
  unfold shapesOf
  rw [List.length_append, List.length_singleton, take_succ_get e, List.zip_append (by rw [List.length_take, List.length_drop]; omega), List.append_assoc]; rfl
theorem shapes_keys {ws mu : List Str} {b : Nat} (hw : ws.length = 7) (hm : mu.length ≤ 3) : (shapesOf ws b mu).map (·.1) = ws.take b ++ (ws.drop 4).take mu.length := by
  unfold shapesOf
  rw [List.map_append, List.map_map, List.map_fst_zip (by rw [List.length_take, List.length_drop]; omega)]
  congr 1
  exact List.map_id' _
theorem not_in_take {ws : List Str} (h : ws.Nodup) {i j : Nat} (hi : i < ws.length) (hj : j ≤ i) : ws.getD i "" ∉ ws.take j := fun z => by
  obtain ⟨k, hk, e⟩ := List.mem_iff_getElem.mp z
  rw [List.length_take] at hk
  rw [List.getElem_take] at e
  have : ws.getD k "" = ws[k] := by
    have := ws_ix rfl (show k < ws.length by omega)
    rw [List.getElem?_eq_getElem (by omega)] at this
    exact (Option.some.inj this).symm
  have := ws_inj h hi (show k < ws.length by omega) (by rw [this, e])
  omega
theorem not_in_drop {ws : List Str} (h : ws.Nodup) {i j : Nat} (hi : 4 + i < ws.length) (hj : j ≤ i) : ws.getD (4 + i) "" ∉ (ws.drop 4).take j := fun z => by
  have e : (ws.drop 4).getD i "" = ws.getD (4 + i) "" := by
    rw [List.getD_eq_getElem?_getD, List.getElem?_drop, ← List.getD_eq_getElem?_getD]
  rw [← e] at z
  exact not_in_take (h.sublist (List.drop_sublist 4 ws)) (by rw [List.length_drop]; omega) hj z
abbrev s__law_stock : Stmt := top 21
abbrev N__law_stock : List Str := ["_law_tape_here", "_law_flat", "_law_menu", "_law_words_here", "_law_bases", "_law_shapes", "_law_k", "_law_under", "_law_above"]
abbrev P__law_stock : List Str := ["_law_tape_here", "_law_flat", "_law_menu"]
theorem sc__law_stock : FnScope N__law_stock P__law_stock (defScope s__law_stock) := ⟨rfl, rfl, rfl, by decide +kernel, rfl, by decide +kernel, by decide +kernel⟩
def F_stock : FSpec := fun ds W Q _ => ∃ (flat : Bool) (menu : List Str), ds = [.tape, .bl flat, .lst (menu.map D.str)] ∧ menu ≠ [] ∧ menu.length ≤ 100 ∧
  ∀ (ws : List Str) (b : Nat) (mu : List Str) (un : List (Nat × Nat)), Stk flat menu ws b mu un → Q (.tup [.dct (dkS (shapesOf ws b mu)), .dct (dkS (underOf ws un))]) W
theorem ok__law_stock (F : Fz K mg "_law_stock" s__law_stock P__law_stock) (T : Txt K mg) (G__law_take : Fx P w K mg base (L2.CX P w) "_law_take" 1 P__law_take (lift K F_take)) (G__law_words : Fx P w K mg base (L2.CX P w) "_law_words" 2 P__law_words (lift K F_words)) : Fx P w K mg base (L2.CX P w) "_law_stock" 3 P__law_stock (lift K F_stock) := by
  refine F.okD sc__law_stock (fun ds W Q E h => ?_) (fun f cdv A outer s H E e ds Qd Ed hr lk h => ?_)
  · obtain ⟨flat, menu, rfl, _⟩ := h
    rfl
  · obtain ⟨flat, menu, rfl, hme, hml, k⟩ := h
    refine ⟨_, _, (pss_cons (ps_set (i := 3) sc__law_stock.nd rfl (Or.inl rfl) (fcallX (takes_of rfl rfl rfl rfl) G__law_words (hr.mono (by first | decide | omega)) (by rfl) (pa_cons (pv 0) (pa_cons pe_int pa_nil))))
      (pss_cons (ps_set (i := 4) sc__law_stock.nd rfl (Or.inl rfl) (pe_op (op_addU K) pe_int (fcallX (takes_of rfl rfl rfl rfl) G__law_take (hr.mono (by first | decide | omega)) (by rfl) (pa_cons (pv 0) (pa_cons pe_int pa_nil)))))
      (pss_cons (setO_of (ps_set (i := 5) sc__law_stock.nd rfl (Or.inl rfl) pe_dnewK))
      (pss_cons (ps_for (passes_of rfl) rfl (pi_range1 (by rfl) T.b_range (pa_cons (pv 4) pa_nil)) (pg_name (i := 6) sc__law_stock.nd rfl (Or.inl rfl)) (pss_one (ps_dput (hu_of hr) (pv 5) (pe_ix (ix_U K (hu_of hr)) (pv 3) (pv 6) (fun _ _ => rfl)) pe_str rfl)))
      (pss_cons (ps_for (passes_of rfl) rfl (pi_range1 (by rfl) T.b_range (pa_cons (fcallX (takes_of rfl rfl rfl rfl) G__law_take (hr.mono (by first | decide | omega)) (by rfl) (pa_cons (pv 0) (pa_cons pe_int pa_nil))) pa_nil)) (pg_name (i := 6) sc__law_stock.nd rfl (Or.inl rfl)) (pss_one (ps_dput (hu_of hr) (pv 5) (pe_ix (ix_U K (hu_of hr)) (pv 3) (pe_op (op_addU K) pe_int (pv 6)) (fun _ _ => rfl)) (pe_ix (ix_U K (hu_of hr)) (pv 2) (fcallX (takes_of rfl rfl rfl rfl) G__law_take (hr.mono (by first | decide | omega)) (by rfl) (pa_cons (pv 0) (pa_cons (pe_callB (call_lenU K) (by rfl) T.b_len PySem.boot_len (pa_cons (pv 2) pa_nil)) pa_nil))) (fun _ _ => rfl)) rfl)))
      (pss_cons (setO_of (ps_set (i := 7) sc__law_stock.nd rfl (Or.inl rfl) pe_dnewK))
      (pss_cons (ps_for (passes_of rfl) rfl (pi_range2 (by rfl) T.b_range (pa_cons pe_int (pa_cons (pv 4) pa_nil))) (pg_name (i := 6) sc__law_stock.nd rfl (Or.inl rfl)) (pss_cons (ps_set (i := 8) sc__law_stock.nd rfl (Or.inl rfl) (fcallX (takes_of rfl rfl rfl rfl) G__law_take (hr.mono (by first | decide | omega)) (by rfl) (pa_cons (pv 0) (pa_cons (pe_op (op_addU K) (pv 6) pe_int) pa_nil))))
      (pss_one (ps_if (PW.pt (pw_and (pt_cmpR op_ltU (pv 8) (pv 6) (nomark _)) (pw_and1 (pt_not (pt_val (pv 1)))))) (pss_one (ps_dput (hu_of hr) (pv 7) (pe_ix (ix_U K (hu_of hr)) (pv 3) (pv 6) (fun _ _ => rfl)) (pe_ix (ix_U K (hu_of hr)) (pv 3) (pv 8) (fun _ _ => rfl)) rfl)) pss_nil))))
      (pss_one (ps_ret (pe_tup (pa_cons (pv 5) (pa_cons (pv 7) pa_nil)))))))))))), inferInstance, ?_⟩
    walk_at "d"
    refine ⟨7, rfl, by decide, fun ws hw => ?_⟩
    have hlen := hw.len
    have ixw : ∀ {z : Int} {i : Nat}, z = (i : Int) → i < 7 → atI (ws.map D.str) z = some (D.str (ws.getD i "")) := fun hz hi => at_get hz (by rw [List.getElem?_map, ws_ix hlen hi]; rfl)
    walk_at "d"
    refine ⟨3, rfl, by decide, fun q q0 q1 => ?_⟩
    obtain ⟨q, rfl⟩ : ∃ j : Nat, q = (j : Int) := ⟨q.toNat, by omega⟩
    walk_at "d"
    refine ⟨by omega, by omega, ?_⟩
    refine for_rng (fun i S => ∃ v6, S = ⟨[some (.val .tape), some (.val (.bl flat)), some (.val (.lst (menu.map D.str))), some (.val (.lst (ws.map D.str))), some (.val (.int (2 + (q : Int)))), some (.ownD (dkS ((ws.take i).map fun x => (x, ("" : Str))))), v6, none, none], e.W⟩) ⟨_, rfl⟩ ?_ ?_
    · rintro i S hi ⟨v6, rfl⟩
      walk_at "d"
      rw [ixw (i := i) (by omega) (by omega)]
      walk_at "d"
      rw [put_dkS (by rw [show ((ws.take i).map fun x => (x, ("" : Str))).map (·.1) = ws.take i by rw [List.map_map]; exact List.map_id' _]; exact not_in_take hw.nodup (show i < ws.length by omega) (Nat.le_refl i)), ← shapes_step1 (show i < ws.length by omega)]
      exact ⟨by simp [dkS]; omega, _, rfl⟩
    · rintro S ⟨v6, rfl⟩
      have e0 : (ws.take (2 + (q : Int)).toNat).map (fun x => (x, ("" : Str))) = shapesOf ws (2 + q) [] := by
        unfold shapesOf
        rw [show (2 + (q : Int)).toNat = 2 + q by omega]; simp
      rw [e0]
      walk_at "d"
      refine ⟨4, rfl, by decide, fun c c0 c1 => ?_⟩
      walk_at "d"
      refine ⟨by omega, by omega, ?_⟩
      refine for_rng (fun i S => ∃ v6 mu, S = ⟨[some (.val .tape), some (.val (.bl flat)), some (.val (.lst (menu.map D.str))), some (.val (.lst (ws.map D.str))), some (.val (.int (2 + (q : Int)))), some (.ownD (dkS (shapesOf ws (2 + q) mu))), v6, none, none], e.W⟩ ∧ mu.length = i ∧ ∀ x ∈ mu, x ∈ menu) ⟨_, [], rfl, rfl, by simp⟩ ?_ ?_
      · rintro i S hi ⟨v6, mu, rfl, hmu, hmm⟩
        walk_at "d"
        refine ⟨_, rfl, ?_, fun r r0 r1 => ?_⟩
        · have : menu.length ≠ 0 := fun z => hme (List.length_eq_zero_iff.mp z)
          simp; omega
        rw [List.length_map] at r1
        obtain ⟨m, hm⟩ : ∃ m, menu[r.toNat]? = some m := ⟨_, List.getElem?_eq_getElem (by omega)⟩
        walk_at "d"
        rw [at_get (j := r.toNat) (by omega) (show (menu.map D.str)[r.toNat]? = some (D.str m) by rw [List.getElem?_map, hm]; rfl)]
        walk_at "d"
        rw [ixw (i := 4 + i) (by omega) (by omega)]
        walk_at "d"
        rw [put_dkS (by
          rw [shapes_keys hlen (by omega), List.mem_append]
          rintro (z | z)
          · exact not_in_take hw.nodup (show 4 + i < ws.length by omega) (by omega) z
          · exact not_in_drop hw.nodup (show 4 + i < ws.length by omega) (by omega) z), ← hmu, ← shapes_step2 hlen (by omega)]
        refine ⟨?_, _, mu ++ [m], rfl, by simp, fun x hx => ?_⟩
        · simp [dkS, shapesOf]; omega
        · rcases List.mem_append.mp hx with hx | hx
          · exact hmm x hx
          · rw [List.mem_singleton.mp hx]; exact List.mem_of_getElem? hm
      · rintro S ⟨v6, mu, rfl, hmu, hmm⟩
        walk_at "d"
        refine ⟨by omega, ?_⟩
        refine for_rng (fun i S => ∃ v6 v8 un, S = ⟨[some (.val .tape), some (.val (.bl flat)), some (.val (.lst (menu.map D.str))), some (.val (.lst (ws.map D.str))), some (.val (.int (2 + (q : Int)))), some (.ownD (dkS (shapesOf ws (2 + q) mu))), v6, some (.ownD (dkS (underOf ws un))), v8], e.W⟩ ∧ un.length ≤ i ∧ (∀ p ∈ un, 1 ≤ p.1 ∧ p.1 < 1 + i ∧ p.2 < p.1) ∧ (un.map (·.1)).Pairwise (· < ·) ∧ (flat = true → un = [])) ⟨_, _, [], rfl, by simp, by simp, by simp, fun _ => rfl⟩ ?_ ?_
        · rintro i S hi ⟨v6, v8, un, rfl, ul, u1, u2, u3⟩
          walk_at "d"
          refine ⟨_, rfl, by omega, fun r r0 r1 => ?_⟩
          walk_at "d"
          have skip : ∃ v6' v8' un', (⟨[some (.val .tape), some (.val (.bl flat)), some (.val (.lst (menu.map D.str))), some (.val (.lst (ws.map D.str))), some (.val (.int (2 + (q : Int)))), some (.ownD (dkS (shapesOf ws (2 + q) mu))), some (.val (.int (1 + (i : Int)))), some (.ownD (dkS (underOf ws un))), some (.val (.int r))], e.W⟩ : PSt) = ⟨[some (.val .tape), some (.val (.bl flat)), some (.val (.lst (menu.map D.str))), some (.val (.lst (ws.map D.str))), some (.val (.int (2 + (q : Int)))), some (.ownD (dkS (shapesOf ws (2 + q) mu))), v6', some (.ownD (dkS (underOf ws un'))), v8'], e.W⟩ ∧ un'.length ≤ i + 1 ∧ (∀ p ∈ un', 1 ≤ p.1 ∧ p.1 < 1 + (i + 1) ∧ p.2 < p.1) ∧ (un'.map (·.1)).Pairwise (· < ·) ∧ (flat = true → un' = []) :=
            ⟨_, _, un, rfl, by omega, fun p hp => by have := u1 p hp; omega, u2, u3⟩
          refine iteB_by (fun c => ?_) (fun c => ?_)
          · walk_at "d"
            refine iteB_by (fun cf => ?_) (fun cf => ?_)
            · walk_at "d"
              rw [ixw (i := r.toNat) (by omega) (by omega)]
              walk_at "d"
              rw [ixw (i := 1 + i) (by omega) (by omega)]
              walk_at "d"
              have nin : ws.getD (1 + i) "" ∉ ((underOf ws un).map (·.1)) := fun z => by
                rw [underOf, List.map_map] at z
                obtain ⟨p, hp, e⟩ := List.mem_map.mp z
                have h1 := u1 p hp
                have := ws_inj hw.nodup (show p.1 < ws.length by omega) (show 1 + i < ws.length by omega) e
                omega
              rw [put_dkS nin, show underOf ws un ++ [(ws.getD (1 + i) "", ws.getD r.toNat "")] = underOf ws (un ++ [(1 + i, r.toNat)]) by simp [underOf]]
              refine ⟨by simp [dkS, underOf]; omega, _, _, un ++ [(1 + i, r.toNat)], rfl, by simp; omega, fun p hp => ?_, ?_, fun z => by rw [cf] at z; cases z⟩
              · rcases List.mem_append.mp hp with hp | hp
                · have := u1 p hp; omega
                · rw [List.mem_singleton.mp hp]
                  refine ⟨?_, ?_, ?_⟩ <;> dsimp only <;> omega
              · rw [List.map_append, List.pairwise_append]
                refine ⟨u2, by simp, fun x hx y hy => ?_⟩
                obtain ⟨p, hp, rfl⟩ := List.mem_map.mp hx
                have := u1 p hp
                have hy : y = 1 + i := by simpa using hy
                rw [hy]
                exact this.2.1
            · walk_at "d"
              exact skip
          · walk_at "d"
            exact skip
        · rintro S ⟨v6, v8, un, rfl, ul, u1, u2, u3⟩
          walk_at "d"
          exact k ws (2 + q) mu un ⟨hw, by omega, by omega, by omega, hmm, fun p hp => by have := u1 p hp; omega, u2, u3⟩
structure Shp (ss : List (Str × Str)) : Prop where
  nd : (ss.map (·.1)).Nodup
  two : ∃ (a b : Str) (r : List (Str × Str)), ss = (a, ("" : Str)) :: (b, ("" : Str)) :: r
  few : ss.length ≤ 20
  small : ∀ p ∈ ss, p.2.length ≤ 3
theorem keys_dkS (ss : List (Str × Str)) : ((dkS ss).map fun p => keyV p.1) = ss.map fun p => D.str p.1 := by
  unfold dkS
  rw [List.map_map]; rfl
theorem lkS_get {ss : List (Str × Str)} (hn : (ss.map (·.1)).Nodup) {i : Nat} {p : Str × Str} (h : ss[i]? = some p) : lkS ss p.1 = some p.2 := lkS_mem hn (List.mem_of_getElem? h)
abbrev s_sound_shapes : Stmt := top 11
abbrev N_sound_shapes : List Str := ["shapes", "bases", "word", "marks", "mark"]
abbrev P_sound_shapes : List Str := ["shapes"]
theorem sc_sound_shapes : FnScope N_sound_shapes P_sound_shapes (defScope s_sound_shapes) := ⟨rfl, rfl, rfl, by decide +kernel, rfl, by decide +kernel, by decide +kernel⟩
def MARKSc : List Nat := [43, 45]
def soundS (ss : List (Str × Str)) : Bool := decide (2 ≤ ss.length) && decide (ss.length ≤ 12) && ss.all (fun p => isWord p.1 && decide (p.2.length ≤ 3) && p.2.cps.toList.all fun c => decide (c ∈ MARKSc)) && decide (2 ≤ (ss.filter fun p => decide (p.2 = Str.ofString "")).length)
theorem marks_c : (Str.ofString "+-").cps.toList = MARKSc := by decide +kernel
def F_soundS : FSpec := fun ds W Q _ => ∃ ss : List (Str × Str), ds = [.dct (dkS ss)] ∧ (ss.map (·.1)).Nodup ∧ ss.length ≤ 1000 ∧ (∀ p ∈ ss, p.1.length ≤ 1000 ∧ p.2.length ≤ 1000) ∧ Q (.bl (soundS ss)) W
theorem ok_sound_shapes (F : Fz K mg "sound_shapes" s_sound_shapes P_sound_shapes) (T : Txt K mg) (G_is_word : Fx P w K mg base (L2.CX P w) "is_word" 1 P_is_word (lift K F_is_word)) : Fx P w K mg base (L2.CX P w) "sound_shapes" 2 P_sound_shapes (lift K F_soundS) := by
  refine F.okD sc_sound_shapes (fun ds W Q E h => ?_) (fun f cdv A outer s H E e ds Qd Ed hr lk h => ?_)
  · obtain ⟨ss, rfl, _⟩ := h
    rfl
  · obtain ⟨ss, rfl, hn, hl, hs, k⟩ := h
    refine ⟨_, _, (pss_cons (ps_if (PW.pt (pw_or (pt_cmpR op_ltU (pe_callB (call_lenU K) (by rfl) T.b_len PySem.boot_len (pa_cons (pv 0) pa_nil)) pe_int (nomark _)) (pw_or1 (pt_cmpR op_gtU (pe_callB (call_lenU K) (by rfl) T.b_len PySem.boot_len (pa_cons (pv 0) pa_nil)) (pglob rfl T.c_MOST_WORDS) (nomark _))))) (pss_one (ps_ret pe_bl)) pss_nil)
      (pss_cons (ps_set (i := 1) sc_sound_shapes.nd rfl (Or.inl rfl) pe_int)
      (pss_cons (ps_for (passes_of rfl) rfl (pi_any K (pv 0)) (pg_name (i := 2) sc_sound_shapes.nd rfl (Or.inl rfl)) (pss_cons (ps_set (i := 3) sc_sound_shapes.nd rfl (Or.inl rfl) (pe_ix (ix_U K (hu_of hr)) (pv 0) (pv 2) (fun _ _ => rfl)))
      (pss_cons (ps_if (PW.pt (pw_or (pt_not (pt_val (fcallX (takes_of rfl rfl rfl rfl) G_is_word (hr.mono (by first | decide | omega)) (by rfl) (pa_cons (pv 2) pa_nil)))) (pw_or (pt_not (pt_val (pe_callB (call_isi1K K) (by rfl) T.b_isinstance (by decide +kernel) (pa_cons (pv 3) (pa_cons (pe_bltn (v := .ty "str") (by rfl) T.b_str (by decide +kernel) rfl) pa_nil))))) (pw_or1 (pt_cmpR op_gtU (pe_callB (call_lenU K) (by rfl) T.b_len PySem.boot_len (pa_cons (pv 3) pa_nil)) (pglob rfl T.c_MOST_PARTS) (nomark _)))))) (pss_one (ps_ret pe_bl)) pss_nil)
      (pss_cons (ps_if (pt_not (pt_val (pe_callB (cr_allK K rfl) (by rfl) T.b_all (by decide +kernel) (pa_cons (pe_lc (own := [("mark", 4)]) (g := (gName 4)) (tt := tYes) rfl sc_sound_shapes.nd (pi_any K (pv 3)) (blkOk_by (own := [("mark", 4)]) (N := N_sound_shapes) (sc := defScope s_sound_shapes) (by decide +kernel)) (fun _ _ _ _ _ => (pg_name (i := 4) sc_sound_shapes.nd rfl (by first | exact Or.inl rfl | exact Or.inr rfl))) (fun _ _ _ _ _ => pts_nil) (fun _ _ _ _ _ => (pe_cmpR (op_inU K (hu65_of hr)) (pv 4) pe_str (by rfl)))) pa_nil)))) (pss_one (ps_ret pe_bl)) pss_nil)
      (pss_one (ps_if (pt_cmpR (op_eqU K hr.units) (pv 3) pe_str (nomark _)) (pss_one (ps_aug (i := 1) sc_sound_shapes.nd rfl (Or.inl rfl) pe_int ip_augU)) pss_nil))))))
      (pss_one (ps_ret (pe_cmpR op_geU (pv 1) pe_int (nomark _))))))), inferInstance, ?_⟩
    have hdl : (dkS ss).length = ss.length := by simp [dkS]
    walk_at "d"
    refine iteB_by (fun c => ?_) (fun c => ?_)
    · walk_at "d"
      rw [soundS, decide_eq_false (show ¬ 2 ≤ ss.length by omega)] at k
      exact k
    · walk_at "d"
      refine iteB_by (fun c2 => ?_) (fun c2 => ?_)
      · walk_at "d"
        rw [soundS, decide_eq_false (show ¬ ss.length ≤ 12 by omega), Bool.and_false] at k
        exact k
      · walk_at "d"
        rw [keys_dkS]
        refine for_map (fun p : Str × Str => D.str p.1) ss (fun i S => ∃ v2 v3 v4, S = ⟨[some (.val (.dct (dkS ss))), some (.val (.int ((ss.take i).filter fun p => decide (p.2 = Str.ofString "")).length)), v2, v3, v4], e.W⟩ ∧ (ss.take i).all (fun p => isWord p.1 && decide (p.2.length ≤ 3) && p.2.cps.toList.all fun c => decide (c ∈ MARKSc)) = true) ⟨_, _, _, rfl, rfl⟩ ?_ ?_
        · rintro i p S hp ⟨v2, v3, v4, rfl, ha⟩
          walk_at "d"
          rw [look_dkS, lkS_get hn hp]
          walk_at "d"
          have hpm := hs p (List.mem_of_getElem? hp)
          have bad : (isWord p.1 && decide (p.2.length ≤ 3) && p.2.cps.toList.all fun c => decide (c ∈ MARKSc)) = false → Qd (.bl false) e.W := fun z => by
            have : (ss.all fun p => isWord p.1 && decide (p.2.length ≤ 3) && p.2.cps.toList.all fun c => decide (c ∈ MARKSc)) = false := by
              rw [← Bool.not_eq_true, List.all_eq_true]
              exact fun h => by rw [h p (List.mem_of_getElem? hp)] at z; cases z
            rw [soundS, this, Bool.and_false, Bool.false_and] at k
            exact k
          refine ⟨_, rfl, by rw [fitD]; exact decide_eq_true hpm.1, ?_⟩
          rw [isWordD]
          cases hw : isWord p.1 with
          | false =>
            walk_at "d"
            exact bad (by rw [hw]; rfl)
          | true =>
            walk_at "d"
            refine ⟨by omega, ?_⟩
            refine iteB_by (fun c3 => ?_) (fun c3 => ?_)
            · walk_at "d"
              exact bad (by rw [decide_eq_false (show ¬ p.2.length ≤ 3 by omega), Bool.and_false, Bool.false_and])
            · walk_at "d"
              refine comp_map (fun c => D.str ⟨#[c]⟩) (fun c => .bl (decide (c ∈ MARKSc))) p.2.cps.toList (by have : p.2.cps.toList.length = p.2.length := rfl; simp only [List.length_nil]; omega) (fun c hc N M hn' => ?_) ?_
              · walk_at "d"
                rw [strIn_sign, marks_c]
                exact hn'
              · walk_at "d"
                rw [bls_mapF]
                walk_at "d"
                rw [List.all_map]
                cases hc : p.2.cps.toList.all fun c => decide (c ∈ MARKSc) with
                | false =>
                  refine iteB_T (by exact hc) ?_
                  walk_at "d"
                  exact bad (by rw [hc, Bool.and_false])
                | true =>
                  refine iteB_F (by rw [show (p.2.cps.toList.all (id ∘ fun c => decide (c ∈ MARKSc))) = true from hc]; simp) ?_
                  walk_at "d"
                  have hnx : (ss.take (i + 1)).all (fun p => isWord p.1 && decide (p.2.length ≤ 3) && p.2.cps.toList.all fun c => decide (c ∈ MARKSc)) = true := by
                    rw [take_succ_get hp, List.all_append, ha, List.all_cons, List.all_nil, hw, hc, decide_eq_true (show p.2.length ≤ 3 by omega)]
                    rfl
                  refine iteB_by (fun c4 => ?_) (fun c4 => ?_)
                  · have hq : (((ss.take (i + 1)).filter fun p => decide (p.2 = Str.ofString "")).length : Int) = (((ss.take i).filter fun p => decide (p.2 = Str.ofString "")).length : Int) + 1 := by
                      rw [take_succ_get hp, List.filter_append, List.filter_cons_of_pos (by exact decide_eq_true c4), List.length_append]
                      rfl
                    walk_at "d"
                    rw [hq]
                    exact ⟨_, _, _, rfl, hnx⟩
                  · have hq : (((ss.take (i + 1)).filter fun p => decide (p.2 = Str.ofString "")).length : Int) = (((ss.take i).filter fun p => decide (p.2 = Str.ofString "")).length : Int) := by
                      rw [take_succ_get hp, List.filter_append, List.filter_cons_of_neg (by simpa using c4), List.filter_nil, List.append_nil]
                    walk_at "d"
                    rw [hq]
                    exact ⟨_, _, _, rfl, hnx⟩
        · rintro S ⟨v2, v3, v4, rfl, ha⟩
          rw [List.take_length] at ha ⊢
          walk_at "d"
          rw [soundS, ha, decide_eq_true (show 2 ≤ ss.length by omega), decide_eq_true (show ss.length ≤ 12 by omega), Bool.true_and, Bool.true_and, Bool.true_and] at k
          rw [show decide ((2 : Int) ≤ ((ss.filter fun p => decide (p.2 = Str.ofString "")).length : Int)) = decide (2 ≤ (ss.filter fun p => decide (p.2 = Str.ofString "")).length) from decide_eq_decide.mpr (by omega)]
          exact k
def stepsF (us : List (Str × Str)) : Nat → Str → Nat
  | 0, _ => 0
  | m + 1, x => match lkS us x with
    | none => 0
    | some y => stepsF us m y + 1
def leadsB (us : List (Str × Str)) : Bool := us.any fun p => decide (us.length < stepsF us (us.length + 1) p.1)
abbrev s_leads_back : Stmt := top 10
abbrev N_leads_back : List Str := ["above", "start", "at", "steps"]
abbrev P_leads_back : List Str := ["above"]
theorem sc_leads_back : FnScope N_leads_back P_leads_back (defScope s_leads_back) := ⟨rfl, rfl, rfl, by decide +kernel, rfl, by decide +kernel, by decide +kernel⟩
def F_leads : FSpec := fun ds W Q _ => ∃ us : List (Str × Str), ds = [.dct (dkS us)] ∧ us.length ≤ 1000 ∧ Q (.bl (leadsB us)) W
theorem while_by {c : TDT} {tb : TDS} {E : DEnds} {S : PSt} (I : Nat → PSt → Prop) (m : Nat) (h0 : I m S) (hs : ∀ m S, I m S → c S fun b S1 => if b = true then ∃ N : PSt → Prop, (∀ S', N S' → ∃ m', m' < m ∧ I m' S') ∧ tb ⟨N, E.rt, E.nx, N, E.rn⟩ S1 else E.nx S1) : @whileB S ⟨c⟩ ⟨tb⟩ ⟨E⟩ := ⟨I, ⟨m, h0⟩, hs⟩
theorem ok_leads_back (F : Fz K mg "leads_back" s_leads_back P_leads_back) (T : Txt K mg) : Fx P w K mg base (L2.CX P w) "leads_back" 1 P_leads_back (lift K F_leads) := by
  refine F.okD sc_leads_back (fun ds W Q E h => ?_) (fun f cdv A outer s H E e ds Qd Ed hr lk h => ?_)
  · obtain ⟨us, rfl, _⟩ := h
    rfl
  · obtain ⟨us, rfl, hl, k⟩ := h
    refine ⟨_, _, (pss_cons (ps_for (passes_of rfl) rfl (pi_any K (pv 0)) (pg_name (i := 1) sc_leads_back.nd rfl (Or.inl rfl)) (pss_cons (ps_set (i := 2) sc_leads_back.nd rfl (Or.inl rfl) (pv 1))
      (pss_cons (ps_set (i := 3) sc_leads_back.nd rfl (Or.inl rfl) pe_int)
      (pss_cons (ps_while (passes_of rfl) (PW.pt (pw_and (pt_cmpR (op_inU K (hu65_of hr)) (pv 2) (pv 0) (by rfl)) (pw_and1 (pt_cmpR op_leU (pv 3) (pe_callB (call_lenU K) (by rfl) T.b_len PySem.boot_len (pa_cons (pv 0) pa_nil)) (nomark _))))) (pss_cons (ps_set (i := 2) sc_leads_back.nd rfl (Or.inl rfl) (pe_ix (ix_U K (hu_of hr)) (pv 0) (pv 2) (fun _ _ => rfl)))
      (pss_one (ps_aug (i := 3) sc_leads_back.nd rfl (Or.inl rfl) pe_int ip_augU))))
      (pss_one (ps_if (pt_cmpR op_gtU (pv 3) (pe_callB (call_lenU K) (by rfl) T.b_len PySem.boot_len (pa_cons (pv 0) pa_nil)) (nomark _)) (pss_one (ps_ret pe_bl)) pss_nil))))))
      (pss_one (ps_ret pe_bl))), inferInstance, ?_⟩
    have hdl : (dkS us).length = us.length := by simp [dkS]
    walk_at "d"
    rw [keys_dkS]
    refine for_map (fun p : Str × Str => D.str p.1) us (fun i S => ∃ v1 v2 v3, S = ⟨[some (.val (.dct (dkS us))), v1, v2, v3], e.W⟩ ∧ (us.take i).any (fun p => decide (us.length < stepsF us (us.length + 1) p.1)) = false) ⟨_, _, _, rfl, rfl⟩ ?_ ?_
    · rintro i p S hp ⟨v1, v2, v3, rfl, ha⟩
      walk_at "d"
      refine while_by (fun m S => ∃ (x : Str) (j : Nat), S = ⟨[some (.val (.dct (dkS us))), some (.val (.str p.1)), some (.val (.str x)), some (.val (.int j))], e.W⟩ ∧ j + m = us.length + 1 ∧ stepsF us (us.length + 1) p.1 = j + stepsF us m x) (us.length + 1) ⟨p.1, 0, rfl, by omega, by omega⟩ ?_
      rintro m S ⟨x, j, rfl, hjm, hst⟩
      walk_at "d"
      rw [look_dkS]
      have fin : (lkS us x = none ∨ m = 0) → j = stepsF us (us.length + 1) p.1 := fun h => by
        rw [hst]
        rcases h with h | h
        · cases m with
          | zero => rfl
          | succ m => rw [stepsF, h]; rfl
        · subst h; rfl
      have ends : j = stepsF us (us.length + 1) p.1 → ∀ b : Bool, us.length < j → us.any (fun p => decide (us.length < stepsF us (us.length + 1) p.1)) = true := fun h _ c => by
        rw [List.any_eq_true]
        exact ⟨p, List.mem_of_getElem? hp, by rw [← h]; exact decide_eq_true c⟩
      have nxt : j = stepsF us (us.length + 1) p.1 → ¬ us.length < j → (us.take (i + 1)).any (fun p => decide (us.length < stepsF us (us.length + 1) p.1)) = false := fun h c => by
        rw [take_succ_get hp, List.any_append, ha, List.any_cons, List.any_nil, ← h, decide_eq_false c]; rfl
      cases hx : lkS us x with
      | none =>
        walk_at "d"
        refine iteB_by (fun c => ?_) (fun c => ?_)
        · walk_at "d"
          rw [leadsB, ends (fin (.inl hx)) true (by omega)] at k
          exact k
        · walk_at "d"
          exact ⟨_, _, _, rfl, nxt (fin (.inl hx)) (by omega)⟩
      | some y =>
        walk_at "d"
        refine iteB_by (fun c => ?_) (fun c => ?_)
        · walk_at "d"
          refine ⟨_, fun S' h => h, ?_⟩
          rw [look_dkS, hx]
          walk_at "d"
          obtain ⟨m, rfl⟩ : ∃ n, m = n + 1 := ⟨m - 1, by omega⟩
          refine ⟨m, by omega, y, j + 1, rfl, by omega, ?_⟩
          rw [hst, stepsF, hx]
          show j + (stepsF us m y + 1) = _
          omega
        · walk_at "d"
          refine iteB_by (fun c => ?_) (fun c => ?_)
          · walk_at "d"
            rw [leadsB, ends (fin (.inr (by omega))) true (by omega)] at k
            exact k
          · walk_at "d"
            exact ⟨_, _, _, rfl, nxt (fin (.inr (by omega))) (by omega)⟩
    · rintro S ⟨v1, v2, v3, rfl, ha⟩
      rw [List.take_length] at ha
      walk_at "d"
      rw [leadsB, ha] at k
      exact k
abbrev s_sound_order : Stmt := top 12
abbrev N_sound_order : List Str := ["shapes", "above", "low", "word"]
abbrev P_sound_order : List Str := ["shapes", "above"]
theorem sc_sound_order : FnScope N_sound_order P_sound_order (defScope s_sound_order) := ⟨rfl, rfl, rfl, by decide +kernel, rfl, by decide +kernel, by decide +kernel⟩
def NOMK : Str := Str.ofString ""
def soundO (ss us : List (Str × Str)) : Bool := (us.all fun p => decide (lkS ss p.1 = some NOMK) && decide (lkS ss p.2 = some NOMK)) && !leadsB us
def F_soundO : FSpec := fun ds W Q _ => ∃ ss us : List (Str × Str), ds = [.dct (dkS ss), .dct (dkS us)] ∧ (us.map (·.1)).Nodup ∧ us.length ≤ 1000 ∧ ss.length ≤ 1000 ∧ Q (.bl (soundO ss us)) W
theorem ok_sound_order (F : Fz K mg "sound_order" s_sound_order P_sound_order) (T : Txt K mg) (G_leads_back : Fx P w K mg base (L2.CX P w) "leads_back" 1 P_leads_back (lift K F_leads)) : Fx P w K mg base (L2.CX P w) "sound_order" 2 P_sound_order (lift K F_soundO) := by
  refine F.okD sc_sound_order (fun ds W Q E h => ?_) (fun f cdv A outer s H E e ds Qd Ed hr lk h => ?_)
  · obtain ⟨ss, us, rfl, _⟩ := h
    rfl
  · obtain ⟨ss, us, rfl, hn, hu, hs, k⟩ := h
    refine ⟨_, _, (pss_cons (ps_for (passes_of rfl) rfl (pi_any K (pv 1)) (pg_name (i := 2) sc_sound_order.nd rfl (Or.inl rfl)) (pss_one (ps_for (passes_of rfl) rfl (pi_any K (pe_tup (pa_cons (pv 2) (pa_cons (pe_ix (ix_U K (hu_of hr)) (pv 1) (pv 2) (fun _ _ => rfl)) pa_nil)))) (pg_name (i := 3) sc_sound_order.nd rfl (Or.inl rfl)) (pss_one (ps_if (PW.pt (pw_or (pt_cmpR (op_notInU K (hu65_of hr)) (pv 3) (pv 0) (by rfl)) (pw_or1 (pt_cmpR (op_neU K hr.units) (pe_ix (ix_U K (hu_of hr)) (pv 0) (pv 3) (fun _ _ => rfl)) pe_str (nomark _))))) (pss_one (ps_ret pe_bl)) pss_nil)))))
      (pss_one (ps_ret (pe_not (fcallX (takes_of rfl rfl rfl rfl) G_leads_back (hr.mono (by first | decide | omega)) (by rfl) (pa_cons (pv 1) pa_nil)))))), inferInstance, ?_⟩
    walk_at "d"
    rw [keys_dkS]
    refine for_map (fun p : Str × Str => D.str p.1) us (fun i S => ∃ v2 v3, S = ⟨[some (.val (.dct (dkS ss))), some (.val (.dct (dkS us))), v2, v3], e.W⟩ ∧ (us.take i).all (fun p => decide (lkS ss p.1 = some NOMK) && decide (lkS ss p.2 = some NOMK)) = true) ⟨_, _, rfl, rfl⟩ ?_ ?_
    · rintro i p S hp ⟨v2, v3, rfl, ha⟩
      walk_at "d"
      rw [look_dkS, lkS_get hn hp]
      walk_at "d"
      have bad : (decide (lkS ss p.1 = some NOMK) && decide (lkS ss p.2 = some NOMK)) = false → Qd (.bl false) e.W := fun z => by
        have : (us.all fun p => decide (lkS ss p.1 = some NOMK) && decide (lkS ss p.2 = some NOMK)) = false := by
          rw [← Bool.not_eq_true, List.all_eq_true]
          exact fun h => by rw [h p (List.mem_of_getElem? hp)] at z; cases z
        rw [soundO, this] at k
        exact k
      refine for_map (fun x : Str => D.str x) [p.1, p.2] (fun j S => ∃ v3, S = ⟨[some (.val (.dct (dkS ss))), some (.val (.dct (dkS us))), some (.val (.str p.1)), v3], e.W⟩ ∧ ∀ x ∈ [p.1, p.2].take j, lkS ss x = some NOMK) ⟨_, rfl, by simp⟩ ?_ ?_
      · rintro j x S hx ⟨v3, rfl, hj⟩
        have hxm := List.mem_of_getElem? hx
        have badx : lkS ss x ≠ some NOMK → Qd (.bl false) e.W := fun z => by
          refine bad ?_
          simp only [List.mem_cons, List.not_mem_nil, or_false] at hxm
          rcases hxm with rfl | rfl
          · rw [decide_eq_false z, Bool.false_and]
          · rw [decide_eq_false z, Bool.and_false]
        walk_at "d"
        rw [look_dkS]
        cases hxx : lkS ss x with
        | none =>
          walk_at "d"
          exact badx (by rw [hxx]; simp)
        | some y =>
          walk_at "d"
          rw [look_dkS, hxx]
          walk_at "d"
          refine iteB_by (fun c => ?_) (fun c => ?_)
          · walk_at "d"
            exact badx (by rw [hxx]; exact fun z => c (Option.some.inj z))
          · walk_at "d"
            refine ⟨_, rfl, fun z hz => ?_⟩
            rw [take_succ_get hx] at hz
            rcases List.mem_append.mp hz with hz | hz
            · exact hj z hz
            · rw [List.mem_singleton.mp hz, hxx]
              exact congrArg some (Classical.not_not.mp c)
      · rintro S ⟨v3, rfl, hj⟩
        refine ⟨_, _, rfl, ?_⟩
        have h1 := hj p.1 (by simp)
        have h2 := hj p.2 (by simp)
        rw [take_succ_get hp, List.all_append, ha, List.all_cons, List.all_nil, h1, h2]
        simp
    · rintro S ⟨v2, v3, rfl, ha⟩
      rw [List.take_length] at ha
      walk_at "d"
      refine ⟨us, rfl, hu, ?_⟩
      rw [soundO, ha] at k
      walk_at "d"
      exact k
abbrev s_Stock___init__ : Stmt := inClass (top 13) 0
abbrev N_Stock___init__ : List Str := ["self", "shapes", "under"]
abbrev P_Stock___init__ : List Str := ["self", "shapes", "under"]
theorem sc_Stock___init__ : FnScope N_Stock___init__ P_Stock___init__ (defScope s_Stock___init__) := ⟨rfl, rfl, rfl, by decide +kernel, rfl, by decide +kernel, by decide +kernel⟩
def stkC (ss us : List (Str × Str)) : List (Str × D) := [("shapes", .dct (dkS ss)), ("above", .dct (dkS us))]
def soundB (ss us : List (Str × Str)) : Bool := soundS ss && soundO ss us
def F_mkStock (C B : Addr) : FSpec := fun ds W Q E => ∃ (a : Addr) (W0 : Wd) (x y : D) (ss us : List (Str × Str)), ds = [.ref a, x, y] ∧ W = W0.put a (.ins C []) ∧ W0.ω a = none ∧ vD W0 x = some (.dct (dkS ss)) ∧ ((y = .non ∧ us = []) ∨ vD W0 y = some (.dct (dkS us))) ∧ (ss.map (·.1)).Nodup ∧ (us.map (·.1)).Nodup ∧ ss.length ≤ 1000 ∧ us.length ≤ 1000 ∧ (∀ p ∈ ss, p.1.length ≤ 1000 ∧ p.2.length ≤ 1000) ∧
  (soundB ss us = true → Q .non (W0.put a (.ins C (stkC ss us)))) ∧ (soundB ss us = false → E ⟨B, []⟩ (W0.put a (.ins C (stkC ss us))))
theorem body_mkStock (T : Txt K mg) (G_sound_shapes : Fx P w K mg base (L2.CX P w) "sound_shapes" 2 P_sound_shapes (lift K F_soundS)) (G_sound_order : Fx P w K mg base (L2.CX P w) "sound_order" 2 P_sound_order (lift K F_soundO)) : BodyD P w K mg base N_Stock___init__ "Stock.__init__" s_Stock___init__ 3 (F_mkStock (clsA mg "Stock") (clsA mg "BadKind")) := by
  intro f cdv A outer s H E e ds Qd Ed hr lk h
  obtain ⟨a, W0, x, y, ss, us, rfl, hW, ha, hx, hy, hn, hm, hl, hk, hs, kq, ke⟩ := h
  refine ⟨_, _, (pss_cons (setX T.f_Stock_shapes (pv 0) (pe_callTy (call_dictU K rfl) (by rfl) T.b_dict (by decide +kernel) (pa_cons (pv 1) pa_nil)))
      (pss_cons (setX T.f_Stock_above (pv 0) pe_dnewK)
      (pss_cons (ps_if (pt_cmpR op_notNU (pv 2) pe_non (nomark _)) (pss_one (setX T.f_Stock_above (pv 0) (pe_callTy (call_dictU K rfl) (by rfl) T.b_dict (by decide +kernel) (pa_cons (pv 2) pa_nil)))) pss_nil)
      (pss_one (ps_if (PW.pt (pw_or (pt_not (pt_val (fcallX (takes_of rfl rfl rfl rfl) G_sound_shapes (hr.mono (by first | decide | omega)) (by rfl) (pa_cons (fldX T.f_Stock_shapes (pv 0)) pa_nil)))) (pw_or1 (pt_not (pt_val (fcallX (takes_of rfl rfl rfl rfl) G_sound_order (hr.mono (by first | decide | omega)) (by rfl) (pa_cons (fldX T.f_Stock_shapes (pv 0)) (pa_cons (fldX T.f_Stock_above (pv 0)) pa_nil)))))))) (pss_one (ps_raiseU rfl (takes_of rfl rfl rfl rfl) (pmk_own PySem.F.excBase_ValueError T.e_BadKind.ex T.e_BadKind.g T.e_BadKind.k (raises_own T.e_BadKind.b T.e_BadKind.t) rfl))) pss_nil))))), inferInstance, ?_⟩
  rw [hW]
  walk_at "d"
  refine dd1B_at ((vD_put (vD_nref ha hx)).trans hx) ?_
  walk_at "d"
  have fin : soundB ss us = (soundS ss && soundO ss us) := rfl
  rcases hy with ⟨rfl, rfl⟩ | hy
  · walk_at "d"
    refine ⟨by omega, by omega, ss, rfl, hn, hl, hs, ?_⟩
    cases h1 : soundS ss with
    | false =>
      walk_at "d"
      exact ke (by rw [fin, h1]; rfl)
    | true =>
      walk_at "d"
      refine ⟨ss, [], rfl, hm, hk, hl, ?_⟩
      cases h2 : soundO ss [] with
      | false =>
        walk_at "d"
        exact ke (by rw [fin, h1, h2]; rfl)
      | true =>
        walk_at "d"
        exact kq (by rw [fin, h1, h2]; rfl)
  · refine ⟨by omega, by omega, iteB_T (by cases y <;> first | rfl | (cases hy)) ?_⟩
    walk_at "d"
    refine dd1B_at ((vD_put (vD_nref ha hy)).trans hy) ?_
    walk_at "d"
    refine ⟨by omega, ss, rfl, hn, hl, hs, ?_⟩
    cases h1 : soundS ss with
    | false =>
      walk_at "d"
      exact ke (by rw [fin, h1]; rfl)
    | true =>
      walk_at "d"
      refine ⟨ss, us, rfl, hm, hk, hl, ?_⟩
      cases h2 : soundO ss us with
      | false =>
        walk_at "d"
        exact ke (by rw [fin, h1, h2]; rfl)
      | true =>
        walk_at "d"
        exact kq (by rw [fin, h1, h2]; rfl)
theorem ok_mkStock2 (Z : Kz K (clsA mg "Stock") "Stock.__init__" s_Stock___init__ P_Stock___init__ []) (T : Txt K mg) (G1 : Fx P w K mg base (L2.CX P w) "sound_shapes" 2 P_sound_shapes (lift K F_soundS)) (G2 : Fx P w K mg base (L2.CX P w) "sound_order" 2 P_sound_order (lift K F_soundO)) : Kx P w K mg base (clsA mg "Stock") 4 P_Stock___init__ [] (lift K (F_mkStock (clsA mg "Stock") (clsA mg "BadKind"))) :=
  Z.okD sc_Stock___init__ (fun ds W Q E h => by obtain ⟨a, W0, x, y, ss, us, rfl, _⟩ := h; rfl) (body_mkStock T G1 G2)
abbrev s_rows_of_kinds : Stmt := top 14
abbrev N_rows_of_kinds : List Str := ["stock", "many", "size", "first_size", "rest_size", "fewer", "first", "rest"]
abbrev P_rows_of_kinds : List Str := ["stock", "many", "size"]
theorem sc_rows_of_kinds : GScope N_rows_of_kinds P_rows_of_kinds (defScope s_rows_of_kinds) := ⟨rfl, rfl, rfl, by decide +kernel, rfl, by decide +kernel, by decide +kernel⟩
theorem noC_rows_of_kinds : ∀ y ∈ (defScope s_rows_of_kinds).names, y.2 ≠ .cell := by decide +kernel
abbrev s_kinds_of_size : Stmt := top 15
abbrev N_kinds_of_size : List Str := ["stock", "size", "left", "word", "many", "parts"]
abbrev P_kinds_of_size : List Str := ["stock", "size"]
theorem sc_kinds_of_size : GScope N_kinds_of_size P_kinds_of_size (defScope s_kinds_of_size) := ⟨rfl, rfl, rfl, by decide +kernel, rfl, by decide +kernel, by decide +kernel⟩
theorem noC_kinds_of_size : ∀ y ∈ (defScope s_kinds_of_size).names, y.2 ≠ .cell := by decide +kernel
def rowsOfK (kd : Nat → List D) : Nat → Nat → List (List D)
  | 0, n => if n = 0 then [[]] else []
  | m + 1, n => (List.range n).flatMap fun i => (kd (i + 1)).flatMap fun f => (rowsOfK kd m (n - (i + 1))).map (f :: ·)
theorem flatMap_eq {α β : Type} {f g : α → List β} {l : List α} (h : ∀ x ∈ l, f x = g x) : l.flatMap f = l.flatMap g := by
  induction l with
  | nil => rfl
  | cons x l ih => rw [List.flatMap_cons, List.flatMap_cons, h x List.mem_cons_self, ih fun y hy => h y (List.mem_cons_of_mem _ hy)]
theorem flat_one {α β : Type} (f : α → β) (l : List α) : (l.flatMap fun x => [f x]) = l.map f := by
  induction l with
  | nil => rfl
  | cons x l ih => rw [List.flatMap_cons, ih]; rfl
theorem rowsOfK_len {kd : Nat → List D} : ∀ {m n : Nat} {r : List D}, r ∈ rowsOfK kd m n → r.length = m
  | 0, n, r, h => by
    rw [rowsOfK] at h
    split at h
    · rw [List.mem_singleton.mp h]; rfl
    · cases h
  | m + 1, n, r, h => by
    rw [rowsOfK] at h
    obtain ⟨i, _, h⟩ := List.mem_flatMap.mp h
    obtain ⟨f, _, h⟩ := List.mem_flatMap.mp h
    obtain ⟨q, hq, rfl⟩ := List.mem_map.mp h
    rw [List.length_cons, rowsOfK_len hq]
def kindsK (ss : List (Str × Str)) : Nat → Nat → List D
  | 0, _ => []
  | N + 1, n => if n = 0 then [] else ss.flatMap fun p => (rowsOfK (kindsK ss N) p.2.length (n - 1)).map fun r => .tup (.str p.1 :: r)
theorem allVal_tl {v : Option PC} {ρ : List (Option PC)} (h : allVal (v :: ρ) = true) : allVal ρ = true := by
  cases v with
  | none => exact h
  | some c => cases c with
    | val d => exact h
    | ownL ds => cases h
    | ownD ds => cases h
def G_kinds (C : Addr) (N : Nat) : GSpec := fun ds outs => ∃ (ss us : List (Str × Str)) (n : Nat), ds = [.obj C (stkC ss us), .int n] ∧ n ≤ N ∧ n ≤ 1000 ∧ (ss.map (·.1)).Nodup ∧ (∀ p ∈ ss, p.2.length ≤ 3) ∧ outs = kindsK ss N n
def G_rows (C : Addr) (N M : Nat) : GSpec := fun ds outs => ∃ (ss us : List (Str × Str)) (m n : Nat), ds = [.obj C (stkC ss us), .int m, .int n] ∧ m ≤ M ∧ m ≤ 3 ∧ n ≤ N ∧ n ≤ 1000 ∧ (ss.map (·.1)).Nodup ∧ (∀ p ∈ ss, p.2.length ≤ 3) ∧ outs = (rowsOfK (kindsK ss N) m n).map .tup
theorem ok_kinds {k : Nat} {Fr : GSpec} (F : Fz K mg "kinds_of_size" s_kinds_of_size P_kinds_of_size) (T : Txt K mg) (G : Gx P w K mg base "rows_of_kinds" k P_rows_of_kinds Fr) (N : Nat) (hF : ∀ M, N = M + 1 → Fr = G_rows (clsA mg "Stock") M 3) : Gx P w K mg base "kinds_of_size" (k + 2) P_kinds_of_size (G_kinds (clsA mg "Stock") N) := by
  refine Fz.okG F sc_kinds_of_size noC_kinds_of_size fun Fm O hP hw hK hmg hbase hN hsc hq hr ds outs h hl => ?_
  obtain ⟨P', w', K', mg', base', N', qual, scope, f, cd, A, outer, L, g⟩ := Fm
  obtain rfl : P' = P := hP
  obtain rfl : w' = w := hw
  obtain rfl : K' = K := hK
  obtain rfl : mg' = mg := hmg
  obtain rfl : base' = base := hbase
  obtain rfl : N' = N_kinds_of_size := hN
  obtain rfl : scope = defScope s_kinds_of_size := hsc
  obtain rfl : qual = "kinds_of_size" := hq
  obtain ⟨ss, us, n, rfl, hn, hn2, nd, sm, rfl⟩ := h
  refine ⟨_, gss_cons (gst_plain fun s0 H0 e => ⟨_, ps_set (i := 2) sc_kinds_of_size.nd rfl (Or.inl rfl) (pe_op op_subU (pv 1) pe_int), inferInstance⟩) (gss_one
    (gst_for O (fun s0 H0 e => ⟨_, pi_any K' (fldX T.f_Stock_shapes (pv 0)), inferInstance⟩) (fun s0 H0 e => ⟨_, pg_name (i := 3) sc_kinds_of_size.nd rfl (Or.inl rfl), inferInstance⟩) (gss_cons
      (gst_plain fun s0 H0 e => ⟨_, ps_set (i := 4) sc_kinds_of_size.nd rfl (Or.inl rfl) (pe_callB (call_lenU K') (by rfl) T.b_len PySem.boot_len (pa_cons (pe_ix (ix_U K' (hu_of hr)) (fldX T.f_Stock_shapes (pv 0)) (pv 3) (fun _ _ => rfl)) pa_nil)), inferInstance⟩) (gss_one
      (gst_if (fun s0 H0 e => ⟨_, pt_cmpR op_geU (pv 2) pe_int (nomark _), inferInstance⟩) (gss_one
        (gst_forG O G hr (fun _ _ => rfl) (fun s0 H0 e => ⟨_, pa_cons (pv 0) (pa_cons (pv 4) (pa_cons (pv 2) pa_nil)), inferInstance⟩) (fun s0 H0 e => ⟨_, pg_name (i := 5) sc_kinds_of_size.nd rfl (Or.inl rfl), inferInstance⟩) (gss_one
          (gst_yield O (fun s0 H0 e => ⟨_, pe_op (op_addU K') (pe_tup (pa_cons (pv 3) pa_nil)) (pv 5), inferInstance⟩) rfl)))) gss_nil))))), ?_⟩
  walk_at "d"
  intro _ _
  rw [show look (stkC ss us) "shapes" = some (.dct (dkS ss)) from rfl]
  walk_at "d"
  rw [keys_dkS]
  refine forG_flat (fun p : Str × Str => D.str p.1) (fun p => if n = 0 then [] else (rowsOfK (kindsK ss (N - 1)) p.2.length (n - 1)).map fun r => .tup (.str p.1 :: r)) [] (fun ρ => ∃ v3 v4 v5, ρ = [some (.val (.obj (clsA mg' "Stock") (stkC ss us))), some (.val (.int n)), some (.val (.int ((n : Int) - 1))), v3, v4, v5] ∧ allVal ρ = true) ss ?_ ⟨_, _, _, rfl, rfl⟩ (fun p hp tl ρ hJ W => ?_) (fun ρ _ => rfl)
  · rw [List.append_nil]
    cases N with
    | zero =>
      have : n = 0 := by omega
      subst this
      simp [kindsK]
    | succ N =>
      rw [kindsK]
      by_cases h0 : n = 0
      · subst h0
        simp
      · rw [if_neg h0]
        simp only [if_neg h0]
        rfl
  · obtain ⟨v3, v4, v5, rfl, av⟩ := hJ
    walk_at "d"
    intro _
    rw [show look (stkC ss us) "shapes" = some (.dct (dkS ss)) from rfl]
    walk_at "d"
    rw [look_dkS, lkS_mem nd hp]
    walk_at "d"
    have s3 := sm p hp
    refine ⟨by omega, fun _ => ?_⟩
    refine iteB_by (fun c => ?_) (fun c => ?_)
    · have h0 : n ≠ 0 := by omega
      cases N with
      | zero => omega
      | succ N =>
        walk_at "d"
        rw [hF N rfl]
        rw [if_neg h0]
        have av5 : allVal [v5] = true := allVal_tl (allVal_tl (show allVal [v3, v4, v5] = true from av))
        refine fun _ => ⟨_, ⟨ss, us, p.2.length, n - 1, by rw [show ((n - 1 : Nat) : Int) = (n : Int) - 1 by omega], by omega, by omega, by omega, by omega, nd, sm, rfl⟩, ?_⟩
        refine forG_flat (fun r : List D => D.tup r) (fun r => [.tup (.str p.1 :: r)]) tl (fun ρ => ∃ v5, ρ = [some (.val (.obj (clsA mg' "Stock") (stkC ss us))), some (.val (.int n)), some (.val (.int ((n : Int) - 1))), some (.val (.str p.1)), some (.val (.int p.2.length)), v5] ∧ allVal ρ = true) _ ?_ ⟨_, rfl, ?_⟩ (fun r hr tl ρ hJ W => ?_) (fun ρ hJ => ?_)
        · rw [flat_one]
          rfl
        · exact av5
        · obtain ⟨v5, rfl, av⟩ := hJ
          walk_at "d"
          have hl := rowsOfK_len hr
          exact fun _ => ⟨by omega, rfl, _, rfl, rfl, _, rfl, rfl⟩
        · obtain ⟨v5, rfl, av⟩ := hJ
          walk_at "d"
          exact ⟨_, _, _, rfl, av⟩
    · have h0 : n = 0 := by omega
      walk_at "d"
      rw [if_pos h0]
      have av5 : allVal [v5] = true := allVal_tl (allVal_tl (show allVal [v3, v4, v5] = true from av))
      exact ⟨rfl, _, _, _, rfl, av5⟩
theorem Fz.noneG {x : Str} {st : Stmt} {ps N : List Str} {k : Nat} (F : Fz K mg x st ps) (S : GScope N ps (defScope st)) (noC : ∀ y ∈ (defScope st).names, y.2 ≠ .cell) : Gx P w K mg base x (k + 1) ps (fun _ _ => False) := Fz.okG F S noC fun _ _ _ _ _ _ _ _ _ _ _ _ _ h => h.elim
theorem ok_rows {k : Nat} {Fk Fr : GSpec} (F : Fz K mg "rows_of_kinds" s_rows_of_kinds P_rows_of_kinds) (T : Txt K mg) (Gk : Gx P w K mg base "kinds_of_size" k P_kinds_of_size Fk) (Gr : Gx P w K mg base "rows_of_kinds" (k + 2) P_rows_of_kinds Fr) (N M : Nat) (hK : ∀ m, M = m + 1 → Fk = G_kinds (clsA mg "Stock") N) (hR : ∀ m, M = m + 1 → Fr = G_rows (clsA mg "Stock") N m) : Gx P w K mg base "rows_of_kinds" (k + 4) P_rows_of_kinds (G_rows (clsA mg "Stock") N M) := by
  refine Fz.okG F sc_rows_of_kinds noC_rows_of_kinds fun Fm O hP hw hK' hmg hbase hN hsc hq hr ds outs h hl => ?_
  obtain ⟨P', w', K', mg', base', N', qual, scope, f, cd, A, outer, L, g⟩ := Fm
  obtain rfl : P' = P := hP
  obtain rfl : w' = w := hw
  obtain rfl : K' = K := hK'
  obtain rfl : mg' = mg := hmg
  obtain rfl : base' = base := hbase
  obtain rfl : N' = N_rows_of_kinds := hN
  obtain rfl : scope = defScope s_rows_of_kinds := hsc
  obtain rfl : qual = "rows_of_kinds" := hq
  obtain ⟨ss, us, m, n, rfl, hm, hm3, hn, hn2, nd, sm, rfl⟩ := h
  refine ⟨_, gss_one (gst_if (fun s0 H0 e => ⟨_, pt_cmpR (op_eqU K' hr.units) (pv 1) pe_int (nomark _), inferInstance⟩)
    (gss_one (gst_if (fun s0 H0 e => ⟨_, pt_cmpR (op_eqU K' hr.units) (pv 2) pe_int (nomark _), inferInstance⟩) (gss_one (gst_yield O (fun s0 H0 e => ⟨_, pe_tup pa_nil, inferInstance⟩) rfl)) gss_nil))
    (gss_one (gst_for O (fun s0 H0 e => ⟨_, pi_range2 (by rfl) T.b_range (pa_cons pe_int (pa_cons (pe_op (op_addU K') (pv 2) pe_int) pa_nil)), inferInstance⟩) (fun s0 H0 e => ⟨_, pg_name (i := 3) sc_rows_of_kinds.nd rfl (Or.inl rfl), inferInstance⟩) (gss_cons
      (gst_plain fun s0 H0 e => ⟨_, ps_set (i := 4) sc_rows_of_kinds.nd rfl (Or.inl rfl) (pe_op op_subU (pv 2) (pv 3)), inferInstance⟩) (gss_cons
      (gst_plain fun s0 H0 e => ⟨_, ps_set (i := 5) sc_rows_of_kinds.nd rfl (Or.inl rfl) (pe_op op_subU (pv 1) pe_int), inferInstance⟩) (gss_one
      (gst_forG O (Gk.mono (Nat.le_add_right k 2)) hr (fun _ _ => rfl) (fun s0 H0 e => ⟨_, pa_cons (pv 0) (pa_cons (pv 3) pa_nil), inferInstance⟩) (fun s0 H0 e => ⟨_, pg_name (i := 6) sc_rows_of_kinds.nd rfl (Or.inl rfl), inferInstance⟩) (gss_one
        (gst_forG O Gr hr (fun _ _ => rfl) (fun s0 H0 e => ⟨_, pa_cons (pv 0) (pa_cons (pv 5) (pa_cons (pv 4) pa_nil)), inferInstance⟩) (fun s0 H0 e => ⟨_, pg_name (i := 7) sc_rows_of_kinds.nd rfl (Or.inl rfl), inferInstance⟩) (gss_one
          (gst_yield O (fun s0 H0 e => ⟨_, pe_op (op_addU K') (pe_tup (pa_cons (pv 6) pa_nil)) (pv 7), inferInstance⟩) rfl))))))))))), ?_⟩
  walk_at "d"
  intro _
  refine iteB_by (fun c => ?_) (fun c => ?_)
  · have m0 : m = 0 := by omega
    subst m0
    walk_at "d"
    intro _
    refine iteB_by (fun c2 => ?_) (fun c2 => ?_)
    · have n0 : n = 0 := by omega
      subst n0
      walk_at "d"
      exact fun _ => ⟨rfl, _, rfl, rfl⟩
    · walk_at "d"
      rw [rowsOfK, if_neg (by omega)]
      rfl
  · obtain ⟨m, rfl⟩ : ∃ q, m = q + 1 := ⟨m - 1, by omega⟩
    obtain ⟨M, rfl⟩ : ∃ q, M = q + 1 := ⟨M - 1, by omega⟩
    rw [hK M rfl, hR M rfl]
    walk_at "d"
    refine fun _ => ⟨by omega, ?_⟩
    rw [show ((n : Int) + 1 - 1).toNat = n by omega]
    refine forG_flat (fun i : Nat => D.int (1 + (i : Int))) (fun i => (kindsK ss N (i + 1)).flatMap fun f => (rowsOfK (kindsK ss N) m (n - (i + 1))).map fun r => .tup (f :: r)) [] (fun ρ => ∃ v3 v4 v5 v6 v7, ρ = [some (.val (.obj (clsA mg' "Stock") (stkC ss us))), some (.val (.int ((m + 1 : Nat) : Int))), some (.val (.int n)), v3, v4, v5, v6, v7] ∧ allVal [v6, v7] = true) (List.range n) ?_ ⟨_, _, _, _, _, rfl, rfl⟩ (fun i hi tl ρ hJ W => ?_) (fun ρ _ => rfl)
    · rw [List.append_nil, rowsOfK, List.map_flatMap]
      refine flatMap_eq fun i _ => ?_
      rw [List.map_flatMap]
      refine flatMap_eq fun f _ => ?_
      rw [List.map_map]
      rfl
    · obtain ⟨v3, v4, v5, v6, v7, rfl, av⟩ := hJ
      have hi := List.mem_range.mp hi
      walk_at "d"
      intro _ _ _
      rw [show (1 + (i : Int)) = ((i + 1 : Nat) : Int) by omega, show ((m + 1 : Nat) : Int) - 1 = (m : Nat) by omega, show (n : Int) - ((i + 1 : Nat) : Int) = ((n - (i + 1) : Nat) : Int) by omega]
      refine ⟨_, ⟨ss, us, i + 1, rfl, by omega, by omega, nd, sm, rfl⟩, ?_⟩
      rw [show kindsK ss N (i + 1) = (kindsK ss N (i + 1)).map id from (List.map_id _).symm]
      refine forG_flat (fun f : D => f) (fun f => (rowsOfK (kindsK ss N) m (n - (i + 1))).map fun r => .tup (f :: r)) tl (fun ρ => ∃ v6 v7, ρ = [some (.val (.obj (clsA mg' "Stock") (stkC ss us))), some (.val (.int ((m + 1 : Nat) : Int))), some (.val (.int n)), some (.val (.int ((i + 1 : Nat) : Int))), some (.val (.int ((n - (i + 1) : Nat) : Int))), some (.val (.int (m : Nat))), v6, v7] ∧ allVal [v6, v7] = true) _ ?_ ⟨_, _, rfl, av⟩ (fun f hf tl ρ hJ W => ?_) (fun ρ hJ => ?_)
      · rw [List.map_id]
      · obtain ⟨v6, v7, rfl, av⟩ := hJ
        walk_at "d"
        refine fun _ => ⟨_, ⟨ss, us, m, n - (i + 1), rfl, by omega, by omega, by omega, by omega, nd, sm, rfl⟩, ?_⟩
        refine forG_flat (fun r : List D => D.tup r) (fun r => [.tup (f :: r)]) tl (fun ρ => ∃ v7, ρ = [some (.val (.obj (clsA mg' "Stock") (stkC ss us))), some (.val (.int ((m + 1 : Nat) : Int))), some (.val (.int n)), some (.val (.int ((i + 1 : Nat) : Int))), some (.val (.int ((n - (i + 1) : Nat) : Int))), some (.val (.int (m : Nat))), some (.val f), v7] ∧ allVal [v7] = true) _ ?_ ⟨_, rfl, allVal_tl av⟩ (fun r hr tl ρ hJ W => ?_) (fun ρ hJ => ?_)
        · rw [flat_one]
        · obtain ⟨v7, rfl, av⟩ := hJ
          walk_at "d"
          have hl := rowsOfK_len hr
          exact fun _ => ⟨by omega, rfl, _, rfl, rfl, _, rfl, rfl⟩
        · obtain ⟨v7, rfl, av⟩ := hJ
          walk_at "d"
          exact ⟨_, _, rfl, av⟩
      · obtain ⟨v6, v7, rfl, av⟩ := hJ
        walk_at "d"
        exact ⟨_, _, _, _, _, rfl, av⟩
theorem ok_gens (Fk : Fz K mg "kinds_of_size" s_kinds_of_size P_kinds_of_size) (Fr : Fz K mg "rows_of_kinds" s_rows_of_kinds P_rows_of_kinds) (T : Txt K mg) : ∀ N, Gx P w K mg base "kinds_of_size" (10 * N + 3) P_kinds_of_size (G_kinds (clsA mg "Stock") N) ∧ ∀ M, Gx P w K mg base "rows_of_kinds" (10 * N + 5 + 2 * M) P_rows_of_kinds (G_rows (clsA mg "Stock") N M) := by
  have nr : Gx P w K mg base "rows_of_kinds" 1 P_rows_of_kinds (fun _ _ => False) := Fz.noneG Fr sc_rows_of_kinds noC_rows_of_kinds
  have nk : Gx P w K mg base "kinds_of_size" 1 P_kinds_of_size (fun _ _ => False) := Fz.noneG Fk sc_kinds_of_size noC_kinds_of_size
  have step : ∀ N, Gx P w K mg base "kinds_of_size" (10 * N + 3) P_kinds_of_size (G_kinds (clsA mg "Stock") N) → ∀ M, Gx P w K mg base "rows_of_kinds" (10 * N + 5 + 2 * M) P_rows_of_kinds (G_rows (clsA mg "Stock") N M) := fun N hk M => by
    induction M with
    | zero => exact (ok_rows Fr T nk (nr.mono (by omega)) N 0 (fun m h => by omega) (fun m h => by omega)).mono (by omega)
    | succ M ih => exact (ok_rows Fr T (hk.mono (k := 10 * N + 3 + 2 * M) (by omega)) (ih.mono (by omega)) N (M + 1) (fun m h => by cases h; rfl) (fun m h => by cases h; rfl)).mono (by omega)
  intro N
  induction N with
  | zero =>
    have h := ok_kinds Fk T nr 0 (fun M h => by omega)
    exact ⟨h, step 0 h⟩
  | succ N ih =>
    have h := (ok_kinds Fk T (ih.2 3) (N + 1) (fun M h => by cases h; rfl)).mono (k := 10 * (N + 1) + 3) (by omega)
    exact ⟨h, step (N + 1) h⟩
abbrev s__law_count_rows : Stmt := top 22
abbrev N__law_count_rows : List Str := ["_law_shapes", "_law_many", "_law_size_here", "_law_total", "_law_first"]
abbrev P__law_count_rows : List Str := ["_law_shapes", "_law_many", "_law_size_here"]
theorem sc__law_count_rows : FnScope N__law_count_rows P__law_count_rows (defScope s__law_count_rows) := ⟨rfl, rfl, rfl, by decide +kernel, rfl, by decide +kernel, by decide +kernel⟩
abbrev s__law_count : Stmt := top 23
abbrev N__law_count : List Str := ["_law_shapes", "_law_size_here", "_law_word"]
abbrev P__law_count : List Str := ["_law_shapes", "_law_size_here"]
theorem sc__law_count : FnScope N__law_count P__law_count (defScope s__law_count) := ⟨rfl, rfl, rfl, by decide +kernel, rfl, by decide +kernel, by decide +kernel⟩
def cntR (c : Nat → Nat) : Nat → Nat → Nat
  | 0, n => if n = 0 then 1 else 0
  | m + 1, n => ((List.range n).map fun i => c (i + 1) * cntR c m (n - (i + 1))).sum
def cntK (ss : List (Str × Str)) : Nat → Nat → Nat
  | 0, _ => 0
  | N + 1, n => if n = 0 then 0 else (ss.map fun p => cntR (cntK ss N) p.2.length (n - 1)).sum
def Cn (ss : List (Str × Str)) : Prop := (ss.map (·.1)).Nodup ∧ (∀ p ∈ ss, p.2.length ≤ 3) ∧ ss.length ≤ 7
theorem int_sum {α : Type} (f : α → Nat) : ∀ l : List α, (l.map fun x => ((f x : Nat) : Int)).sum = (((l.map f).sum : Nat) : Int)
  | [] => rfl
  | x :: l => by
    rw [List.map_cons, List.map_cons, List.sum_cons, List.sum_cons, int_sum f l]
    omega
theorem sum_mono {α : Type} {f g : α → Nat} : ∀ {l : List α}, (∀ x ∈ l, f x ≤ g x) → (l.map f).sum ≤ (l.map g).sum
  | [], _ => Nat.le_refl _
  | x :: l, h => by
    rw [List.map_cons, List.map_cons, List.sum_cons, List.sum_cons]
    exact Nat.add_le_add (h x List.mem_cons_self) (sum_mono fun y hy => h y (List.mem_cons_of_mem _ hy))
theorem cntR_mono {c c' : Nat → Nat} : ∀ {m n : Nat}, (∀ j, j ≤ n → c j ≤ c' j) → cntR c m n ≤ cntR c' m n
  | 0, n, _ => Nat.le_refl _
  | m + 1, n, h => by
    rw [cntR, cntR]
    refine sum_mono fun i hi => Nat.mul_le_mul (h _ ?_) (cntR_mono fun j hj => h j (by omega))
    have := List.mem_range.mp hi
    omega
def cB : Nat → Nat := fun i => [0, 7, 49, 343, 4802].getD i 0
theorem cB_R : ∀ n < 4, ∀ m < 4, 7 * cntR cB m n ≤ cB (n + 1) := by decide +kernel
theorem cntK_le {ss : List (Str × Str)} (h : Cn ss) : ∀ (N n : Nat), n ≤ 4 → cntK ss N n ≤ cB n
  | 0, n, _ => Nat.zero_le _
  | N + 1, n, hn => by
    rw [cntK]
    by_cases h0 : n = 0
    · rw [if_pos h0]; exact Nat.zero_le _
    · rw [if_neg h0]
      obtain ⟨n, rfl⟩ : ∃ q, n = q + 1 := ⟨n - 1, by omega⟩
      have b : ∀ p ∈ ss, cntR (cntK ss N) p.2.length (n + 1 - 1) ≤ cB (n + 1) / 7 := fun p hp => by
        have h1 := cntR_mono (c := cntK ss N) (c' := cB) (m := p.2.length) (n := n) fun j hj => cntK_le h N j (by omega)
        have h2 := cB_R n (by omega) p.2.length (by have := h.2.1 p hp; omega)
        rw [Nat.add_sub_cancel]
        omega
      have h3 := sum_mono b
      have h4 : (ss.map fun _ => cB (n + 1) / 7).sum = ss.length * (cB (n + 1) / 7) := by
        rw [List.map_const', List.sum_replicate_nat]
      have h5 : ss.length * (cB (n + 1) / 7) ≤ 7 * (cB (n + 1) / 7) := Nat.mul_le_mul_right _ h.2.2
      have h6 := Nat.mul_div_le (cB (n + 1)) 7
      omega
theorem cB_le : ∀ n < 5, cB n ≤ 4802 := by decide
def F_cntR (N M : Nat) : FSpec := fun ds W Q _ => ∃ (ss : List (Str × Str)) (m n : Nat), ds = [.dct (dkS ss), .int m, .int n] ∧ m ≤ M ∧ n ≤ N ∧ n ≤ 4 ∧ Cn ss ∧ Q (.int (cntR (cntK ss N) m n : Nat)) W
def F_cnt (N : Nat) : FSpec := fun ds W Q _ => ∃ (ss : List (Str × Str)) (n : Nat), ds = [.dct (dkS ss), .int n] ∧ n ≤ N ∧ n ≤ 4 ∧ Cn ss ∧ Q (.int (cntK ss N n : Nat)) W
theorem ok_cntR {k : Nat} {Fk Fr : FSpec} (F : Fz K mg "_law_count_rows" s__law_count_rows P__law_count_rows) (T : Txt K mg) (G__law_count : Fx P w K mg base (L2.CX P w) "_law_count" k P__law_count (lift K Fk)) (G__law_count_rows : Fx P w K mg base (L2.CX P w) "_law_count_rows" k P__law_count_rows (lift K Fr)) (N M : Nat) (hK : ∀ m, M = m + 1 → Fk = F_cnt N) (hR : ∀ m, M = m + 1 → Fr = F_cntR N m) : Fx P w K mg base (L2.CX P w) "_law_count_rows" (k + 1) P__law_count_rows (lift K (F_cntR N M)) := by
  refine F.okD sc__law_count_rows (fun ds W Q E h => ?_) (fun f cdv A outer s H E e ds Qd Ed hr lk h => ?_)
  · obtain ⟨ss, m, n, rfl, _⟩ := h
    rfl
  · obtain ⟨ss, m, n, rfl, hm, hn, hn2, cn, q⟩ := h
    refine ⟨_, _, (pss_cons (ps_if (pt_cmpR (op_eqU K hr.units) (pv 1) pe_int (nomark _)) (pss_one (ps_ret (pe_callTy call_intU (by rfl) T.b_int (by decide +kernel) (pa_cons (pe_cmpR (op_eqU K hr.units) (pv 2) pe_int (nomark _)) pa_nil)))) pss_nil)
      (pss_cons (ps_set (i := 3) sc__law_count_rows.nd rfl (Or.inl rfl) pe_int)
      (pss_cons (ps_for (passes_of rfl) rfl (pi_range2 (by rfl) T.b_range (pa_cons pe_int (pa_cons (pe_op (op_addU K) (pv 2) pe_int) pa_nil))) (pg_name (i := 4) sc__law_count_rows.nd rfl (Or.inl rfl)) (pss_one (ps_set (i := 3) sc__law_count_rows.nd rfl (Or.inl rfl) (pe_op (op_addU K) (pv 3) (pe_op op_mulU (fcallX (takes_of rfl rfl rfl rfl) G__law_count (hr.mono (by first | decide | omega)) (by rfl) (pa_cons (pv 0) (pa_cons (pv 4) pa_nil))) (fcallX (takes_of rfl rfl rfl rfl) G__law_count_rows (hr.mono (by first | decide | omega)) (by rfl) (pa_cons (pv 0) (pa_cons (pe_op op_subU (pv 1) pe_int) (pa_cons (pe_op op_subU (pv 2) (pv 4)) pa_nil)))))))))
      (pss_one (ps_ret (pv 3)))))), inferInstance, ?_⟩
    walk_at "d"
    refine iteB_by (fun c => ?_) (fun c => ?_)
    · have m0 : m = 0 := by omega
      subst m0
      walk_at "d"
      rw [show (cntR (cntK ss N) 0 n : Nat) = if n = 0 then 1 else 0 from rfl] at q
      by_cases h0 : n = 0
      · rw [if_pos h0] at q
        rw [if_pos (by omega)]
        exact q
      · rw [if_neg h0] at q
        rw [if_neg (by omega)]
        exact q
    · obtain ⟨m, rfl⟩ : ∃ q, m = q + 1 := ⟨m - 1, by omega⟩
      obtain ⟨M, rfl⟩ : ∃ q, M = q + 1 := ⟨M - 1, by omega⟩
      rw [hK M rfl, hR M rfl]
      walk_at "d"
      refine ⟨by omega, ?_⟩
      rw [show ((n : Int) + 1 - 1).toNat = n by omega]
      refine for_rng (fun j S => ∃ v, S = ⟨[some (.val (.dct (dkS ss))), some (.val (.int ((m + 1 : Nat) : Int))), some (.val (.int n)), some (.val (.int ((((List.range j).map fun i => cntK ss N (i + 1) * cntR (cntK ss N) m (n - (i + 1))).sum : Nat) : Int))), v], e.W⟩) ⟨_, rfl⟩ (fun j S hj hS => ?_) (fun S hS => ?_)
      · obtain ⟨v, rfl⟩ := hS
        walk_at "d"
        rw [show (1 + (j : Int)) = ((j + 1 : Nat) : Int) by omega]
        refine ⟨ss, j + 1, rfl, by omega, by omega, cn, ?_⟩
        walk_at "d"
        rw [show ((m + 1 : Nat) : Int) - 1 = (m : Nat) by omega, show (n : Int) - ((j + 1 : Nat) : Int) = ((n - (j + 1) : Nat) : Int) by omega]
        refine ⟨ss, m, n - (j + 1), rfl, by omega, by omega, by omega, cn, ?_⟩
        walk_at "d"
        have b1 := cntK_le cn N (j + 1) (by omega)
        have b2 := cB_le (j + 1) (by omega)
        refine ⟨.inl ⟨by omega, by omega⟩, some (.val (.int ((j + 1 : Nat) : Int))), ?_⟩
        rw [List.range_succ, List.map_append, List.sum_append]
        simp
      · obtain ⟨v, rfl⟩ := hS
        walk_at "d"
        exact q
theorem ok_cnt {k : Nat} {Fr : FSpec} (F : Fz K mg "_law_count" s__law_count P__law_count) (T : Txt K mg) (G__law_count_rows : Fx P w K mg base (L2.CX P w) "_law_count_rows" k P__law_count_rows (lift K Fr)) (N : Nat) (hR : ∀ M, N = M + 1 → Fr = F_cntR M 3) : Fx P w K mg base (L2.CX P w) "_law_count" (k + 1) P__law_count (lift K (F_cnt N)) := by
  refine F.okD sc__law_count (fun ds W Q E h => ?_) (fun f cdv A outer s H E e ds Qd Ed hr lk h => ?_)
  · obtain ⟨ss, n, rfl, _⟩ := h
    rfl
  · obtain ⟨ss, n, rfl, hn, hn2, ⟨nd, sm, l7⟩, q⟩ := h
    refine ⟨_, _, (pss_cons (ps_if (pt_cmpR (op_eqU K hr.units) (pv 1) pe_int (nomark _)) (pss_one (ps_ret pe_int)) pss_nil)
      (pss_one (ps_ret (pe_callB (cr_sumK K rfl) (by rfl) T.b_sum (by decide +kernel) (pa_cons (pe_lc (own := [("_law_word", 2)]) (g := (gName 2)) (tt := tYes) rfl sc__law_count.nd (pi_any K (pv 0)) (blkOk_by (own := [("_law_word", 2)]) (N := N__law_count) (sc := defScope s__law_count) (by decide +kernel)) (fun _ _ _ _ _ => (pg_name (i := 2) sc__law_count.nd rfl (by first | exact Or.inl rfl | exact Or.inr rfl))) (fun _ _ _ _ _ => pts_nil) (fun _ _ _ _ _ => (fcallX takes0 G__law_count_rows (hr.mono (by first | decide | omega)) (by rfl) (pa_cons (pv 0) (pa_cons (pe_callB (call_lenU K) (by rfl) T.b_len PySem.boot_len (pa_cons (pe_ix (ix_U K (hu_of hr)) (pv 0) (pv 2) (fun _ _ => rfl)) pa_nil)) (pa_cons (pe_op op_subU (pv 1) pe_int) pa_nil)))))) pa_nil))))), inferInstance, ?_⟩
    walk_at "d"
    refine iteB_by (fun c => ?_) (fun c => ?_)
    · walk_at "d"
      have n0 : n = 0 := by omega
      subst n0
      cases N with
      | zero => exact q
      | succ N => exact q
    · obtain ⟨N, rfl⟩ : ∃ q, N = q + 1 := ⟨N - 1, by omega⟩
      rw [hR N rfl]
      walk_at "d"
      rw [keys_dkS]
      refine comp_map (fun p : Str × Str => D.str p.1) (fun p => D.int (cntR (cntK ss N) p.2.length (n - 1) : Nat)) ss (by simp; omega) (fun p hp Nn M hN => ?_) ?_
      · walk_at "d"
        rw [look_dkS, lkS_mem nd hp]
        walk_at "d"
        have s3 := sm p hp
        refine ⟨by omega, ?_⟩
        rw [show (n : Int) - 1 = ((n - 1 : Nat) : Int) by omega]
        refine ⟨ss, p.2.length, n - 1, rfl, s3, by omega, by omega, ⟨nd, sm, l7⟩, ?_⟩
        walk_at "d"
        exact hN
      · walk_at "d"
        rw [nts_mapF]
        walk_at "d"
        rw [int_sum]
        rw [cntK, if_neg (by omega)] at q
        exact q
theorem ok_cnts (Fk : Fz K mg "_law_count" s__law_count P__law_count) (Fr : Fz K mg "_law_count_rows" s__law_count_rows P__law_count_rows) (T : Txt K mg) : ∀ N, Fx P w K mg base (L2.CX P w) "_law_count" (5 * N + 1) P__law_count (lift K (F_cnt N)) ∧ ∀ M, Fx P w K mg base (L2.CX P w) "_law_count_rows" (5 * N + 2 + M) P__law_count_rows (lift K (F_cntR N M)) := by
  have nr : ∀ k, Fx P w K mg base (L2.CX P w) "_law_count_rows" k P__law_count_rows (lift K (fun _ _ _ _ => False)) := fun k => Fr.noneD fun _ _ _ _ h => h
  have nk : ∀ k, Fx P w K mg base (L2.CX P w) "_law_count" k P__law_count (lift K (fun _ _ _ _ => False)) := fun k => Fk.noneD fun _ _ _ _ h => h
  have step : ∀ N, Fx P w K mg base (L2.CX P w) "_law_count" (5 * N + 1) P__law_count (lift K (F_cnt N)) → ∀ M, Fx P w K mg base (L2.CX P w) "_law_count_rows" (5 * N + 2 + M) P__law_count_rows (lift K (F_cntR N M)) := fun N hk M => by
    induction M with
    | zero => exact (ok_cntR Fr T (nk 0) (nr 0) N 0 (fun m h => by omega) (fun m h => by omega)).mono (by omega)
    | succ M ih => exact ok_cntR Fr T (hk.mono (by omega)) ih N (M + 1) (fun m h => by cases h; rfl) (fun m h => by cases h; rfl)
  intro N
  induction N with
  | zero =>
    have h := ok_cnt Fk T (nr 0) 0 (fun M h => by omega)
    exact ⟨h, step 0 h⟩
  | succ N ih =>
    have h := ok_cnt Fk T (ih.2 3) (N + 1) (fun M h => by cases h; rfl)
    exact ⟨h, step (N + 1) h⟩
abbrev s__law_size : Stmt := top 24
abbrev N__law_size : List Str := ["_law_shapes", "_law_kind", "_law_part"]
abbrev P__law_size : List Str := ["_law_shapes", "_law_kind"]
theorem sc__law_size : FnScope N__law_size P__law_size (defScope s__law_size) := ⟨rfl, rfl, rfl, by decide +kernel, rfl, by decide +kernel, by decide +kernel⟩
def KO (ss : List (Str × Str)) : Nat → D → Nat → Prop
  | 0, _, _ => False
  | n + 1, d, s => ∃ (w m : Str) (xs : List (D × Nat)), d = .tup (.str w :: xs.map (·.1)) ∧ (w, m) ∈ ss ∧ xs.length = m.length ∧ s = 1 + (xs.map (·.2)).sum ∧ ∀ x ∈ xs, KO ss n x.1 x.2
def F_size (n : Nat) : FSpec := fun ds W Q _ => ∃ (ss : List (Str × Str)) (d : D) (s : Nat), ds = [.dct (dkS ss), d] ∧ Cn ss ∧ KO ss n d s ∧ Q (.int (s : Nat)) W
theorem ok_size (F : Fz K mg "_law_size" s__law_size P__law_size) (T : Txt K mg) : ∀ n, Fx P w K mg base (L2.CX P w) "_law_size" (n + 1) P__law_size (lift K (F_size n))
  | 0 => F.noneD fun ds W Q E ⟨_, _, _, _, _, z, _⟩ => z
  | n + 1 => by
    have G__law_size := ok_size F T n
    refine F.okD sc__law_size (fun ds W Q E h => ?_) (fun f cdv A outer s H E e ds Qd Ed hr lk h => ?_)
    · obtain ⟨ss, d, s, rfl, _⟩ := h
      rfl
    · obtain ⟨ss, d, sz, rfl, cn, ⟨w0, m, xs, rfl, hm, hl, rfl, hx⟩, q⟩ := h
      have lk0 : lkS ss w0 = some m := lkS_mem cn.1 hm
      have s3 := cn.2.1 _ hm
      refine ⟨_, _, (pss_cons (ps_if (PW.pt (pw_or (pt_not (pt_val (pe_callB (call_isi1K K) (by rfl) T.b_isinstance (by decide +kernel) (pa_cons (pv 1) (pa_cons (pe_bltn (v := .ty "tuple") (by rfl) T.b_tuple (by decide +kernel) rfl) pa_nil))))) (pw_or (pt_cmpR (op_eqU K hr.units) (pe_callB (call_lenU K) (by rfl) T.b_len PySem.boot_len (pa_cons (pv 1) pa_nil)) pe_int (nomark _)) (pw_or1 (pt_not (pt_val (pe_callB (call_isi1K K) (by rfl) T.b_isinstance (by decide +kernel) (pa_cons (pe_ix (ix_U K (hu_of hr)) (pv 1) pe_int (fun _ _ => rfl)) (pa_cons (pe_bltn (v := .ty "str") (by rfl) T.b_str (by decide +kernel) rfl) pa_nil))))))))) (pss_one (ps_ret pe_int)) pss_nil)
      (pss_cons (ps_if (PW.pt (pw_or (pt_cmpR (op_notInU K (hu65_of hr)) (pe_ix (ix_U K (hu_of hr)) (pv 1) pe_int (fun _ _ => rfl)) (pv 0) (by rfl)) (pw_or1 (pt_cmpR (op_neU K hr.units) (pe_callB (call_lenU K) (by rfl) T.b_len PySem.boot_len (pa_cons (pe_ix (ix_U K (hu_of hr)) (pv 0) (pe_ix (ix_U K (hu_of hr)) (pv 1) pe_int (fun _ _ => rfl)) (fun _ _ => rfl)) pa_nil)) (pe_op op_subU (pe_callB (call_lenU K) (by rfl) T.b_len PySem.boot_len (pa_cons (pv 1) pa_nil)) pe_int) (nomark _))))) (pss_one (ps_ret pe_int)) pss_nil)
      (pss_one (ps_ret (pe_op (op_addU K) pe_int (pe_callB (cr_sumK K rfl) (by rfl) T.b_sum (by decide +kernel) (pa_cons (pe_lc (own := [("_law_part", 2)]) (g := (gName 2)) (tt := tYes) rfl sc__law_size.nd (pi_any K (pe_slice (sl_U K) (pv 1) (po_some pe_int) po_none)) (blkOk_by (own := [("_law_part", 2)]) (N := N__law_size) (sc := defScope s__law_size) (by decide +kernel)) (fun _ _ _ _ _ => (pg_name (i := 2) sc__law_size.nd rfl (by first | exact Or.inl rfl | exact Or.inr rfl))) (fun _ _ _ _ _ => pts_nil) (fun _ _ _ _ _ => (fcallX takes0 G__law_size (hr.mono (by first | decide | omega)) (by rfl) (pa_cons (pv 0) (pa_cons (pv 2) pa_nil))))) pa_nil))))))), inferInstance, ?_⟩
      have hm3 : m.length ≤ 3 := s3
      walk_at "d"
      refine iteB_F (by omega) ?_
      walk_at "d"
      refine iteB_F (by rw [look_dkS, lk0]; simp) ?_
      walk_at "d"
      rw [look_dkS, lk0]
      walk_at "d"
      refine ⟨by omega, ?_⟩
      refine iteB_F (by rw [List.length_map]; omega) ?_
      walk_at "d"
      refine comp_map (fun x : D × Nat => x.1) (fun x => D.int (x.2 : Nat)) xs (by simp; omega) (fun x hx' Nn M hN => ?_) ?_
      · walk_at "d"
        refine ⟨ss, x.1, x.2, rfl, cn, hx x hx', ?_⟩
        walk_at "d"
        exact hN
      · walk_at "d"
        rw [nts_mapF]
        walk_at "d"
        rw [int_sum]
        rw [show ((1 + (xs.map (·.2)).sum : Nat) : Int) = 1 + ((xs.map (·.2)).sum : Nat) by omega] at q
        exact q
theorem nodup_flat {α β : Type} {f : α → List β} : ∀ {l : List α}, l.Nodup → (∀ x ∈ l, (f x).Nodup) → (∀ x ∈ l, ∀ y ∈ l, ∀ b, b ∈ f x → b ∈ f y → x = y) → (l.flatMap f).Nodup
  | [], _, _, _ => by rw [List.flatMap_nil]; exact List.nodup_nil
  | x :: l, h, h1, h2 => by
    rw [List.nodup_cons] at h
    rw [List.flatMap_cons, List.nodup_append]
    refine ⟨h1 x List.mem_cons_self, nodup_flat h.2 (fun y hy => h1 y (List.mem_cons_of_mem _ hy)) fun y hy z hz => h2 y (List.mem_cons_of_mem _ hy) z (List.mem_cons_of_mem _ hz), fun a ha b hb e => ?_⟩
    subst e
    obtain ⟨y, hy, hb⟩ := List.mem_flatMap.mp hb
    exact h.1 (h2 x List.mem_cons_self y (List.mem_cons_of_mem _ hy) a ha hb ▸ hy)
theorem nodup_mapI {α β : Type} {f : α → β} (hf : ∀ x y, f x = f y → x = y) : ∀ {l : List α}, l.Nodup → (l.map f).Nodup
  | [], _ => by simp
  | x :: l, h => by
    rw [List.nodup_cons] at h
    rw [List.map_cons, List.nodup_cons]
    refine ⟨fun z => ?_, nodup_mapI hf h.2⟩
    obtain ⟨y, hy, e⟩ := List.mem_map.mp z
    exact h.1 (hf y x e ▸ hy)
theorem rows_mem {kd : Nat → List D} : ∀ {m n : Nat} {r : List D}, r ∈ rowsOfK kd m n → ∃ xs : List (D × Nat), r = xs.map (·.1) ∧ xs.length = m ∧ (xs.map (·.2)).sum = n ∧ ∀ x ∈ xs, x.1 ∈ kd x.2 ∧ 1 ≤ x.2 ∧ x.2 ≤ n
  | 0, n, r, h => by
    rw [rowsOfK] at h
    split at h
    · rename_i h0
      rw [List.mem_singleton.mp h]
      exact ⟨[], rfl, rfl, by rw [h0]; rfl, fun x hx => by cases hx⟩
    · cases h
  | m + 1, n, r, h => by
    rw [rowsOfK] at h
    obtain ⟨i, hi, h⟩ := List.mem_flatMap.mp h
    obtain ⟨f, hf, h⟩ := List.mem_flatMap.mp h
    obtain ⟨q, hq, rfl⟩ := List.mem_map.mp h
    have hi := List.mem_range.mp hi
    obtain ⟨xs, rfl, h1, h2, h3⟩ := rows_mem hq
    refine ⟨(f, i + 1) :: xs, rfl, by rw [List.length_cons, h1], by rw [List.map_cons, List.sum_cons, h2]; dsimp only; omega, fun x hx => ?_⟩
    rcases List.mem_cons.mp hx with rfl | hx
    · exact ⟨hf, by dsimp only; omega, by dsimp only; omega⟩
    · obtain ⟨a, b, c⟩ := h3 x hx
      exact ⟨a, b, by omega⟩
theorem kinds_KO {ss : List (Str × Str)} : ∀ {N n : Nat} {d : D}, d ∈ kindsK ss N n → KO ss N d n
  | 0, n, d, h => by cases h
  | N + 1, n, d, h => by
    rw [kindsK] at h
    split at h
    · cases h
    · rename_i h0
      obtain ⟨p, hp, h⟩ := List.mem_flatMap.mp h
      obtain ⟨r, hr, rfl⟩ := List.mem_map.mp h
      obtain ⟨xs, rfl, h1, h2, h3⟩ := rows_mem hr
      exact ⟨p.1, p.2, xs, rfl, hp, h1, by rw [h2]; omega, fun x hx => kinds_KO (h3 x hx).1⟩
theorem map_fst_sum {P Q : D → Nat → Prop} (h : ∀ d a b, P d a → Q d b → a = b) : ∀ {xs ys : List (D × Nat)}, xs.map (·.1) = ys.map (·.1) → (∀ x ∈ xs, P x.1 x.2) → (∀ y ∈ ys, Q y.1 y.2) → (xs.map (·.2)).sum = (ys.map (·.2)).sum
  | [], [], _, _, _ => rfl
  | x :: xs, [], e, _, _ => by cases e
  | [], y :: ys, e, _, _ => by cases e
  | x :: xs, y :: ys, e, h1, h2 => by
    rw [List.map_cons, List.map_cons, List.cons.injEq] at e
    rw [List.map_cons, List.map_cons, List.sum_cons, List.sum_cons, map_fst_sum h e.2 (fun z hz => h1 z (List.mem_cons_of_mem _ hz)) fun z hz => h2 z (List.mem_cons_of_mem _ hz)]
    have a := h1 x List.mem_cons_self
    have b := h2 y List.mem_cons_self
    rw [← e.1] at b
    rw [h _ _ _ a b]
theorem KO_inj {ss : List (Str × Str)} : ∀ (n n' : Nat) (d : D) (s s' : Nat), KO ss n d s → KO ss n' d s' → s = s'
  | 0, _, _, _, _, h, _ => h.elim
  | n + 1, 0, _, _, _, _, h => h.elim
  | n + 1, n' + 1, d, s, s', ⟨w, m, xs, e, _, _, h1, h2⟩, ⟨w', m', xs', e', _, _, h1', h2'⟩ => by
    rw [e] at e'
    simp only [D.tup.injEq, List.cons.injEq] at e'
    rw [h1, h1', map_fst_sum (P := KO ss n) (Q := KO ss n') (fun d a b => KO_inj n n' d a b) e'.2 h2 h2']
theorem rows_nodup {kd : Nat → List D} (h1 : ∀ i, (kd i).Nodup) (h2 : ∀ i j d, d ∈ kd i → d ∈ kd j → i = j) : ∀ m n, (rowsOfK kd m n).Nodup
  | 0, n => by
    rw [rowsOfK]
    split
    · simp
    · exact List.nodup_nil
  | m + 1, n => by
    rw [rowsOfK]
    refine nodup_flat List.nodup_range (fun i _ => nodup_flat (h1 _) (fun f _ => nodup_mapI (fun x y e => by cases e; rfl) (rows_nodup h1 h2 m _)) fun x _ y _ b hx hy => ?_) fun i _ j _ b hx hy => ?_
    · obtain ⟨r, _, rfl⟩ := List.mem_map.mp hx
      obtain ⟨r', _, e⟩ := List.mem_map.mp hy
      cases e; rfl
    · obtain ⟨f, hf, hx⟩ := List.mem_flatMap.mp hx
      obtain ⟨r, _, rfl⟩ := List.mem_map.mp hx
      obtain ⟨f', hf', hy⟩ := List.mem_flatMap.mp hy
      obtain ⟨r', _, e⟩ := List.mem_map.mp hy
      cases e
      have := h2 _ _ _ hf hf'
      omega
theorem nodup_of_map {α β : Type} {f : α → β} : ∀ {l : List α}, (l.map f).Nodup → l.Nodup
  | [], _ => List.nodup_nil
  | x :: l, h => by
    rw [List.map_cons, List.nodup_cons] at h
    exact List.nodup_cons.mpr ⟨fun z => h.1 (List.mem_map.mpr ⟨x, z, rfl⟩), nodup_of_map h.2⟩
theorem kinds_nodup {ss : List (Str × Str)} (nd : (ss.map (·.1)).Nodup) : ∀ N n, (kindsK ss N n).Nodup
  | 0, n => List.nodup_nil
  | N + 1, n => by
    rw [kindsK]
    split
    · exact List.nodup_nil
    · refine nodup_flat (nodup_of_map nd) (fun p _ => nodup_mapI (fun x y e => by cases e; rfl) (rows_nodup (kinds_nodup nd N) (fun i j d a b => KO_inj _ _ _ _ _ (kinds_KO a) (kinds_KO b)) _ _)) fun p hp q hq b hx hy => ?_
      obtain ⟨r, _, rfl⟩ := List.mem_map.mp hx
      obtain ⟨r', _, e⟩ := List.mem_map.mp hy
      have e1 : q.1 = p.1 := by
        simp only [D.tup.injEq, List.cons.injEq, D.str.injEq] at e
        exact e.1
      have a := lkS_mem nd hp
      have b := lkS_mem nd hq
      rw [e1, a] at b
      have e2 : p.2 = q.2 := Option.some.inj b
      exact Prod.ext e1.symm e2
theorem sum_const {α : Type} (c : Nat) : ∀ l : List α, (l.map fun _ => c).sum = l.length * c
  | [] => by simp
  | x :: l => by rw [List.map_cons, List.sum_cons, sum_const c l, List.length_cons, Nat.succ_mul]; omega
theorem rows_len {kd : Nat → List D} : ∀ m n, (rowsOfK kd m n).length = cntR (fun i => (kd i).length) m n
  | 0, n => by
    rw [rowsOfK, cntR]
    split <;> rfl
  | m + 1, n => by
    rw [rowsOfK, cntR, List.length_flatMap]
    congr 1
    refine List.map_congr_left fun i _ => ?_
    rw [List.length_flatMap]
    have e : (fun f => ((rowsOfK kd m (n - (i + 1))).map (f :: ·)).length) = fun _ : D => (rowsOfK kd m (n - (i + 1))).length := by
      funext f
      rw [List.length_map]
    rw [e, sum_const, rows_len m]
theorem cntR_congr {c c' : Nat → Nat} (h : ∀ j, c j = c' j) (m n : Nat) : cntR c m n = cntR c' m n := by
  rw [show c = c' from funext h]
theorem kinds_len {ss : List (Str × Str)} : ∀ N n, (kindsK ss N n).length = cntK ss N n
  | 0, n => rfl
  | N + 1, n => by
    rw [kindsK, cntK]
    split
    · rfl
    · rw [List.length_flatMap]
      congr 1
      refine List.map_congr_left fun p _ => ?_
      rw [List.length_map, rows_len]
      exact cntR_congr (kinds_len N) _ _
theorem KO_ok {ss : List (Str × Str)} (hw : ∀ p ∈ ss, PyData.strOk p.1 = true) : ∀ (n : Nat) (d : D) (s : Nat), KO ss n d s → okD false d = true ∧ dpD d ≤ n
  | 0, _, _, h => h.elim
  | n + 1, d, s, ⟨w, m, xs, e, hm, _, _, hx⟩ => by
    subst e
    have ih : ∀ x ∈ xs, okD false x.1 = true ∧ dpD x.1 ≤ n := fun x hx' => KO_ok hw n x.1 x.2 (hx x hx')
    have e1 : ∀ xs : List (D × Nat), (∀ x ∈ xs, okD false x.1 = true ∧ dpD x.1 ≤ n) → okL false (xs.map (·.1)) = true ∧ dpL (xs.map (·.1)) ≤ n := by
      intro xs
      induction xs with
      | nil => intro _; exact ⟨rfl, Nat.zero_le _⟩
      | cons x xs ihx =>
        intro h
        obtain ⟨a, b⟩ := ihx fun y hy => h y (List.mem_cons_of_mem _ hy)
        obtain ⟨c, d⟩ := h x List.mem_cons_self
        rw [List.map_cons, okL, dpL, c, a]
        exact ⟨rfl, by omega⟩
    obtain ⟨a, b⟩ := e1 xs ih
    have h0 : dpD (D.str w) = 0 := rfl
    rw [okD, okL, okD, hw _ hm, a, dpD, dpL, h0]
    exact ⟨rfl, by omega⟩
theorem lkS_in {x y : Str} : ∀ {l : List (Str × Str)}, lkS l x = some y → (x, y) ∈ l
  | [], h => by cases h
  | (a, b) :: l, h => by
      rw [lkS] at h
      split at h
      · rename_i c
        cases h
        subst c
        exact List.mem_cons_self
      · exact List.mem_cons_of_mem _ (lkS_in h)
theorem nd_inj {α : Type} {xs : List α} (h : xs.Nodup) {i j : Nat} (hi : i < xs.length) (hj : j < xs.length) (e : xs[i] = xs[j]) : i = j := by
  rcases Nat.lt_trichotomy i j with q | q | q
  · exact absurd e (List.pairwise_iff_getElem.mp h i j hi hj q)
  · exact q
  · exact absurd e.symm (List.pairwise_iff_getElem.mp h j i hj hi q)
theorem shp_of {flat : Bool} {menu ws mu : List Str} {b : Nat} {un : List (Nat × Nat)} (h : Stk flat menu ws b mu un) (hm : ∀ x ∈ menu, x.length ≤ 3) : Shp (shapesOf ws b mu) := by
  have hl := h.w.len
  have h2 := h.b2
  have h4 := h.b4
  have h3 := h.m3
  refine ⟨?_, ?_, ?_, ?_⟩
  · rw [shapes_keys hl h.m3, List.nodup_append]
    refine ⟨h.w.nodup.sublist (List.take_sublist _ _), h.w.nodup.sublist ((List.take_sublist _ _).trans (List.drop_sublist _ _)), fun a ha c hc => ?_⟩
    rintro rfl
    obtain ⟨i, hi, e⟩ := List.getElem_of_mem ha
    obtain ⟨j, hj, e'⟩ := List.getElem_of_mem hc
    rw [List.getElem_take] at e e'
    rw [List.getElem_drop] at e'
    rw [List.length_take] at hi hj
    rw [List.length_drop] at hj
    have := nd_inj h.w.nodup (show i < ws.length by omega) (show 4 + j < ws.length by omega) (e.trans e'.symm)
    omega
  · match ws, hl, b, h2 with
    | a :: c :: r, _, b + 2, _ => exact ⟨a, c, _, by simp [shapesOf]; rfl⟩
  · simp [shapesOf]; omega
  · intro p hp
    rcases List.mem_append.mp hp with hp | hp
    · obtain ⟨x, _, rfl⟩ := List.mem_map.mp hp
      exact Nat.zero_le _
    · exact hm _ (h.mm _ (List.of_mem_zip hp).2)
theorem count_mono {i j : Nat} (h : j ≤ i) : ∀ un : List (Nat × Nat), (un.countP fun p => decide (p.1 ≤ j)) ≤ un.countP fun p => decide (p.1 ≤ i) := fun un => List.countP_mono_left fun p _ hp => by
  have := of_decide_eq_true hp
  exact decide_eq_true (by omega)
theorem count_lt {i j : Nat} (h : j < i) : ∀ {un : List (Nat × Nat)}, (i, j) ∈ un → (un.countP fun p => decide (p.1 ≤ j)) + 1 ≤ un.countP fun p => decide (p.1 ≤ i)
  | p :: l, hm => by
    rw [List.countP_cons, List.countP_cons]
    rcases List.mem_cons.mp hm with rfl | hm
    · have := count_mono (Nat.le_of_lt h) l
      rw [if_neg (by simpa using h), if_pos (by simp)]
      omega
    · have := count_lt h hm
      have : (if decide (p.1 ≤ j) = true then 1 else 0) ≤ (if decide (p.1 ≤ i) = true then 1 else 0) := by
        by_cases c : p.1 ≤ j
        · rw [if_pos (by simpa using c), if_pos (by simp; omega)]; omega
        · rw [if_neg (by simpa using c)]; omega
      omega
theorem steps_le {flat : Bool} {menu ws mu : List Str} {b : Nat} {un : List (Nat × Nat)} (h : Stk flat menu ws b mu un) : ∀ (m i : Nat), i < 7 → stepsF (underOf ws un) m (ws.getD i "") ≤ un.countP fun p => decide (p.1 ≤ i)
  | 0, i, _ => Nat.zero_le _
  | m + 1, i, hi => by
    rw [stepsF]
    split
    · exact Nat.zero_le _
    · rename_i y hy
      obtain ⟨p, hp, e⟩ := List.mem_map.mp (lkS_in hy)
      have hu := h.u p hp
      have := h.b4
      have hl := h.w.len
      have e1 : ws.getD p.1 "" = ws.getD i "" := congrArg Prod.fst e
      have e2 : ws.getD p.2 "" = y := congrArg Prod.snd e
      have ei := ws_inj h.w.nodup (show p.1 < ws.length by omega) (show i < ws.length by omega) e1
      have := steps_le h m p.2 (by omega)
      rw [← e2]
      have hp2 : (i, p.2) ∈ un := by rw [← ei]; exact hp
      have := count_lt (show p.2 < i by omega) hp2
      omega
theorem leads_no {flat : Bool} {menu ws mu : List Str} {b : Nat} {un : List (Nat × Nat)} (h : Stk flat menu ws b mu un) : leadsB (underOf ws un) = false := by
  unfold leadsB
  rw [List.any_eq_false]
  intro p hp
  obtain ⟨q, hq, rfl⟩ := List.mem_map.mp hp
  have hu := h.u q hq
  have := h.b4
  have h1 := steps_le h ((underOf ws un).length + 1) q.1 (by omega)
  have h2 : (un.countP fun p => decide (p.1 ≤ q.1)) ≤ un.length := List.countP_le_length
  have h3 : (underOf ws un).length = un.length := by simp [underOf]
  simp only [decide_eq_true_eq]
  omega
theorem shape_base {flat : Bool} {menu ws mu : List Str} {b : Nat} {un : List (Nat × Nat)} (h : Stk flat menu ws b mu un) (hs : Shp (shapesOf ws b mu)) {i : Nat} (hi : i < b) : lkS (shapesOf ws b mu) (ws.getD i "") = some NOMK := by
  refine lkS_mem hs.nd ?_
  unfold shapesOf
  refine List.mem_append_left _ (List.mem_map.mpr ⟨ws.getD i "", ?_, rfl⟩)
  have hl := h.w.len
  have := h.b4
  refine List.mem_of_getElem? (i := i) ?_
  rw [List.getElem?_take_of_lt hi]
  exact ws_ix rfl (by omega)
theorem shape_word {flat : Bool} {menu ws mu : List Str} {b : Nat} {un : List (Nat × Nat)} (h : Stk flat menu ws b mu un) {p : Str × Str} (hp : p ∈ shapesOf ws b mu) : p.1 ∈ ws ∧ (p.2 = NOMK ∨ p.2 ∈ menu) := by
  rcases List.mem_append.mp hp with hp | hp
  · obtain ⟨x, hx, rfl⟩ := List.mem_map.mp hp
    exact ⟨List.mem_of_mem_take hx, .inl rfl⟩
  · have := List.of_mem_zip hp
    exact ⟨List.mem_of_mem_drop (List.mem_of_mem_take this.1), .inr (h.mm _ this.2)⟩
def okMark (x : Str) : Bool := decide (x.length ≤ 3) && x.cps.toList.all fun c => decide (c ∈ MARKSc)
theorem soundS_of {ss : List (Str × Str)} (h2 : 2 ≤ ss.length) (h12 : ss.length ≤ 12) (hw : ∀ p ∈ ss, isWord p.1 = true ∧ okMark p.2 = true) (two : ∃ (a b : Str) (r : List (Str × Str)), ss = (a, ("" : Str)) :: (b, ("" : Str)) :: r) : soundS ss = true := by
  unfold soundS
  rw [decide_eq_true h2, decide_eq_true h12, Bool.true_and, Bool.true_and, Bool.and_eq_true, List.all_eq_true]
  refine ⟨fun p hp => ?_, ?_⟩
  · have := hw p hp
    unfold okMark at this
    rw [this.1, Bool.true_and]
    exact this.2
  · obtain ⟨a, b, r, rfl⟩ := two
    rw [List.filter_cons_of_pos (by exact decide_eq_true rfl), List.filter_cons_of_pos (by exact decide_eq_true rfl)]
    simp
theorem soundO_of {flat : Bool} {menu ws mu : List Str} {b : Nat} {un : List (Nat × Nat)} (h : Stk flat menu ws b mu un) {ss : List (Str × Str)} (hs : ∀ i, i < b → lkS ss (ws.getD i "") = some NOMK) : soundO ss (underOf ws un) = true := by
  unfold soundO
  rw [leads_no h, Bool.and_eq_true, List.all_eq_true]
  refine ⟨fun p hp => ?_, rfl⟩
  obtain ⟨q, hq, rfl⟩ := List.mem_map.mp hp
  have hu := h.u q hq
  have := h.b4
  rw [show lkS ss (ws.getD q.1 "") = some NOMK from hs _ (by omega), show lkS ss (ws.getD q.2 "") = some NOMK from hs _ (by omega)]
  simp
theorem under_nd {flat : Bool} {menu ws mu : List Str} {b : Nat} {un : List (Nat × Nat)} (h : Stk flat menu ws b mu un) : ((underOf ws un).map (·.1)).Nodup := by
  unfold underOf
  rw [List.map_map]
  have ha := h.asc
  rw [List.pairwise_map] at ha
  refine List.Pairwise.map _ (fun p q hpq => ?_) (List.Pairwise.and_mem.mp ha)
  obtain ⟨hp, hq, hlt⟩ := hpq
  have := h.u p hp
  have := h.u q hq
  have := h.b4
  have hl := h.w.len
  exact fun e => by
    have := ws_inj h.w.nodup (show p.1 < ws.length by omega) (show q.1 < ws.length by omega) e
    omega
theorem asc_len : ∀ (l : List Nat) (lo hi : Nat), l.Pairwise (· < ·) → (∀ x ∈ l, lo ≤ x ∧ x < hi) → l.length ≤ hi - lo
  | [], _, _, _, _ => Nat.zero_le _
  | x :: l, lo, hi, h, k => by
    rw [List.pairwise_cons] at h
    have h1 := k x List.mem_cons_self
    have := asc_len l (x + 1) hi h.2 fun y hy => ⟨h.1 y hy, (k y (List.mem_cons_of_mem _ hy)).2⟩
    rw [List.length_cons]
    omega
structure Law3 (ss us : List (Str × Str)) (f s : Str) : Prop where
  shp : Shp ss
  two : ∃ r, ss = (f, ("" : Str)) :: (s, ("" : Str)) :: r
  ne : f ≠ s
  len : ss.length ≤ 7
  word : ∀ p ∈ ss, isWord p.1 = true ∧ p.1.length ≤ 10 ∧ okMark p.2 = true
  ulen : us.length ≤ 4
  und : (us.map (·.1)).Nodup
  ord : ∀ ss' : List (Str × Str), (∀ x, lkS ss x = some NOMK → lkS ss' x = some NOMK) → soundO ss' us = true
theorem law3_of {flat : Bool} {menu ws mu : List Str} {b : Nat} {un : List (Nat × Nat)} (h : Stk flat menu ws b mu un) (hm : ∀ x ∈ menu, okMark x = true) : ∃ f s, Law3 (shapesOf ws b mu) (underOf ws un) f s := by
  have hsh := shp_of h fun x hx => by have := hm x hx; rw [okMark, Bool.and_eq_true] at this; exact of_decide_eq_true this.1
  obtain ⟨f, s, r, e⟩ := hsh.two
  have hl := h.w.len
  have h4 := h.b4
  have h3 := h.m3
  refine ⟨f, s, hsh, ⟨r, e⟩, ?_, ?_, fun p hp => ?_, ?_, under_nd h, fun ss' hs' => soundO_of h fun i hi => hs' _ (shape_base h hsh hi)⟩
  · have := hsh.nd
    rw [e] at this
    intro z
    subst z
    simp at this
  · simp [shapesOf]; omega
  · have := shape_word h hp
    refine ⟨h.w.word _ this.1, h.w.short _ this.1, ?_⟩
    rcases this.2 with z | z
    · rw [z]; decide +kernel
    · exact hm _ z
  · have := asc_len (un.map (·.1)) 1 4 h.asc fun x hx => by
      obtain ⟨p, hp, rfl⟩ := List.mem_map.mp hx
      have := h.u p hp
      omega
    simp [underOf] at this ⊢
    omega
theorem Law3.sound {ss us : List (Str × Str)} {f s : Str} (h : Law3 ss us f s) : soundB ss us = true := by
  rw [soundB, Bool.and_eq_true]
  have hl := h.len
  obtain ⟨r, e⟩ := h.two
  have h2 : 2 ≤ ss.length := by rw [e]; simp
  exact ⟨soundS_of h2 (by omega) (fun p hp => ⟨(h.word p hp).1, (h.word p hp).2.2⟩) h.shp.two, h.ord ss fun _ z => z⟩
abbrev s_law : Stmt := top 25
abbrev N_law : List Str := ["_law_script", "_law_tape_here", "_law_menu", "_law_size_here", "_law_pair", "_law_shapes", "_law_found", "_law_kind"]
abbrev P_law : List Str := ["_law_script"]
theorem sc_law : FnScope N_law P_law (defScope s_law) := ⟨rfl, rfl, rfl, by decide +kernel, rfl, by decide +kernel, by decide +kernel⟩
theorem word_ok06 {x : Str} (h : isWord x = true) : PyData.strOk x = true := by
  unfold isWord at h
  rw [Bool.and_eq_true] at h
  unfold PyData.strOk
  rw [Array.all_eq_true_iff_forall_mem]
  intro c hc
  have h2 := h.2
  rw [List.all_eq_true] at h2
  have : ∀ c ∈ SMALLc, c < 0x110000 := by decide
  exact decide_eq_true (this c (of_decide_eq_true (h2 c (Array.mem_toList_iff.mpr hc))))
theorem okL_of06 {m : Nat} : ∀ {l : List D}, (∀ d ∈ l, okD false d = true ∧ dpD d ≤ m) → okL false l = true ∧ dpL l ≤ m
  | [], _ => ⟨rfl, Nat.zero_le _⟩
  | d :: l, h => by
    obtain ⟨a, b⟩ := okL_of06 (l := l) fun y hy => h y (List.mem_cons_of_mem _ hy)
    obtain ⟨c, e⟩ := h d List.mem_cons_self
    rw [okL, dpL, c, a]
    exact ⟨rfl, by omega⟩
theorem callB_of06 {F : FSpec} {ds : List D} {S : PSt} {Q : Bx (Rv → PSt → Prop)} {w : Bx (Exn → PSt → Prop)} (h : F ds S.W (fun d W' => Q.v (.d d) ⟨S.ρ, W'⟩) (fun x W' => w.v x ⟨S.ρ, W'⟩)) : @CallB F ds S Q w := h
theorem ok_law {f : Addr} {fd : FuncData} (F : Fun K "law" "law" s_law f fd) (T : Txt K mg) (G__law_tape : Fx P w K mg base (L2.CX P w) "_law_tape" 2 P__law_tape (lift K F_tape)) (G__law_take : Fx P w K mg base (L2.CX P w) "_law_take" 1 P__law_take (lift K F_take))
    (G__law_stock : Fx P w K mg base (L2.CX P w) "_law_stock" 3 P__law_stock (lift K F_stock)) (K_Stock2 : Kx P w K mg base (clsA mg "Stock") 4 P_Stock___init__ [] (lift K (F_mkStock (clsA mg "Stock") (clsA mg "BadKind"))))
    (G__law_count : Fx P w K mg base (L2.CX P w) "_law_count" 21 P__law_count (lift K (F_cnt 4))) (G__law_size : Fx P w K mg base (L2.CX P w) "_law_size" 5 P__law_size (lift K (F_size 4))) (G_kinds_of_size : Gx P w K mg base "kinds_of_size" 43 P_kinds_of_size (G_kinds (clsA mg "Stock") 4)) : FnOk P w K mg base CX0 46 f fd P_law (spLaw K) := by
  refine okLaw F sc_law (fun cdv A outer0 s H E e hr => ?_)
  refine ⟨_, _, (pss_cons (ps_set (i := 1) sc_law.nd rfl (Or.inl rfl) (fcallX takes0 G__law_tape (hr.mono (by first | decide | omega)) (by rfl) (pa_cons (pv 0) (pa_cons pe_int (pa_cons pe_int pa_nil)))))
      (pss_cons (ps_set (i := 2) sc_law.nd rfl (Or.inl rfl) (pe_lst (pa_cons pe_str (pa_cons pe_str (pa_cons pe_str (pa_cons pe_str (pa_cons pe_str pa_nil)))))))
      (pss_cons (ps_set (i := 3) sc_law.nd rfl (Or.inl rfl) (fcallX takes0 G__law_take (hr.mono (by first | decide | omega)) (by rfl) (pa_cons (pv 1) (pa_cons pe_int pa_nil))))
      (pss_cons (ps_if (pt_cmpR (op_eqU K hr.units) (fcallX takes0 G__law_take (hr.mono (by first | decide | omega)) (by rfl) (pa_cons (pv 1) (pa_cons pe_int pa_nil))) pe_int (nomark _)) (pss_cons (ps_set (i := 2) sc_law.nd rfl (Or.inl rfl) (pe_lst (pa_cons pe_str (pa_cons pe_str (pa_cons pe_str pa_nil)))))
      (pss_one (ps_set (i := 3) sc_law.nd rfl (Or.inl rfl) pe_int))) pss_nil)
      (pss_cons (ps_set (i := 4) sc_law.nd rfl (Or.inl rfl) (fcallX takes0 G__law_stock (hr.mono (by first | decide | omega)) (by rfl) (pa_cons (pv 1) (pa_cons (pe_cmpR (op_eqU K hr.units) (fcallX takes0 G__law_take (hr.mono (by first | decide | omega)) (by rfl) (pa_cons (pv 1) (pa_cons pe_int pa_nil))) pe_int (nomark _)) (pa_cons (pv 2) pa_nil)))))
      (pss_cons (ps_set (i := 5) sc_law.nd rfl (Or.inl rfl) (pe_ix (ix_U K (hu_of hr)) (pv 4) pe_int (fun _ _ => rfl)))
      (pss_cons (setO_of (ps_set (i := 6) sc_law.nd rfl (Or.inl rfl) (pe_lst pa_nil)))
      (pss_cons (ps_forGK K PassesOwn.never (fun _ _ _ _ _ h => h) rfl G_kinds_of_size (hr.mono (by first | decide | omega)) (by rfl) (pa_cons (mkF_of (makeX takes0 K_Stock2 (hr.mono (by first | decide | omega)) (by rfl) T.g_Stock (pa_cons (pe_callTy (call_dictU K rfl) (by rfl) T.b_dict (by decide +kernel) (pa_cons (pv 5) pa_nil)) (pa_cons (pe_callTy (call_dictU K rfl) (by rfl) T.b_dict (by decide +kernel) (pa_cons (pe_ix (ix_U K (hu_of hr)) (pv 4) pe_int (fun _ _ => rfl)) pa_nil)) pa_nil)))) (pa_cons (pv 3) pa_nil)) (pg_name (i := 7) sc_law.nd rfl (Or.inl rfl)) (pss_cons (ps_if (PW.pt (pw_or (pt_cmpR (op_neU K hr.units) (fcallX takes0 G__law_size (hr.mono (by first | decide | omega)) (by rfl) (pa_cons (pv 5) (pa_cons (pv 7) pa_nil))) (pv 3) (nomark _)) (pw_or1 (pt_cmpR (op_inU K (hu65_of hr)) (pv 7) (pv 6) (by rfl))))) (pss_one (ps_ret pe_bl)) pss_nil) (pss_one (ps_expr (pe_bmK K PySem.F.plainAttrs_list PySem.F.slot_list_append PySem.F.type_list_append mt_append (pv 6) (pa_cons (pv 7) pa_nil))))))
      (pss_one (ps_ret (pe_cmpR (op_eqU K hr.units) (pe_callB (call_lenU K) (by rfl) T.b_len PySem.boot_len (pa_cons (pv 6) pa_nil)) (fcallX takes0 G__law_count (hr.mono (by first | decide | omega)) (by rfl) (pa_cons (pv 5) (pa_cons (pv 3) pa_nil))) (nomark _)))))))))))), inferInstance, ?_⟩
  walk_at "d"
  refine ⟨0, 30, rfl, by decide, by decide, by decide, fun Tp1 hT1 => ?_⟩
  walk_at "d"
  refine ⟨5, rfl, by decide, fun z z0 z1 => ?_⟩
  walk_at "d"
  refine ⟨3, rfl, by decide, fun q q0 q1 => ?_⟩
  walk_at "d"
  obtain ⟨n, rfl⟩ : ∃ n : Nat, z = (n : Int) := ⟨z.toNat, by omega⟩
  have hn : n ≤ 4 := by omega
  refine iteB_by (fun c => ?_) (fun c => ?_)
  case' refine_1 =>
    walk_at "d"
    obtain ⟨n, hn, en⟩ : ∃ n : Nat, n ≤ 4 ∧ (4 : Int) = n := ⟨4, by omega, rfl⟩
    obtain ⟨menu, hme, hml, hmk, em⟩ : ∃ menu : List Str, menu ≠ [] ∧ menu.length ≤ 100 ∧ (∀ x ∈ menu, okMark x = true) ∧ [D.str "+-+", D.str "+", D.str "+--"] = menu.map D.str := ⟨["+-+", "+", "+--"], by decide, by decide, by decide +kernel, rfl⟩
    rw [em, en]
    clear em en
  case' refine_2 =>
    walk_at "d"
    obtain ⟨menu, hme, hml, hmk, em⟩ : ∃ menu : List Str, menu ≠ [] ∧ menu.length ≤ 100 ∧ (∀ x ∈ menu, okMark x = true) ∧ [D.str "+", D.str "-+", D.str "++", D.str "-", D.str "-++"] = menu.map D.str := ⟨["+", "-+", "++", "-", "-++"], by decide, by decide, by decide +kernel, rfl⟩
    rw [em]
    clear em
  all_goals
    refine ⟨2, rfl, by decide, fun t t0 t1 => ?_⟩
    walk_at "d"
    refine ⟨decide (t = 1), menu, rfl, hme, hml, fun ws b mu un hs => ?_⟩
    obtain ⟨wf, wt, L3⟩ := law3_of hs hmk
    walk_at "d"
    have hsh := L3.shp
    have hul := L3.ulen
    have hun := L3.und
    have hsB := L3.sound
    have mkS : ∀ {W : Wd} {a : Addr} {Q : D → Wd → Prop} {E : Exn → Wd → Prop}, W.ω a = none → Q .non (W.put a (.ins (clsA mg "Stock") (stkC (shapesOf ws b mu) (underOf ws un)))) → F_mkStock (clsA mg "Stock") (clsA mg "BadKind") [.ref a, .dct (dkS (shapesOf ws b mu)), .dct (dkS (underOf ws un))] (W.put a (.ins (clsA mg "Stock") [])) Q E := fun {W a Q E} ha hq => by
      have hl7 := L3.len
      refine ⟨a, W, _, _, shapesOf ws b mu, underOf ws un, rfl, rfl, ha, rfl, .inr rfl, hsh.nd, hun, by omega, by omega, fun p hp => ?_, fun _ => hq, fun z => by rw [hsB] at z; cases z⟩
      have h1 := (L3.word p hp).2.1
      have h2 := hsh.small p hp
      exact ⟨by omega, by omega⟩
    generalize shapesOf ws b mu = ss at *
    generalize underOf ws un = us at *
    have cn : Cn ss := ⟨hsh.nd, hsh.small, L3.len⟩
    have hwo : ∀ p ∈ ss, PyData.strOk p.1 = true := fun p hp => word_ok06 (L3.word p hp).1
    intro a ha _
    refine callB_of06 <| mkS ha ?_
    walk_at "d"
    rw [Wd.del_put (W := ⟨Tp1, e.W.ω⟩) ha]
    have sm := hsh.small
    refine ⟨kindsK ss 4 n, ⟨ss, us, n, rfl, hn, by omega, hsh.nd, hsh.small, rfl⟩, ?_⟩
    have klen : (kindsK ss 4 n).length = cntK ss 4 n := kinds_len 4 n
    have kle := cntK_le cn 4 n hn
    have kle2 := cB_le n (by omega)
    have knd := kinds_nodup cn.1 4 n
    have kko : ∀ d ∈ kindsK ss 4 n, KO ss 4 d n := fun d hd => kinds_KO hd
    generalize kindsK ss 4 n = outs at *
    refine for_lst (fun j S => ∃ v, S = ⟨[some (.val .scr), some (.val .tape), some (.val (.lst (menu.map D.str))), some (.val (.int n)), some (.val (.tup [.dct (dkS ss), .dct (dkS us)])), some (.val (.dct (dkS ss))), some (.ownL (outs.take j)), v], ⟨Tp1, e.W.ω⟩⟩) ⟨_, rfl⟩ (fun j x S hx hS => ?_) (fun S hS => ?_)
    · obtain ⟨v, rfl⟩ := hS
      have hxm := List.mem_of_getElem? hx
      have ko := kko x hxm
      walk_at "d"
      refine ⟨ss, x, n, rfl, cn, ko, ?_⟩
      walk_at "d"
      obtain ⟨xok, xdp⟩ := KO_ok hwo 4 x n ko
      refine dd1B_ok xok ?_
      walk_at "d"
      have all4 : ∀ d ∈ outs.take j, okD false d = true ∧ dpD d ≤ 4 := fun d hd => KO_ok hwo 4 d n (kko d (List.mem_of_mem_take hd))
      obtain ⟨lok, ldp⟩ := okL_of06 all4
      have hj : j < outs.length := (List.getElem?_eq_some_iff.mp hx).1
      have xj : outs[j] = x := (List.getElem?_eq_some_iff.mp hx).2
      refine ⟨⟨false, .inr ⟨xok, lok, by omega, by omega⟩⟩, iteB_F (fun z => ?_) ?_⟩
      · obtain ⟨i, hi, ei⟩ := List.getElem_of_mem z
        rw [List.length_take] at hi
        rw [List.getElem_take] at ei
        have := nd_inj knd (show i < outs.length by omega) hj (ei.trans xj.symm)
        omega
      · walk_at "d"
        refine ⟨by rw [List.length_take]; omega, some (.val x), ?_⟩
        rw [show outs.take (j + 1) = outs.take j ++ [x] by rw [List.take_add_one, hx]; rfl]
    · obtain ⟨v, rfl⟩ := hS
      walk_at "d"
      refine ⟨ss, n, rfl, hn, hn, cn, ?_⟩
      walk_at "d"
      rw [List.take_length, klen]
end Kn
set_option synthInstance.maxHeartbeats 0
set_option synthInstance.maxSize 100000
set_option Elab.async false
set_option maxRecDepth 100000
set_option linter.all false
set_option maxHeartbeats 0
set_option pp.maxSteps 30
set_option pp.deepTerms false
set_option pp.proofs false
namespace Kn
open PySem L2
theorem all_mk {l : PySem.W.OpenLaw} {w : World} {K : PySem.W.Frag} {h : Heap} {mg : Str → Option Value} {fa : Addr} (X : K.In h) (G : h.Ns mainGlobals mg) (hfa : mg "law" = some (.ref fa))
    {f1 f2 f3 f4 f5 f6 f7 f8 f9 f10 f11 f12 f13 f14 f15 : Addr} {od1 an1 od2 an2 od3 an3 od4 an4 od5 an5 od6 an6 od7 an7 od8 an8 od9 an9 od10 an10 od11 an11 od12 an12 od13 an13 od14 an14 od15 an15 : Option Addr} {sl1 sl2 sl3 sl4 sl5 sl6 sl7 sl8 sl9 sl10 sl11 sl12 sl13 sl14 sl15 : Array (Option Value)} {oc1 kV1 dc1 pm1 cd1 ct1 oc2 kV2 dc2 pm2 cd2 ct2 oc3 kV3 dc3 pm3 cd3 ct3 oc4 kV4 dc4 pm4 cd4 ct4 oc5 kV5 dc5 pm5 cd5 ct5 oc6 kV6 dc6 pm6 cd6 ct6 oc7 kV7 dc7 pm7 cd7 ct7 oc8 kV8 dc8 pm8 cd8 ct8 oc9 kV9 dc9 pm9 cd9 ct9 oc10 kV10 dc10 pm10 cd10 ct10 oc11 kV11 dc11 pm11 cd11 ct11 oc12 kV12 dc12 pm12 cd12 ct12 oc13 kV13 dc13 pm13 cd13 ct13 oc14 kV14 dc14 pm14 cd14 ct14 oc15 kV15 dc15 pm15 cd15 ct15 : Value} {u_LONGEST_WORD : Value} {u_MOST_PARTS : Value} {u_MOST_WORDS : Value} {u_SMALL : Value} {C_BadKind : Addr} {C_NotesError : Addr} {C_Stock : Addr} {f_Stock___init__ : Addr} {od_Stock___init__ an_Stock___init__ : Option Addr} {sl_Stock___init__ : Array (Option Value)} {oc_Stock___init__ kV_Stock___init__ dc_Stock___init__ pm_Stock___init__ cd_Stock___init__ ct_Stock___init__ : Value} {T_Stock___init__ : Addr} {tod_Stock___init__ : Option Addr} {tsl_Stock___init__ : Array (Option Value)} {toc_Stock___init__ : Value} {tn_Stock___init__ : Nat}
    (a1 : PySem.W.nsIn K mainGlobals "is_word" = some (some (.ref f1))) (l1 : K.lookup f1 = some ⟨oc1, od1, .func (PySem.W.fnOf "is_word" "is_word" (defArgs s_is_word) (defBody s_is_word) (defScope s_is_word) .none kV1 dc1 pm1 an1 cd1 ct1), sl1⟩) (c1 : PySem.W.codeIn K cd1 "is_word" = true) (k1 : PySem.W.keepIn K (.ref f1) = true)
    (a2 : PySem.W.nsIn K mainGlobals "leads_back" = some (some (.ref f2))) (l2 : K.lookup f2 = some ⟨oc2, od2, .func (PySem.W.fnOf "leads_back" "leads_back" (defArgs s_leads_back) (defBody s_leads_back) (defScope s_leads_back) .none kV2 dc2 pm2 an2 cd2 ct2), sl2⟩) (c2 : PySem.W.codeIn K cd2 "leads_back" = true) (k2 : PySem.W.keepIn K (.ref f2) = true)
    (a3 : PySem.W.nsIn K mainGlobals "sound_shapes" = some (some (.ref f3))) (l3 : K.lookup f3 = some ⟨oc3, od3, .func (PySem.W.fnOf "sound_shapes" "sound_shapes" (defArgs s_sound_shapes) (defBody s_sound_shapes) (defScope s_sound_shapes) .none kV3 dc3 pm3 an3 cd3 ct3), sl3⟩) (c3 : PySem.W.codeIn K cd3 "sound_shapes" = true) (k3 : PySem.W.keepIn K (.ref f3) = true)
    (a4 : PySem.W.nsIn K mainGlobals "sound_order" = some (some (.ref f4))) (l4 : K.lookup f4 = some ⟨oc4, od4, .func (PySem.W.fnOf "sound_order" "sound_order" (defArgs s_sound_order) (defBody s_sound_order) (defScope s_sound_order) .none kV4 dc4 pm4 an4 cd4 ct4), sl4⟩) (c4 : PySem.W.codeIn K cd4 "sound_order" = true) (k4 : PySem.W.keepIn K (.ref f4) = true)
    (a5 : PySem.W.nsIn K mainGlobals "rows_of_kinds" = some (some (.ref f5))) (l5 : K.lookup f5 = some ⟨oc5, od5, .func (PySem.W.fnOf "rows_of_kinds" "rows_of_kinds" (defArgs s_rows_of_kinds) (defBody s_rows_of_kinds) (defScope s_rows_of_kinds) .none kV5 dc5 pm5 an5 cd5 ct5), sl5⟩) (c5 : PySem.W.codeIn K cd5 "rows_of_kinds" = true) (k5 : PySem.W.keepIn K (.ref f5) = true)
    (a6 : PySem.W.nsIn K mainGlobals "kinds_of_size" = some (some (.ref f6))) (l6 : K.lookup f6 = some ⟨oc6, od6, .func (PySem.W.fnOf "kinds_of_size" "kinds_of_size" (defArgs s_kinds_of_size) (defBody s_kinds_of_size) (defScope s_kinds_of_size) .none kV6 dc6 pm6 an6 cd6 ct6), sl6⟩) (c6 : PySem.W.codeIn K cd6 "kinds_of_size" = true) (k6 : PySem.W.keepIn K (.ref f6) = true)
    (a7 : PySem.W.nsIn K mainGlobals "_law_cell" = some (some (.ref f7))) (l7 : K.lookup f7 = some ⟨oc7, od7, .func (PySem.W.fnOf "_law_cell" "_law_cell" (defArgs s__law_cell) (defBody s__law_cell) (defScope s__law_cell) .none kV7 dc7 pm7 an7 cd7 ct7), sl7⟩) (c7 : PySem.W.codeIn K cd7 "_law_cell" = true) (k7 : PySem.W.keepIn K (.ref f7) = true)
    (a8 : PySem.W.nsIn K mainGlobals "_law_tape" = some (some (.ref f8))) (l8 : K.lookup f8 = some ⟨oc8, od8, .func (PySem.W.fnOf "_law_tape" "_law_tape" (defArgs s__law_tape) (defBody s__law_tape) (defScope s__law_tape) .none kV8 dc8 pm8 an8 cd8 ct8), sl8⟩) (c8 : PySem.W.codeIn K cd8 "_law_tape" = true) (k8 : PySem.W.keepIn K (.ref f8) = true)
    (a9 : PySem.W.nsIn K mainGlobals "_law_take" = some (some (.ref f9))) (l9 : K.lookup f9 = some ⟨oc9, od9, .func (PySem.W.fnOf "_law_take" "_law_take" (defArgs s__law_take) (defBody s__law_take) (defScope s__law_take) .none kV9 dc9 pm9 an9 cd9 ct9), sl9⟩) (c9 : PySem.W.codeIn K cd9 "_law_take" = true) (k9 : PySem.W.keepIn K (.ref f9) = true)
    (a10 : PySem.W.nsIn K mainGlobals "_law_words" = some (some (.ref f10))) (l10 : K.lookup f10 = some ⟨oc10, od10, .func (PySem.W.fnOf "_law_words" "_law_words" (defArgs s__law_words) (defBody s__law_words) (defScope s__law_words) .none kV10 dc10 pm10 an10 cd10 ct10), sl10⟩) (c10 : PySem.W.codeIn K cd10 "_law_words" = true) (k10 : PySem.W.keepIn K (.ref f10) = true)
    (a11 : PySem.W.nsIn K mainGlobals "_law_stock" = some (some (.ref f11))) (l11 : K.lookup f11 = some ⟨oc11, od11, .func (PySem.W.fnOf "_law_stock" "_law_stock" (defArgs s__law_stock) (defBody s__law_stock) (defScope s__law_stock) .none kV11 dc11 pm11 an11 cd11 ct11), sl11⟩) (c11 : PySem.W.codeIn K cd11 "_law_stock" = true) (k11 : PySem.W.keepIn K (.ref f11) = true)
    (a12 : PySem.W.nsIn K mainGlobals "_law_count_rows" = some (some (.ref f12))) (l12 : K.lookup f12 = some ⟨oc12, od12, .func (PySem.W.fnOf "_law_count_rows" "_law_count_rows" (defArgs s__law_count_rows) (defBody s__law_count_rows) (defScope s__law_count_rows) .none kV12 dc12 pm12 an12 cd12 ct12), sl12⟩) (c12 : PySem.W.codeIn K cd12 "_law_count_rows" = true) (k12 : PySem.W.keepIn K (.ref f12) = true)
    (a13 : PySem.W.nsIn K mainGlobals "_law_count" = some (some (.ref f13))) (l13 : K.lookup f13 = some ⟨oc13, od13, .func (PySem.W.fnOf "_law_count" "_law_count" (defArgs s__law_count) (defBody s__law_count) (defScope s__law_count) .none kV13 dc13 pm13 an13 cd13 ct13), sl13⟩) (c13 : PySem.W.codeIn K cd13 "_law_count" = true) (k13 : PySem.W.keepIn K (.ref f13) = true)
    (a14 : PySem.W.nsIn K mainGlobals "_law_size" = some (some (.ref f14))) (l14 : K.lookup f14 = some ⟨oc14, od14, .func (PySem.W.fnOf "_law_size" "_law_size" (defArgs s__law_size) (defBody s__law_size) (defScope s__law_size) .none kV14 dc14 pm14 an14 cd14 ct14), sl14⟩) (c14 : PySem.W.codeIn K cd14 "_law_size" = true) (k14 : PySem.W.keepIn K (.ref f14) = true)
    (a15 : PySem.W.nsIn K mainGlobals "law" = some (some (.ref f15))) (l15 : K.lookup f15 = some ⟨oc15, od15, .func (PySem.W.fnOf "law" "law" (defArgs s_law) (defBody s_law) (defScope s_law) .none kV15 dc15 pm15 an15 cd15 ct15), sl15⟩) (c15 : PySem.W.codeIn K cd15 "law" = true) (k15 : PySem.W.keepIn K (.ref f15) = true)
    (q_LONGEST_WORD : PySem.W.nsIn K mainGlobals "LONGEST_WORD" = some (some u_LONGEST_WORD)) (r_LONGEST_WORD : RelV (.int 12) u_LONGEST_WORD)
    (q_MOST_PARTS : PySem.W.nsIn K mainGlobals "MOST_PARTS" = some (some u_MOST_PARTS)) (r_MOST_PARTS : RelV (.int 3) u_MOST_PARTS)
    (q_MOST_WORDS : PySem.W.nsIn K mainGlobals "MOST_WORDS" = some (some u_MOST_WORDS)) (r_MOST_WORDS : RelV (.int 12) u_MOST_WORDS)
    (q_SMALL : PySem.W.nsIn K mainGlobals "SMALL" = some (some u_SMALL)) (r_SMALL : RelV (.str "abcdefghijklmnopqrstuvwxyz") u_SMALL)
    (z_all : PySem.W.nsIn K mainGlobals "all" = some none)
    (z_dict : PySem.W.nsIn K mainGlobals "dict" = some none)
    (z_int : PySem.W.nsIn K mainGlobals "int" = some none)
    (z_isinstance : PySem.W.nsIn K mainGlobals "isinstance" = some none)
    (z_len : PySem.W.nsIn K mainGlobals "len" = some none)
    (z_range : PySem.W.nsIn K mainGlobals "range" = some none)
    (z_str : PySem.W.nsIn K mainGlobals "str" = some none)
    (z_sum : PySem.W.nsIn K mainGlobals "sum" = some none)
    (z_tuple : PySem.W.nsIn K mainGlobals "tuple" = some none)
    (xa_BadKind : PySem.W.nsIn K mainGlobals "BadKind" = some (some (.ref C_BadKind))) (xe_BadKind : PySem.W.excIn K C_BadKind [.type "ValueError", .type "Exception", .type "BaseException", .type "object"] "ValueError.__new__" = true) (xk_BadKind : PySem.W.keepIn K (.ref C_BadKind) = true) (xb_BadKind : PySem.W.subIn K (.ref C_BadKind) (.type "BaseException") = some true) (xt_BadKind : PySem.W.typeIn K (.ref C_BadKind) = some (.type "type"))
    (xa_NotesError : PySem.W.nsIn K mainGlobals "NotesError" = some (some (.ref C_NotesError)))
    (xa_Stock : PySem.W.nsIn K mainGlobals "Stock" = some (some (.ref C_Stock)))
    (y0 : PySem.W.exmOne K (.ref C_BadKind) (.ref C_BadKind) = some true)
    (c1_Stock : PySem.W.plainGet K C_Stock Str.empty = true)
    (c2_Stock : PySem.W.hasDictIn K C_Stock = true)
    (c3_Stock : PySem.W.plainOver K C_Stock = true)
    (c4_Stock : PySem.W.findIn K (.ref C_Stock) "__setattr__" = some (some (.builtin "object.__setattr__")))
    (nf_Stock_shapes : PySem.W.findIn K (.ref C_Stock) "shapes" = some none)
    (nf_Stock_above : PySem.W.findIn K (.ref C_Stock) "above" = some none)
    (l_Stock___init__ : K.lookup f_Stock___init__ = some ⟨oc_Stock___init__, od_Stock___init__, .func (PySem.W.fnOf "__init__" "Stock.__init__" (defArgs s_Stock___init__) (defBody s_Stock___init__) (defScope s_Stock___init__) (.ref T_Stock___init__) kV_Stock___init__ dc_Stock___init__ pm_Stock___init__ an_Stock___init__ cd_Stock___init__ ct_Stock___init__), sl_Stock___init__⟩) (cc_Stock___init__ : PySem.W.codeIn K cd_Stock___init__ "Stock.__init__" = true) (kp_Stock___init__ : PySem.W.keepIn K (.ref f_Stock___init__) = true)
    (dt_Stock___init__ : K.lookup T_Stock___init__ = some ⟨toc_Stock___init__, tod_Stock___init__, .seq [Value.none].toArray tn_Stock___init__, tsl_Stock___init__⟩)
    (mk_Stock___init__ : PySem.W.makesIn K C_Stock = true)
    (mi_Stock___init__ : PySem.W.findIn K (.ref C_Stock) "__init__" = some (some (.ref f_Stock___init__)))
    (mf_Stock___init__ : PySem.W.isFn K (.ref f_Stock___init__) = true)
    (mk2_Stock___init__ : PySem.W.keepIn K (.ref C_Stock) = true) :
    ∃ fd : FuncData, (∀ (s : Shared) (v : Value), BindsTo s fd ⟨[v], []⟩ [("_law_script", v)]) ∧ ∀ base : Heap, K.In base → base.Ns mainGlobals mg → FnOk l.prog w K mg base CX0 46 fa fd ["_law_script"] (spLaw K) := by
  have e := hfa.symm.trans (PySem.W.mg_of X G a15)
  cases e
  have FL := fun_mk (st := s_law) l15 c15 k15
  have F_is_word : Fz K mg "is_word" s_is_word P_is_word := ⟨f1, _, fun_mk (st := s_is_word) l1 c1 k1, PySem.W.mg_of X G a1, (fun_mk (st := s_is_word) l1 c1 k1).binds (ps := P_is_word) fun _ _ _ _ _ _ us hl => match us, hl with | [_], _ => rfl⟩
  have F_leads_back : Fz K mg "leads_back" s_leads_back P_leads_back := ⟨f2, _, fun_mk (st := s_leads_back) l2 c2 k2, PySem.W.mg_of X G a2, (fun_mk (st := s_leads_back) l2 c2 k2).binds (ps := P_leads_back) fun _ _ _ _ _ _ us hl => match us, hl with | [_], _ => rfl⟩
  have F_sound_shapes : Fz K mg "sound_shapes" s_sound_shapes P_sound_shapes := ⟨f3, _, fun_mk (st := s_sound_shapes) l3 c3 k3, PySem.W.mg_of X G a3, (fun_mk (st := s_sound_shapes) l3 c3 k3).binds (ps := P_sound_shapes) fun _ _ _ _ _ _ us hl => match us, hl with | [_], _ => rfl⟩
  have F_sound_order : Fz K mg "sound_order" s_sound_order P_sound_order := ⟨f4, _, fun_mk (st := s_sound_order) l4 c4 k4, PySem.W.mg_of X G a4, (fun_mk (st := s_sound_order) l4 c4 k4).binds (ps := P_sound_order) fun _ _ _ _ _ _ us hl => match us, hl with | [_, _], _ => rfl⟩
  have F_rows_of_kinds : Fz K mg "rows_of_kinds" s_rows_of_kinds P_rows_of_kinds := ⟨f5, _, fun_mk (st := s_rows_of_kinds) l5 c5 k5, PySem.W.mg_of X G a5, (fun_mk (st := s_rows_of_kinds) l5 c5 k5).binds (ps := P_rows_of_kinds) fun _ _ _ _ _ _ us hl => match us, hl with | [_, _, _], _ => rfl⟩
  have F_kinds_of_size : Fz K mg "kinds_of_size" s_kinds_of_size P_kinds_of_size := ⟨f6, _, fun_mk (st := s_kinds_of_size) l6 c6 k6, PySem.W.mg_of X G a6, (fun_mk (st := s_kinds_of_size) l6 c6 k6).binds (ps := P_kinds_of_size) fun _ _ _ _ _ _ us hl => match us, hl with | [_, _], _ => rfl⟩
  have F__law_cell : Fz K mg "_law_cell" s__law_cell P__law_cell := ⟨f7, _, fun_mk (st := s__law_cell) l7 c7 k7, PySem.W.mg_of X G a7, (fun_mk (st := s__law_cell) l7 c7 k7).binds (ps := P__law_cell) fun _ _ _ _ _ _ us hl => match us, hl with | [_, _], _ => rfl⟩
  have F__law_tape : Fz K mg "_law_tape" s__law_tape P__law_tape := ⟨f8, _, fun_mk (st := s__law_tape) l8 c8 k8, PySem.W.mg_of X G a8, (fun_mk (st := s__law_tape) l8 c8 k8).binds (ps := P__law_tape) fun _ _ _ _ _ _ us hl => match us, hl with | [_, _, _], _ => rfl⟩
  have F__law_take : Fz K mg "_law_take" s__law_take P__law_take := ⟨f9, _, fun_mk (st := s__law_take) l9 c9 k9, PySem.W.mg_of X G a9, (fun_mk (st := s__law_take) l9 c9 k9).binds (ps := P__law_take) fun _ _ _ _ _ _ us hl => match us, hl with | [_, _], _ => rfl⟩
  have F__law_words : Fz K mg "_law_words" s__law_words P__law_words := ⟨f10, _, fun_mk (st := s__law_words) l10 c10 k10, PySem.W.mg_of X G a10, (fun_mk (st := s__law_words) l10 c10 k10).binds (ps := P__law_words) fun _ _ _ _ _ _ us hl => match us, hl with | [_, _], _ => rfl⟩
  have F__law_stock : Fz K mg "_law_stock" s__law_stock P__law_stock := ⟨f11, _, fun_mk (st := s__law_stock) l11 c11 k11, PySem.W.mg_of X G a11, (fun_mk (st := s__law_stock) l11 c11 k11).binds (ps := P__law_stock) fun _ _ _ _ _ _ us hl => match us, hl with | [_, _, _], _ => rfl⟩
  have F__law_count_rows : Fz K mg "_law_count_rows" s__law_count_rows P__law_count_rows := ⟨f12, _, fun_mk (st := s__law_count_rows) l12 c12 k12, PySem.W.mg_of X G a12, (fun_mk (st := s__law_count_rows) l12 c12 k12).binds (ps := P__law_count_rows) fun _ _ _ _ _ _ us hl => match us, hl with | [_, _, _], _ => rfl⟩
  have F__law_count : Fz K mg "_law_count" s__law_count P__law_count := ⟨f13, _, fun_mk (st := s__law_count) l13 c13 k13, PySem.W.mg_of X G a13, (fun_mk (st := s__law_count) l13 c13 k13).binds (ps := P__law_count) fun _ _ _ _ _ _ us hl => match us, hl with | [_, _], _ => rfl⟩
  have F__law_size : Fz K mg "_law_size" s__law_size P__law_size := ⟨f14, _, fun_mk (st := s__law_size) l14 c14 k14, PySem.W.mg_of X G a14, (fun_mk (st := s__law_size) l14 c14 k14).binds (ps := P__law_size) fun _ _ _ _ _ _ us hl => match us, hl with | [_, _], _ => rfl⟩
  have cn_LONGEST_WORD : ∃ u, mg "LONGEST_WORD" = some u ∧ RelV (.int 12) u := ⟨u_LONGEST_WORD, PySem.W.mg_of X G q_LONGEST_WORD, r_LONGEST_WORD⟩
  have cn_MOST_PARTS : ∃ u, mg "MOST_PARTS" = some u ∧ RelV (.int 3) u := ⟨u_MOST_PARTS, PySem.W.mg_of X G q_MOST_PARTS, r_MOST_PARTS⟩
  have cn_MOST_WORDS : ∃ u, mg "MOST_WORDS" = some u ∧ RelV (.int 12) u := ⟨u_MOST_WORDS, PySem.W.mg_of X G q_MOST_WORDS, r_MOST_WORDS⟩
  have cn_SMALL : ∃ u, mg "SMALL" = some u ∧ RelV (.str "abcdefghijklmnopqrstuvwxyz") u := ⟨u_SMALL, PySem.W.mg_of X G q_SMALL, r_SMALL⟩
  have bn_all : mg "all" = none := PySem.W.mg_none_of X G z_all
  have bn_dict : mg "dict" = none := PySem.W.mg_none_of X G z_dict
  have bn_int : mg "int" = none := PySem.W.mg_none_of X G z_int
  have bn_isinstance : mg "isinstance" = none := PySem.W.mg_none_of X G z_isinstance
  have bn_len : mg "len" = none := PySem.W.mg_none_of X G z_len
  have bn_range : mg "range" = none := PySem.W.mg_none_of X G z_range
  have bn_str : mg "str" = none := PySem.W.mg_none_of X G z_str
  have bn_sum : mg "sum" = none := PySem.W.mg_none_of X G z_sum
  have bn_tuple : mg "tuple" = none := PySem.W.mg_none_of X G z_tuple
  have en_BadKind : ExcF K mg "BadKind" := by
    have g := PySem.W.mg_of X G xa_BadKind
    have e := clsA_of g
    exact ⟨by rw [e]; exact g, by rw [e]; exact xe_BadKind, by rw [e]; exact xk_BadKind, by rw [e]; exact xb_BadKind, by rw [e]; exact xt_BadKind⟩
  have ce_NotesError : clsA mg "NotesError" = C_NotesError := clsA_of (PySem.W.mg_of X G xa_NotesError)
  have gn_NotesError : mg "NotesError" = some (.ref (clsA mg "NotesError")) := by rw [ce_NotesError]; exact PySem.W.mg_of X G xa_NotesError
  have ce_BadKind : clsA mg "BadKind" = C_BadKind := clsA_of (PySem.W.mg_of X G xa_BadKind)
  have gn_BadKind : mg "BadKind" = some (.ref (clsA mg "BadKind")) := by rw [ce_BadKind]; exact PySem.W.mg_of X G xa_BadKind
  have ce_Stock : clsA mg "Stock" = C_Stock := clsA_of (PySem.W.mg_of X G xa_Stock)
  have gn_Stock : mg "Stock" = some (.ref (clsA mg "Stock")) := by rw [ce_Stock]; exact PySem.W.mg_of X G xa_Stock
  have rn0 : PySem.W.exmOne K (.ref (clsA mg "BadKind")) (.ref (clsA mg "BadKind")) = some true := by rw [ce_BadKind]; exact y0
  have ko_Stock : Cls K (clsA mg "Stock") := by rw [ce_Stock]; exact ⟨c1_Stock, c2_Stock, c3_Stock, c4_Stock⟩
  have fo_Stock_shapes : Fd K (clsA mg "Stock") "shapes" := ⟨ko_Stock, by rw [ce_Stock]; exact nf_Stock_shapes⟩
  have fo_Stock_above : Fd K (clsA mg "Stock") "above" := ⟨ko_Stock, by rw [ce_Stock]; exact nf_Stock_above⟩
  have fu_Stock___init__ : FunD K "__init__" "Stock.__init__" (defArgs s_Stock___init__) (defBody s_Stock___init__) (defScope s_Stock___init__) [.non] [] f_Stock___init__ _ := ⟨⟨_, _, _, _, _, _, _, _, _, _, rfl, l_Stock___init__, cc_Stock___init__, (.inr ⟨by simp, T_Stock___init__, _, _, _, rfl, dt_Stock___init__, rfl, (.cons rfl .nil)⟩), .inl rfl⟩, kp_Stock___init__⟩
  have bb_Stock___init__2 := FunD.binds1 (ps := P_Stock___init__) fu_Stock___init__ 3 1 (by simp) rfl fun T kV doc pm an cdv ct us its hl hi => by
    match us, hl, its, hi with
    | [_, _, _], _, [_], _ => exact ⟨_, rfl, rfl⟩
  have Z_Stock2 : Kz K (clsA mg "Stock") "Stock.__init__" s_Stock___init__ P_Stock___init__ [] := by rw [ce_Stock]; exact ⟨f_Stock___init__, _, _, ⟨_, _, fu_Stock___init__⟩, ⟨mk_Stock___init__, mi_Stock___init__, mf_Stock___init__, mk2_Stock___init__⟩, bb_Stock___init__2.choose_spec.2, bb_Stock___init__2.choose_spec.1⟩
  have T := (⟨bn_all, bn_dict, bn_int, bn_isinstance, bn_len, bn_range, bn_str, bn_sum, bn_tuple, cn_LONGEST_WORD, cn_MOST_PARTS, cn_MOST_WORDS, cn_SMALL, en_BadKind, gn_NotesError, gn_BadKind, gn_Stock, rn0, ko_Stock, fo_Stock_shapes, fo_Stock_above⟩ : Txt K mg)
  refine ⟨PySem.W.fnOf "law" "law" (defArgs s_law) (defBody s_law) (defScope s_law) .none kV15 dc15 pm15 an15 cd15 ct15, fun s v => .of_eq rfl, fun base _ _ => ?_⟩
  have G1 := okD__law_take (P := l.prog) (w := w) (base := base) F__law_take T
  have G2 := ok__law_cell (P := l.prog) (w := w) (base := base) F__law_cell T
  have G3 := okD__law_tape F__law_tape T G2
  have G4 := ok__law_words F__law_words T G1
  have G5 := ok__law_stock F__law_stock T G1 G4
  have I1 := ok_is_word (P := l.prog) (w := w) (base := base) F_is_word T
  have I5 := ok_sound_shapes F_sound_shapes T I1
  have I6 := ok_leads_back (P := l.prog) (w := w) (base := base) F_leads_back T
  have I7 := ok_sound_order F_sound_order T I6
  have C2 := ok_mkStock2 Z_Stock2 T I5 I7
  have L1 := (ok_cnts (P := l.prog) (w := w) (base := base) F__law_count F__law_count_rows T 4).1
  have L2 := ok_size (P := l.prog) (w := w) (base := base) F__law_size T 4
  have L3 := (ok_gens (P := l.prog) (w := w) (base := base) F_kinds_of_size F_rows_of_kinds T 4).1
  exact ok_law FL T G3 G1 G5 C2 L1 L2 L3
theorem walk {l : PySem.W.OpenLaw} {q : Program} {loose : List Str} {XP : (Str → Option Value) → Heap → Prop} {YP : World → Heap → Prop} {d : DefRec} {K : Params → PySem.W.Frag} (hn : l.most = some 63) (hdf : d.params.defaults = [])
    (hY : ∀ (w : World) (h : Heap), YP w h → (K w.params).In h)
    (F : ∀ (w : World) (mg : Str → Option Value) (fa : Addr) (h : Heap), (K w.params).In h → h.Ns mainGlobals mg → mg d.name = some (.ref fa) →
      ∃ fd : FuncData, (∀ (s : Shared) (u : Value), BindsTo s fd ⟨[u], []⟩ [("_law_script", u)]) ∧ ∀ base : Heap, (K w.params).In base → base.Ns mainGlobals mg → FnOk l.prog w (K w.params) mg base CX0 46 fa fd ["_law_script"] (spLaw (K w.params))) :
    PySem.W.WalkO q loose XP YP l.row.toRowW d [] (fun f vs => PySem.call f vs) :=
  L2.walk_of (n := 63) (k := 46) (x := "_law_script") (CX := fun _ => CX0) (sp := fun w => spLaw (K w.params)) hn (by decide) hdf ⟨rfl, by decide, by decide⟩ hY F (fun _ _ a ns hl _ hS => ⟨a, ns, rfl, hS, hl, fun _ => rfl⟩) fun _ _ _ _ _ z => z
end Kn
set_option synthInstance.maxHeartbeats 0
set_option synthInstance.maxSize 100000
set_option Elab.async false
set_option maxRecDepth 100000
set_option linter.all false
open PySem PySem.W PyProof.Rows
set_option maxRecDepth 100000 in
set_option maxHeartbeats 0 in
theorem PySem.Challenge.cw_kindnotes_k06_kinds_of_a_size_holds : PySem.Challenge.rw_kindnotes_k06_kinds_of_a_size.Holds := by
  w_on; o_law; k_head; (case hw => w_witness2)
  k_fill
  refine Kn.walk (l := PySem.Challenge.rw_kindnotes_k06_kinds_of_a_size) rfl rfl (fun w h Y => PySem.W.kIn_of Y) ?F
  case F =>
    intro w mg fa h KX G hmg
    refine' Kn.all_mk KX G hmg ?a1 ?l1 ?c1 ?k1 ?a2 ?l2 ?c2 ?k2 ?a3 ?l3 ?c3 ?k3 ?a4 ?l4 ?c4 ?k4 ?a5 ?l5 ?c5 ?k5 ?a6 ?l6 ?c6 ?k6 ?a7 ?l7 ?c7 ?k7 ?a8 ?l8 ?c8 ?k8 ?a9 ?l9 ?c9 ?k9 ?a10 ?l10 ?c10 ?k10 ?a11 ?l11 ?c11 ?k11 ?a12 ?l12 ?c12 ?k12 ?a13 ?l13 ?c13 ?k13 ?a14 ?l14 ?c14 ?k14 ?a15 ?l15 ?c15 ?k15 ?q_LONGEST_WORD ?r_LONGEST_WORD ?q_MOST_PARTS ?r_MOST_PARTS ?q_MOST_WORDS ?r_MOST_WORDS ?q_SMALL ?r_SMALL ?z_all ?z_dict ?z_int ?z_isinstance ?z_len ?z_range ?z_str ?z_sum ?z_tuple ?xa_BadKind ?xe_BadKind ?xk_BadKind ?xb_BadKind ?xt_BadKind ?xa_NotesError ?xa_Stock ?y0 ?c1_Stock ?c2_Stock ?c3_Stock ?c4_Stock ?nf_Stock_shapes ?nf_Stock_above ?l_Stock___init__ ?cc_Stock___init__ ?kp_Stock___init__ ?dt_Stock___init__ ?mk_Stock___init__ ?mi_Stock___init__ ?mf_Stock___init__ ?mk2_Stock___init__
    (case a1 => k_is)
    (case l1 => k_is)
    (case c1 => k_is)
    (case k1 => k_is)
    (case a2 => k_is)
    (case l2 => k_is)
    (case c2 => k_is)
    (case k2 => k_is)
    (case a3 => k_is)
    (case l3 => k_is)
    (case c3 => k_is)
    (case k3 => k_is)
    (case a4 => k_is)
    (case l4 => k_is)
    (case c4 => k_is)
    (case k4 => k_is)
    (case a5 => k_is)
    (case l5 => k_is)
    (case c5 => k_is)
    (case k5 => k_is)
    (case a6 => k_is)
    (case l6 => k_is)
    (case c6 => k_is)
    (case k6 => k_is)
    (case a7 => k_is)
    (case l7 => k_is)
    (case c7 => k_is)
    (case k7 => k_is)
    (case a8 => k_is)
    (case l8 => k_is)
    (case c8 => k_is)
    (case k8 => k_is)
    (case a9 => k_is)
    (case l9 => k_is)
    (case c9 => k_is)
    (case k9 => k_is)
    (case a10 => k_is)
    (case l10 => k_is)
    (case c10 => k_is)
    (case k10 => k_is)
    (case a11 => k_is)
    (case l11 => k_is)
    (case c11 => k_is)
    (case k11 => k_is)
    (case a12 => k_is)
    (case l12 => k_is)
    (case c12 => k_is)
    (case k12 => k_is)
    (case a13 => k_is)
    (case l13 => k_is)
    (case c13 => k_is)
    (case k13 => k_is)
    (case a14 => k_is)
    (case l14 => k_is)
    (case c14 => k_is)
    (case k14 => k_is)
    (case a15 => k_is)
    (case l15 => k_is)
    (case c15 => k_is)
    (case k15 => k_is)
    (case q_LONGEST_WORD => k_is)
    (case r_LONGEST_WORD => exact ⟨_, rfl⟩)
    (case q_MOST_PARTS => k_is)
    (case r_MOST_PARTS => exact ⟨_, rfl⟩)
    (case q_MOST_WORDS => k_is)
    (case r_MOST_WORDS => exact ⟨_, rfl⟩)
    (case q_SMALL => k_is)
    (case r_SMALL => exact ⟨_, rfl⟩)
    (case z_all => k_is)
    (case z_dict => k_is)
    (case z_int => k_is)
    (case z_isinstance => k_is)
    (case z_len => k_is)
    (case z_range => k_is)
    (case z_str => k_is)
    (case z_sum => k_is)
    (case z_tuple => k_is)
    (case xa_BadKind => k_is)
    (case xe_BadKind => k_exc)
    (case xk_BadKind => k_is)
    (case xb_BadKind => k_is)
    (case xt_BadKind => k_is)
    (case xa_NotesError => k_is)
    (case xa_Stock => k_is)
    (case y0 => first | k_is | rfl | decide +kernel)
    (case c1_Stock => k_is)
    (case c2_Stock => k_is)
    (case c3_Stock => k_is)
    (case c4_Stock => k_is)
    (case mi_Stock___init__ => k_is)
    (case nf_Stock_shapes => k_is)
    (case nf_Stock_above => k_is)
    (case l_Stock___init__ => k_is)
    (case cc_Stock___init__ => k_is)
    (case kp_Stock___init__ => k_is)
    (case dt_Stock___init__ => k_is)
    (case mk_Stock___init__ => k_is)
    (case mf_Stock___init__ => k_is)
    (case mk2_Stock___init__ => k_is)
#print axioms PySem.Challenge.cw_kindnotes_k06_kinds_of_a_size_holds


