import PyProof.Rows.All
import HandS.ForMost
import HandS.Exc
import HandS.ExcOwn
import HandS.WordsExc
import HandS.Comp
import HandS.Defaults
import HandS.Replace
import HandS.Flow
import HandS.TupLen
import HandS.TupMul
import HandS.TupAny
import HandS.Deep
import HandS.IsInst
import HandS.TupLe
import HandS.Style
import HandS.Zip
import HandS.Rev
import KE.GoesMore
import HandS.Star
import HandS.TryOnly
import KE.GoesEnum
import KE.KSortTupAny
import HandS.SortInts
import HandS.SortOrd
import HandS.Keys
import PyProof.Rows.SortStr
import HandS.Conv
import HandS.WideBits
import HandS.WordsDict
import HandS.Dict
import HandS.Iter
import HandS.Ends
import HandS.Head0
import HandS.Head1
import HandS.Head2
import HandS.HeadHook1
import HandS.HeadHook2
import HandS.HeadEnd
import HandS.Text
import HandS.Codes
import PyProof.Rows.StrStrike
import KE.DatumOrd
import Wide.All
import OpenK.AllK
import Wide.FinOn
import PySem.Challenge.RW_iceyards_k43_turned_yards
set_option Elab.async false
set_option linter.all false
set_option maxRecDepth 1000000
set_option maxHeartbeats 0
/-! M3, part t: the judgements, each asked only where the state has given out at least as many tokens as the entry had. -/
namespace M3
open PySem PySem.Spec PyProof.Rows L2

/-- no fewer tokens are out than at the entry -/
abbrev Tk (X : Cx) (s : Shared) : Prop := X.s_0.toks ≤ s.toks
/-- the end weakened, the count of tokens known -/
theorem tkm {α : Type} {t : Sem α} {Q Q' : α → Shared → Prop} {M : Model} {A : Around} {E : Value → Shared → Prop} {s : Shared} {k : Nat} (h : wpAny M A t Q E s) (n : k ≤ s.toks) (f : ∀ a s', k ≤ s'.toks → Q a s' → Q' a s') : wpAny M A t Q' E s :=
  wpAny_mono (wpAny_toks h) (fun a s' q => f a s' (Nat.le_trans n q.1) q.2) fun _ _ z => z.2
theorem tkF {α : Type} {t : Sem α} {Q Q' : α → Shared → Prop} {M : Model} {A : Around} {E : Value → Shared → Prop} {s : Shared} {k : Nat} (h : wpAny M A t Q (fun _ _ => False) s) (n : k ≤ s.toks) (f : ∀ a s', k ≤ s'.toks → Q a s' → Q' a s') : wpAny M A t Q' E s :=
  wpAny_mono (wpAny_toks h) (fun a s' q => f a s' (Nat.le_trans n q.1) q.2) fun _ _ z => False.elim z.2

structure PE (X : Cx) (e : Expr) (t : TE) : Prop where
  run : ∀ (pins : List (Addr × Obj)) (s : Shared) (σ : L2.St) (H : Hp) (Q : VK), Tk X s → Inv X pins σ H s → t σ H Q → wpAny (model X.prog X.w) X.A (eval e X.env) (EP X pins σ Q) X.xe s
structure PT (X : Cx) (e : Expr) (t : TT) : Prop where
  run : ∀ (pins : List (Addr × Obj)) (s : Shared) (σ : L2.St) (H : Hp) (Q : Bool → Hp → Prop), Tk X s → Inv X pins σ H s → t σ H Q → wpAny (model X.prog X.w) X.A (isTrue e X.env (eval e X.env)) (TP X pins σ Q) X.xe s
structure PW (X : Cx) (e : Expr) (t : TT) : Prop where
  run : ∀ (whole : Sem Value) (pins : List (Addr × Obj)) (s : Shared) (σ : L2.St) (H : Hp) (Q : Bool → Hp → Prop), Tk X s → Inv X pins σ H s → t σ H Q → wpAny (model X.prog X.w) X.A (isTrue e X.env whole) (TP X pins σ Q) X.xe s
structure PA (X : Cx) (es : List Expr) (t : TA) : Prop where
  run : ∀ (pos : Pos) (pins : List (Addr × Obj)) (s : Shared) (σ : L2.St) (H : Hp) (Q : List V → Hp → Prop), Tk X s → Inv X pins σ H s → t σ H Q → wpAny (model X.prog X.w) X.A (spliced (backTo pos (starEach es X.env))) (AP X pins σ Q) X.xe s
structure PK (X : Cx) (kws : List Keyword) (t : TA) : Prop where
  run : ∀ (pos : Pos) (pins : List (Addr × Obj)) (s : Shared) (σ : L2.St) (H : Hp) (Q : List V → Hp → Prop), Tk X s → Inv X pins σ H s → t σ H Q → wpAny (model X.prog X.w) X.A (evalAll ((backToKw pos (keywordEach kws X.env)).map (·.2))) (AP X pins σ Q) X.xe s
structure PO (X : Cx) (e : Option Expr) (t : TO) : Prop where
  run : ∀ (pins : List (Addr × Obj)) (s : Shared) (σ : L2.St) (H : Hp) (Q : Option Int → Hp → Prop), Tk X s → Inv X pins σ H s → t σ H Q →
    wpAny (model X.prog X.w) X.A (evalPart e X.env) (fun u s' => ∃ o H', Inv X pins σ H' s' ∧ IsPart u o ∧ Q o H') X.xe s
structure PS (X : Cx) (st : Stmt) (t : TS) : Prop where
  run : ∀ (pins : List (Addr × Obj)) (s : Shared) (σ : L2.St) (H : Hp) (D : Ends), Tk X s → Inv X pins σ H s → t D σ H → wpAny (model X.prog X.w) X.A (exec st X.env) (SP X pins D) X.xe s
structure PSs (X : Cx) (st : List Stmt) (t : TS) : Prop where
  run : ∀ (pins : List (Addr × Obj)) (s : Shared) (σ : L2.St) (H : Hp) (D : Ends), Tk X s → Inv X pins σ H s → t D σ H → wpAny (model X.prog X.w) X.A (execs st X.env) (SP X pins D) X.xe s
structure PG (X : Cx) (target : Expr) (t : TG) : Prop where
  run : ∀ (pins : List (Addr × Obj)) (s : Shared) (σ : L2.St) (H : Hp) (v : V) (u : Value) (Q : L2.St → Hp → Prop), Tk X s → Inv X pins σ H s → RelV v u → t v σ H Q →
    wpAny (model X.prog X.w) X.A (assign target X.env u) (fun _ s' => ∃ σ' H', Inv X pins σ' H' s' ∧ Q σ' H') X.xe s
structure PGs (X : Cx) (ts : List Expr) (t : TGs) : Prop where
  run : ∀ (pins : List (Addr × Obj)) (s : Shared) (σ : L2.St) (H : Hp) (vs : List V) (us : List Value) (Q : L2.St → Hp → Prop), Tk X s → Inv X pins σ H s → Vals vs us → t vs σ H Q →
    wpAny (model X.prog X.w) X.A (assignInOrder ((assignEach ts X.env).map (·.2)) us) (fun _ s' => ∃ σ' H', Inv X pins σ' H' s' ∧ Q σ' H') X.xe s
structure PI (X : Cx) (tg iter : Expr) (wi : TI) : Prop where
  run : ∀ (pins : List (Addr × Obj)) (s : Shared) (σ : L2.St) (H : Hp) (R : It → Hp → Prop), Tk X s → Inv X pins σ H s → wi σ H R →
    wpAny (model X.prog X.w) X.A (eval iter X.env) (fun v s1 => wpAny (model X.prog X.w) X.A (pyIter v) (PIE X pins σ tg R) X.xe s1) X.xe s
structure PTs (X : Cx) (ifs : List Expr) (t : TT) : Prop where
  run : ∀ (pins : List (Addr × Obj)) (s : Shared) (σ : L2.St) (H : Hp) (Q : Bool → Hp → Prop), Tk X s → Inv X pins σ H s → t σ H Q →
    wpAny (model X.prog X.w) X.A (forIn ifs true fun c r => if r = true then do let ok ← isTrue c X.env (eval c X.env); pure (ForInStep.yield ok) else pure (ForInStep.yield r)) (TP X pins σ Q) X.xe s

section
variable {X : Cx} {e : Expr} {te : TE} {tt : TT} {ts : TS} {st : Stmt} {sts : List Stmt}
theorem PE.up (h : L2.PE X e te) : PE X e te := ⟨fun pins s σ H Q _ I q => h.run pins s σ H Q I q⟩
theorem PT.up (h : L2.PT X e tt) : PT X e tt := ⟨fun pins s σ H Q _ I q => h.run pins s σ H Q I q⟩
theorem PS.up (h : L2.PS X st ts) : PS X st ts := ⟨fun pins s σ H D _ I q => h.run pins s σ H D I q⟩
theorem PG.up {t : TG} (h : L2.PG X e t) : PG X e t := ⟨fun pins s σ H v u Q _ I r q => h.run pins s σ H v u Q I r q⟩
theorem PW.pt (h : PW X e tt) : PT X e tt := ⟨h.run _⟩
variable {pins : List (Addr × Obj)} {σ : L2.St} {H : Hp} {s : Shared}
theorem PE.go (h : PE X e te) {Q : VK} {Q' : Value → Shared → Prop} (n : Tk X s) (I : Inv X pins σ H s) (q : te σ H Q) (k : ∀ v s1 x H1, Tk X s1 → Inv X pins σ H1 s1 → RelV x v → Q x H1 → Q' v s1) : wpAny (model X.prog X.w) X.A (eval e X.env) Q' X.xe s :=
  tkm (h.run pins s σ H Q n I q) n fun v s1 n1 ⟨x, H1, I1, r1, q1⟩ => k v s1 x H1 n1 I1 r1 q1
theorem PT.go (h : PT X e tt) {Q : Bool → Hp → Prop} {Q' : Bool → Shared → Prop} (n : Tk X s) (I : Inv X pins σ H s) (q : tt σ H Q) (k : ∀ b s1 H1, Tk X s1 → Inv X pins σ H1 s1 → Q b H1 → Q' b s1) : wpAny (model X.prog X.w) X.A (isTrue e X.env (eval e X.env)) Q' X.xe s :=
  tkm (h.run pins s σ H Q n I q) n fun b s1 n1 ⟨H1, I1, q1⟩ => k b s1 H1 n1 I1 q1
theorem PA.go {es : List Expr} {ta : TA} (h : PA X es ta) {pos : Pos} {Q : List V → Hp → Prop} {Q' : List Value → Shared → Prop} (n : Tk X s) (I : Inv X pins σ H s) (q : ta σ H Q) (k : ∀ us s1 vs H1, Tk X s1 → Inv X pins σ H1 s1 → Vals vs us → Q vs H1 → Q' us s1) :
    wpAny (model X.prog X.w) X.A (spliced (backTo pos (starEach es X.env))) Q' X.xe s :=
  tkm (h.run pos pins s σ H Q n I q) n fun us s1 n1 ⟨vs, H1, I1, r1, q1⟩ => k us s1 vs H1 n1 I1 r1 q1
theorem PO.go {o : Option Expr} {to : TO} (h : PO X o to) {Q : Option Int → Hp → Prop} {Q' : Value → Shared → Prop} (n : Tk X s) (I : Inv X pins σ H s) (q : to σ H Q) (k : ∀ u s1 x H1, Tk X s1 → Inv X pins σ H1 s1 → IsPart u x → Q x H1 → Q' u s1) :
    wpAny (model X.prog X.w) X.A (evalPart o X.env) Q' X.xe s :=
  tkm (h.run pins s σ H Q n I q) n fun u s1 n1 ⟨x, H1, I1, r1, q1⟩ => k u s1 x H1 n1 I1 r1 q1
end

/-! ### truth, dicts with tuples for keys too -/
section
open PySem.Sem (wp)
variable {prog : Program} {w : World} {K : Type} [DecidableEq K] {knd : HeapKind prog w K} {A : Around} {E : Value → Shared → Prop} {s : Shared}
theorem truthy_dictH {d : Addr} {xs : List (K × Addr × Value)} {Q : Bool → Shared → Prop} (hd : (d == sysModules) = false) (hm : s.heap.DictOfH knd d xs) (hfit : (xs.length : Int) < 2 ^ 63)
    (h : Q (!xs.isEmpty) { s with toks := s.toks + 1 + 1 }) : wpAny (model prog w) A (truthy (.ref d)) Q E s := by
  have hne : ((xs.length : Int) != 0) = !xs.isEmpty := by cases xs <;> simp <;> omega
  have key : wpAny (model prog w) A (runValue (.builtin "len" ⟨[.ref d], []⟩)) (fun r s' => r = .int xs.length (s.toks + 1) ∧ Q (!xs.isEmpty) s') E s := by
    refine wpAny_runValue (codeAny_builtin entry_len ?_)
    rw [Around.under_plainId plain_len _]
    exact wpAny_mono (wpAny_len_body_dictH (Q := fun r s' => r = .int xs.length (s.toks + 1) ∧ Q (!xs.isEmpty) s') hd hm hfit ⟨rfl, h⟩) (fun fin s' h' => by obtain ⟨r, rfl, hq⟩ := h'; exact hq) fun _ _ e => e
  unfold truthy
  refine wpAny_bind (wpAny_callSpecial?_none (name := Str.ofString "__bool__") hm.typeIs noBool_dict ?_)
  refine wpAny_bind (wpAny_specialOf (name := Str.ofString "__len__") hm.typeIs F.slot_dict_len.lookup ?_)
  exact wpAny_bind (wpAny_mono key (fun r s' h' => by obtain ⟨rfl, hq⟩ := h'; exact wpAny_pure (hne ▸ hq)) fun _ _ e => e)
end
def TruX (K : PySem.W.Frag) (x : V) (H : Hp) (k : Bool) : Prop := TruV K x H k ∨ (∃ (p : Addr) (kvs : List (Key × V)), x = .ref p ∧ Rd H p (.dK kvs) ∧ k = !kvs.isEmpty) ∨ ∃ (p : Addr) (kvs : List (List Key × V)), x = .ref p ∧ Rd H p (.dT kvs) ∧ k = !kvs.isEmpty
theorem trux_ok {X : Cx} (pins : List (Addr × Obj)) (s : Shared) (σ : L2.St) (H : Hp) (x : V) (v : Value) (Q : Bool → Hp → Prop) (I : Inv X pins σ H s) (r : RelV x v) (h : ∃ k, TruX X.K x H k ∧ Q k H) : wpAny (model X.prog X.w) X.A (truthy v) (TP X pins σ Q) X.xe s := by
  obtain ⟨k, h | ⟨p, kvs, rfl, hp, rfl⟩ | ⟨p, kvs, rfl, hp, rfl⟩, q⟩ := h
  · exact tru_ok pins s σ H x v Q I r ⟨k, h, q⟩
  · obtain rfl : v = .ref p := r
    exact d_truth I hp fun s' I' => ⟨H, I', q⟩
  · obtain rfl : v = .ref p := r
    obtain ⟨z, hd, ys, rel, dd⟩ := dt_rd I.hok hp
    have hl : kvs.length = ys.length := Paired.length rel
    have e : kvs.isEmpty = ys.isEmpty := by cases rel <;> rfl
    exact truthy_dictH hd dd (by rw [← hl]; rw [sizeLine_eq] at z; omega) ⟨H, I.tok _, by rw [← e]; exact q⟩
def tOrT (K : PySem.W.Frag) (ta tb : TE) : TE := fun σ H Q => ta σ H fun x H1 => ∃ k, TruX K x H1 k ∧ if k = true then Q x H1 else tb σ H1 Q
def tAndT (K : PySem.W.Frag) (ta tb : TE) : TE := fun σ H Q => ta σ H fun x H1 => ∃ k, TruX K x H1 k ∧ if k = true then tb σ H1 Q else Q x H1
def tNotT (K : PySem.W.Frag) (ta : TE) : TE := fun σ H Q => ta σ H fun x H1 => ∃ k, TruX K x H1 k ∧ Q (.bl (!k)) H1

/-! ### names, constants, argument lists, displays -/
section
variable {X : Cx} {e : Expr} {es : List Expr} {te : TE} {t : TA} {pos : Pos}
theorem pe_var {i : Nat} {x : Str} (hN : X.N[i]? = some x) (hv : Vis X.env.scope x) (hd : (x == ("__debug__" : Str)) = false := by decide) (hcd : (x == ("__classdict__" : Str)) = false := by decide) : PE X (.Name x pos) (tVar i) := .up (L2.pe_var hN hv hd hcd)
theorem pe_int {i j} : PE X (.Constant (.int i) j pos) (tC (.int i)) := .up L2.pe_int
theorem pe_bl {b j} : PE X (.Constant (.bool b) j pos) (tC (.bl b)) := .up L2.pe_bl
theorem pe_non {j} : PE X (.Constant .none j pos) (tC .non) := .up L2.pe_non
theorem pe_str {x j} : PE X (.Constant (.str x) j pos) (tC (.str x)) := .up L2.pe_str
theorem pe_glob {x : Str} {v : V} {u : Value} (hg : Gl X x) (hm : X.mg x = some u) (r : RelV v u) (hd : (x == ("__debug__" : Str)) = false := by decide) : PE X (.Name x pos) (tC v) := .up (L2.pe_glob hg hm r hd)
theorem pa_nil : PA X [] tNil := ⟨fun pos pins s σ H Q _ I h => L2.pa_nil.run pos pins s σ H Q I h⟩
theorem pa_cons (ha : PE X e te) (hr : PA X es t) (hs : starEach (e :: es) X.env = (false, eval e X.env) :: starEach es X.env := by rfl) : PA X (e :: es) (tCons te t) := by
  refine ⟨fun pos pins s σ H Q n I h => ?_⟩
  rw [hs]
  refine Calls.spliced_cons (ha.go n I h fun u s1 x H1 n1 I1 r1 q1 => ?_)
  exact hr.go n1 I1 q1 fun us s2 xs H2 n2 I2 r2 q2 => ⟨x :: xs, H2, I2, .cons r1 r2, q2⟩
theorem pk_nil : PK X [] tNil := ⟨fun pos pins s σ H Q _ I h => L2.pk_nil.run pos pins s σ H Q I h⟩
theorem pk_cons {kws : List Keyword} {nm : Option Str} {kpos : Pos} (ha : PE X e te) (hr : PK X kws t) : PK X (⟨nm, e, kpos⟩ :: kws) (tCons te t) := by
  refine ⟨fun pos pins s σ H Q n I h => ?_⟩
  show wpAny _ _ (evalAll ((do let v ← eval e X.env; standAt pos; pure v) :: (backToKw pos (keywordEach kws X.env)).map (·.2))) _ _ s
  refine wpAny_evalAll_cons (wpAny_bind (ha.go n I h fun u s1 x H1 n1 I1 r1 q1 => wpAny_bind (wpAny_standAt (wpAny_pure ?_))))
  exact tkm (hr.run pos pins s1 σ H1 _ n1 I1 q1) n1 fun us s2 _ ⟨xs, H2, I2, r2, q2⟩ => ⟨x :: xs, H2, I2, .cons r1 r2, q2⟩
theorem pe_tup {k} (h : PA X es t) : PE X (.Tuple es k pos) (tTup t) := by
  refine ⟨fun pins s σ H Q n I hq => wpAny_Tuple_spliced (h.go n I hq fun us s1 xs H1 n1 I1 r q1 => ?_)⟩
  obtain ⟨z, q⟩ := q1
  refine ⟨r.length ▸ z, .ref _, _, I1.laid (t' := s1.toks) (o := .tup xs) (fun b u e => Heap.get?_push_of_some _ e) (Nat.le_refl _) ?_, rfl, q _ (I1.hok.fresh (Nat.le_refl _))⟩
  exact ⟨z, us, r, ⟨_, Heap.get?_push_size _ rfl, rfl, _, rfl⟩⟩
theorem pe_lst (h : PA X es t) : PE X (.List es pos) (tLst t) := by
  refine ⟨fun pins s σ H Q n I hq => wpAny_List_spliced (h.go n I hq fun us s1 xs H1 n1 I1 r q1 => ?_)⟩
  obtain ⟨z, q⟩ := q1
  refine ⟨r.length ▸ z, .ref _, _, I1.laid (t' := s1.toks) (o := .lst xs) (fun b u e => Heap.get?_push_of_some _ e) (Nat.le_refl _) ?_, rfl, q _ (I1.hok.fresh (Nat.le_refl _))⟩
  exact ⟨z, us, 0, r, Heap.get?_push_size _ rfl⟩
end

/-! ### operators, comparisons, subscripts, slices -/
section
variable {X : Cx} {a b c : Expr} {ta tb tc : TE} {pos : Pos}
theorem bin2 (ha : PE X a ta) (hb : PE X b tb) {pins : List (Addr × Obj)} {s : Shared} {σ : L2.St} {H : Hp} {R : V → V → Hp → Prop} {β : Type} {Q : β → Shared → Prop} {f : Value → Value → Sem β} (n : Tk X s) (I : Inv X pins σ H s)
    (h : ta σ H fun x H1 => tb σ H1 fun y H2 => R x y H2) (hf : ∀ v u s2 x y H2, Tk X s2 → Inv X pins σ H2 s2 → RelV x v → RelV y u → R x y H2 → wpAny (model X.prog X.w) X.A (f v u) Q X.xe s2) :
    wpAny (model X.prog X.w) X.A (eval a X.env) (fun v s₁ => wpAny (model X.prog X.w) X.A (eval b X.env) (fun u s₂ => wpAny (model X.prog X.w) X.A (f v u) Q X.xe s₂) X.xe s₁) X.xe s :=
  ha.go n I h fun v s1 x H1 n1 I1 r1 q1 => hb.go n1 I1 q1 fun u s2 y H2 n2 I2 r2 q2 => hf v u s2 x y H2 n2 I2 r1 r2 q2
theorem pe_op {op : Operator} {r : R2} (ho : OpR X (binaryOp op) r) (ha : PE X a ta) (hb : PE X b tb) : PE X (.BinOp a op b pos) (tOp r ta tb) :=
  ⟨fun pins s σ H Q n I h => wpAny_BinOp (bin2 ha hb n I h fun v u s2 x y H2 _ I2 rx ry q => ho pins s2 σ H2 x y v u Q I2 rx ry q)⟩
theorem pe_un {op : UnaryOp} {r : V → Hp → VK → Prop} (ho : UnR X (unaryOp op) r) (ha : PE X a ta) : PE X (.UnaryOp op a pos) (tUn r ta) :=
  ⟨fun pins s σ H Q n I h => UnaryOp_ (ha.go n I h fun v s1 x H1 _ I1 r1 q1 => ho pins s1 σ H1 x v Q I1 r1 q1)⟩
theorem pe_cmpR {op : CmpOp} {r : R2} (ho : OpR X (compareOp op) r) (ha : PE X a ta) (hb : PE X b tb) (hm : behindInMarks op b = false) : PE X (.Compare a [op] [b] pos) (tOp r ta tb) :=
  ⟨fun pins s σ H Q n I h => wpAny_Compare1 (bin2 ha hb n I h fun v u s2 x y H2 _ I2 rx ry q => ho pins s2 σ H2 x y v u Q I2 rx ry q) hm⟩
theorem pt_cmpR {op : CmpOp} {r : R2} (ho : OpR X (compareOp op) r) (ha : PE X a ta) (hb : PE X b tb) (hm : behindInMarks op b = false) : PT X (.Compare a [op] [b] pos) (tTest (tOp r ta tb)) := by
  refine ⟨fun pins s σ H Q n I h => wpAny_isTrue_Compare1 (bin2 ha hb n I h fun v u s2 x y H2 _ I2 rx ry q => ?_) hm⟩
  refine thn (ho pins s2 σ H2 x y v u _ I2 rx ry q) fun d s3 ⟨z, H3, I3, r3, k, e, q3⟩ => ?_
  subst e
  cases r3
  exact wpAny_truthy_bool ⟨H3, I3, q3⟩
theorem pe_chain {op op' : CmpOp} {r r' : R2} (ho : OpR X (compareOp op) r) (ho' : OpR X (compareOp op') r') (ha : PE X a ta) (hb : PE X b tb) (hc : PE X c tc)
    (hm : lastMarks [op, op'] [b, c] = false := by with_unfolding_all rfl) : PE X (.Compare a [op, op'] [b, c] pos) (tChain r r' ta tb tc) := by
  refine ⟨fun pins s σ H Q n I h => ?_⟩
  refine Compare_chain (ha.go n I h fun v s1 x H1 n1 I1 r1 q1 => chain_link (hb.go n1 I1 q1 fun u s2 y H2 n2 I2 r2 q2 => ?_)) hm
  refine tkm (ho pins s2 σ H2 x y v u _ I2 r1 r2 q2) n2 fun d s3 n3 ⟨z, H3, I3, r3, k, e, q3⟩ => ?_
  subst e
  cases r3
  refine wpAny_truthy_bool ?_
  cases k with
  | false => exact ite_ff ⟨.bl false, H3, I3, rfl, q3⟩
  | true => exact ite_tt (chain_last (hc.go n3 I3 q3 fun w' s4 z' H4 _ I4 r4 q4 => ho' pins s4 σ H4 y z' u w' Q I4 r2 r4 q4))
theorem pt_chain {op op' : CmpOp} {r r' : R2} (ho : OpR X (compareOp op) r) (ho' : OpR X (compareOp op') r') (ha : PE X a ta) (hb : PE X b tb) (hc : PE X c tc)
    (hm : lastMarks [op, op'] [b, c] = false := by with_unfolding_all rfl) : PT X (.Compare a [op, op'] [b, c] pos) (tTest (tChain r r' ta tb tc)) := by
  refine ⟨fun pins s σ H Q n I h => ?_⟩
  refine isTrue_chain (ha.go n I h fun v s1 x H1 n1 I1 r1 q1 => test_link (hb.go n1 I1 q1 fun u s2 y H2 n2 I2 r2 q2 => ?_)) hm
  refine tkm (ho pins s2 σ H2 x y v u _ I2 r1 r2 q2) n2 fun d s3 n3 ⟨z, H3, I3, r3, k, e, q3⟩ => ?_
  subst e
  cases r3
  refine wpAny_truthy_bool ?_
  cases k with
  | false =>
    obtain ⟨k', e', q'⟩ := q3
    cases e'
    exact ite_ff ⟨H3, I3, q'⟩
  | true =>
    refine ite_tt (test_last (hc.go n3 I3 q3 fun w' s4 z' H4 n4 I4 r4 q4 => thn (ho' pins s4 σ H4 y z' u w' _ I4 r2 r4 q4) fun d s5 ⟨z, H5, I5, r5, k, e, q5⟩ => ?_))
    subst e
    cases r5
    exact wpAny_truthy_bool ⟨H5, I5, q5⟩
theorem pt_truth (ha : PE X a ta) (he : ∀ whole, isTrue a X.env whole = (do let v ← whole; standAt a.pos; holding [v] (truthy v))) :
    PT X a (fun σ H Q => ta σ H fun x H' => ∃ k, TruX X.K x H' k ∧ Q k H') :=
  ⟨fun pins s σ H Q n I h => isTrue_plain (ha.go n I h fun v s1 x H1 _ I1 r1 q1 => trux_ok pins s1 σ H1 x v Q I1 r1 q1) (he _)⟩
theorem pe_ix {r : R2} (hr : IxR X r) (ha : PE X a ta) (hb : PE X b tb) (hs : PlainIx b) : PE X (.Subscript a b pos) (tOp r ta tb) :=
  ⟨fun pins s σ H Q n I h => Subscript_ (bin2 ha hb n I h fun v u s2 x y H2 _ I2 rx ry q => hr a b pins s2 σ H2 x y v u Q I2 rx ry q (hs _ _))⟩
theorem po_none : PO X none tNoPart := ⟨fun pins s σ H Q _ I h => L2.po_none.run pins s σ H Q I h⟩
theorem po_some (h : PE X a ta) : PO X (some a) (tPart ta) := by
  refine ⟨fun pins s σ H Q n I hw => ?_⟩
  rw [evalPart_some]
  refine h.go n I hw fun u s1 x H1 _ I1 r1 q1 => ?_
  obtain ⟨i, rfl, q⟩ := q1
  obtain ⟨t, rfl⟩ := r1
  exact ⟨some i, H1, I1, .int i t, q⟩
theorem pe_slice {r : V → Option Int → Option Int → Hp → VK → Prop} {lo hi : Option Expr} {tl th : TO} {p2 : Pos} (hr : SlR X r) (he : PE X a ta) (hl : PO X lo tl) (hu : PO X hi th) : PE X (.Subscript a (.Slice lo hi none p2) pos) (tSl r ta tl th) := by
  refine ⟨fun pins s σ H Q n I h => ?_⟩
  refine Subscript_ (he.go n I h fun v s1 x H1 n1 I1 r1 q1 => wpAny_Slice (hl.go n1 I1 q1 fun vl s2 l H2 n2 I2 pl q2 => hu.go n2 I2 q2 fun vu s3 u H3 n3 I3 pu q3 => ?_))
  rw [evalPart_none]
  refine wpAny_pure ?_
  have I4 : Inv X pins σ H3 { s3 with heap := s3.heap.push { cls := .type "slice", data := .fields #[vl, vu, .none] } } := I3.kept (t' := s3.toks) fun b ob q => Heap.get?_push_of_some _ q
  obtain ⟨T, id, hT, ht, hg⟩ := hr pins { s3 with heap := s3.heap.push { cls := .type "slice", data := .fields #[vl, vu, .none] } } σ H3 x v vl vu l u s3.heap.objs.size Q I4 r1 (Heap.IsSliceOf.new ..) pl pu q3
  show wpAny (model X.prog X.w) X.A (subscriptTail a (.Slice lo hi none p2) v (.ref s3.heap.objs.size)) (EP X pins σ Q) X.xe { s3 with heap := s3.heap.push { cls := .type "slice", data := .fields #[vl, vu, .none] } }
  exact tail_any (ops := [.ref s3.heap.objs.size, v]) ht hT hg (by with_unfolding_all rfl)
end

/-! ### and, or, not, if -/
section
variable {X : Cx} {a b c : Expr} {ta tb : TE} {tA tB : TT} {rest : List Expr} {pos : Pos}
theorem pw_and1 (ha : PT X a tA) : PW X (.BoolOp .And [a] pos) tA := by
  refine ⟨fun wh pins s σ H Q n I h => isTrue_and (thn (ha.run pins s σ H Q n I h) fun c s1 e => ?_)⟩
  cases c with
  | true => exact isTrue_and_nil e
  | false => exact e
theorem pw_or1 (ha : PT X a tA) : PW X (.BoolOp .Or [a] pos) tA := by
  refine ⟨fun wh pins s σ H Q n I h => isTrue_or (thn (ha.run pins s σ H Q n I h) fun c s1 e => ?_)⟩
  cases c with
  | false => exact isTrue_or_nil e
  | true => exact e
theorem pw_and (ha : PT X a tA) (hb : PW X (.BoolOp .And (b :: rest) pos) tB) : PW X (.BoolOp .And (a :: b :: rest) pos) (tAnd tA tB) := by
  refine ⟨fun wh pins s σ H Q n I h => isTrue_and (ha.go n I h fun c s1 H1 n1 I1 q1 => ?_)⟩
  cases c with
  | true => exact hb.run wh pins s1 σ H1 Q n1 I1 q1
  | false => exact ⟨H1, I1, q1⟩
theorem pw_or (ha : PT X a tA) (hb : PW X (.BoolOp .Or (b :: rest) pos) tB) : PW X (.BoolOp .Or (a :: b :: rest) pos) (tOr tA tB) := by
  refine ⟨fun wh pins s σ H Q n I h => isTrue_or (ha.go n I h fun c s1 H1 n1 I1 q1 => ?_)⟩
  cases c with
  | true => exact ⟨H1, I1, q1⟩
  | false => exact hb.run wh pins s1 σ H1 Q n1 I1 q1
theorem pt_not (ha : PT X a tA) : PT X (.UnaryOp .Not a pos) (tNot tA) := ⟨fun pins s σ H Q n I h => isTrue_not (ha.run pins s σ H (fun c H1 => Q (!c) H1) n I h)⟩
theorem pe_one {op} {t : TE} (h : PE X a t) : PE X (.BoolOp op [a] pos) t := ⟨fun pins s σ H Q n I hw => BoolOp_one (h.run pins s σ H Q n I hw)⟩
/-- the truth of a value, the heap as it was -/
theorem tru_at {pins : List (Addr × Obj)} {s : Shared} {σ : L2.St} {H : Hp} {x : V} {v : Value} {k : Bool} {Q : Bool → Shared → Prop} {E : Value → Shared → Prop} (n : Tk X s) (I : Inv X pins σ H s) (r : RelV x v) (h : TruX X.K x H k) (f : ∀ s', Tk X s' → Inv X pins σ H s' → Q k s') (hE : E = X.xe) :
    wpAny (model X.prog X.w) X.A (truthy v) Q E s := by
  subst hE
  refine tkm (trux_ok pins s σ H x v (fun c H2 => c = k ∧ H2 = H) I r ⟨k, h, rfl, rfl⟩) n fun c s2 n2 ⟨H2, I2, e1, e2⟩ => ?_
  subst e1
  rw [e2] at I2
  exact f s2 n2 I2
theorem pe_orT (ha : PE X a ta) (hb : PE X (.BoolOp .Or (b :: rest) pos) tb) : PE X (.BoolOp .Or (a :: b :: rest) pos) (tOrT X.K ta tb) := by
  refine ⟨fun pins s σ H Q n I h => BoolOp_or (ha.go n I h fun v s1 x H1 n1 I1 r1 ⟨k, e, q1⟩ => tru_at n1 I1 r1 e (fun s2 n2 I2 => ?_) rfl)⟩
  cases k with
  | true => exact ⟨x, H1, I2, r1, q1⟩
  | false => exact hb.run pins s2 σ H1 Q n2 I2 q1
theorem pe_andT (ha : PE X a ta) (hb : PE X (.BoolOp .And (b :: rest) pos) tb) : PE X (.BoolOp .And (a :: b :: rest) pos) (tAndT X.K ta tb) := by
  refine ⟨fun pins s σ H Q n I h => BoolOp_and (ha.go n I h fun v s1 x H1 n1 I1 r1 ⟨k, e, q1⟩ => tru_at n1 I1 r1 e (fun s2 n2 I2 => ?_) rfl)⟩
  cases k with
  | true => exact hb.run pins s2 σ H1 Q n2 I2 q1
  | false => exact ⟨x, H1, I2, r1, q1⟩
theorem pe_notT (ha : PE X a ta) : PE X (.UnaryOp .Not a pos) (tNotT X.K ta) :=
  ⟨fun pins s σ H Q n I h => UnaryOp_ (ha.go n I h fun v s1 x H1 n1 I1 r1 ⟨k, e, q1⟩ => not_of (tru_at n1 I1 r1 e (fun s2 _ I2 => ⟨.bl (!k), H1, I2, rfl, q1⟩) rfl))⟩
theorem pe_ifExp (hc : PT X c tA) (ha : PE X a ta) (hb : PE X b tb) : PE X (.IfExp c a b pos) (tIf tA ta tb) := by
  refine ⟨fun pins s σ H Q n I h => wpAny_IfExp (hc.go n I h fun d s1 H1 n1 I1 q1 => ?_)⟩
  cases d with
  | true => exact ha.run pins s1 σ H1 Q n1 I1 q1
  | false => exact hb.run pins s1 σ H1 Q n1 I1 q1
end

/-! ### statements, targets -/
section
variable {X : Cx} {st : Stmt} {rest : List Stmt} {t u : TS} {e : Expr} {te : TE} {pos : Pos}
theorem pss_nil : PSs X [] tNext := ⟨fun _ _ σ H _ _ I h => wpAny_execs_nil ⟨σ, H, I, h⟩⟩
theorem pss_cons (h1 : PS X st t) (h2 : PSs X rest u) : PSs X (st :: rest) (tSeq t u) := by
  refine ⟨fun pins s σ H D n I h => wpAny_execs_cons (tkm (h1.run pins s σ H { D with nx := u D } n I h) n fun f s1 n1 q => ?_)⟩
  cases f with
  | next => obtain ⟨σ', H', I', q⟩ := q; exact h2.run pins s1 σ' H' D n1 I' q
  | ret v => exact q
  | brk => exact q
  | cont => exact q
theorem pss_one (h1 : PS X st t) : PSs X [st] t := by
  refine ⟨fun pins s σ H D n I h => wpAny_execs_cons (thn (h1.run pins s σ H D n I h) fun f s1 q => ?_)⟩
  cases f with
  | next => exact wpAny_execs_nil q
  | ret v => exact q
  | brk => exact q
  | cont => exact q
theorem ps_pass : PS X (.Pass pos) tNext := .up L2.ps_pass
theorem ps_break : PS X (.Break pos) tBreak := .up L2.ps_break
theorem ps_continue : PS X (.Continue pos) tCont := .up L2.ps_continue
theorem ps_retN : PS X (.Return none pos) tRetN := .up L2.ps_retN
theorem ps_expr (he : PE X e te) (hs : swapsWith e none pos.line X.env = pure false := by rfl) : PS X (.Expr e pos) (tDrop te) :=
  ⟨fun pins s σ H D n I h => wpAny_Expr_any (he.go n I h fun v s1 x H1 _ I1 r1 q1 => ⟨σ, H1, I1, q1⟩) I.quiet hs⟩
theorem ps_ret (he : PE X e te) : PS X (.Return (some e) pos) (tRet te) :=
  ⟨fun pins s σ H D n I h => wpAny_Return_some (he.go n I h fun v s1 x H1 _ I1 r1 q1 => ⟨x, σ, H1, I1, r1, q1⟩)⟩
theorem ps_if {c : Expr} {a b : List Stmt} {tc : TT} (hc : PT X c tc) (ha : PSs X a t) (hb : PSs X b u) : PS X (.If c a b pos) (tIfS tc t u) := by
  refine ⟨fun pins s σ H D n I h => wpAny_If (hc.go n I h fun d s1 H1 n1 I1 q1 => ?_)⟩
  cases d with
  | true => exact ha.run pins s1 σ H1 D n1 I1 q1
  | false => exact hb.run pins s1 σ H1 D n1 I1 q1
theorem pg_name {i : Nat} {x : Str} (hN : X.N.Nodup) (hi : X.N[i]? = some x) (hx : Loc X.env.scope x) (hf : X.fn x = true ∨ X.env.scope.names.lookup x = some .local := by first | exact .inl rfl | exact .inr rfl | assumption) : PG X (.Name x pos) (gName i) := .up (L2.pg_name hN hi hx hf)
theorem pgs_nil : PGs X [] gNil := ⟨fun pins s σ H vs us Q _ I r h => L2.pgs_nil.run pins s σ H vs us Q I r h⟩
theorem pgs_cons {es : List Expr} {g : TG} {gs : TGs} (h1 : PG X e g) (h2 : PGs X es gs)
    (hs : (assignEach (e :: es) X.env).map (·.2) = assign e X.env :: (assignEach es X.env).map (·.2) := by rfl) : PGs X (e :: es) (gCons g gs) := by
  refine ⟨fun pins s σ H vs us Q n I r h => ?_⟩
  obtain ⟨v, vr, e1, h⟩ := h
  subst e1
  cases r with
  | cons r rr =>
    rw [hs]
    exact assignInOrder_cons (tkm (h1.run pins s σ H _ _ _ n I r h) n fun _ s1 n1 ⟨σ1, H1, I1, q1⟩ => h2.run pins s1 σ1 H1 _ _ Q n1 I1 rr q1)
theorem pg_tup {es : List Expr} {k : Nat} {gs : TGs} {m : Nat} (hc : X.calm = true) (h : PGs X es gs)
    (hn : (assignEach es X.env).length = m := by rfl) (hst : (assignEach es X.env).findIdx? (·.1) = none := by rfl) : PG X (.Tuple es k pos) (gTup X.K m gs) := by
  refine ⟨fun pins s σ H v u Q n I r hw => ?_⟩
  obtain ⟨a, xs, e1, hq, hl, hw⟩ := hw
  subst e1
  cases r
  obtain ⟨its, rv, ht, hz⟩ := I.tuple hq
  refine assign_Tuple_tuple (I.ok.hd hc) ht (by simp [hn, ← hl, rv.length]) hst fun h' hx => ?_
  have I1 : Inv X pins σ H { s with heap := h' } := I.kept (t' := s.toks) fun b o e => hx b o (Nat.ne_of_lt (Heap.lt_size e)) e
  exact h.run pins { s with heap := h' } σ H xs _ Q n I1 (by simpa using rv) hw
theorem pg_sub {o i : Expr} {to ti : TE} {g : TSet} (ho : PE X o to) (hi : PE X i ti) (hs : PSet X g)
    (ha : ∀ v, assign (.Subscript o i pos) X.env v = (do
      let ov ← holding [v] (eval o X.env)
      let iv ← holding [v, ov] (eval i X.env)
      standAt pos
      holding [v, ov, iv] (setItem ov iv v)
      release [v, ov, iv] []) := by intro _; rfl) : PG X (.Subscript o i pos) (gSub to ti g) := by
  refine ⟨fun pins s σ H v u Q n I r h => ?_⟩
  rw [ha]
  refine wpAny_bind (wpAny_holding (ho.go n I h fun ov s1 x H1 n1 I1 r1 q1 => ?_))
  refine wpAny_bind (wpAny_holding (hi.go n1 I1 q1 fun iv s2 y H2 n2 I2 r2 q2 => ?_))
  exact wpAny_bind (wpAny_standAt (wpAny_bind (wpAny_holding (thn (hs pins s2 σ H2 x y v ov iv u _ I2 r1 r2 r q2) fun _ s3 ⟨H3, I3, q3⟩ => wpAny_release ⟨σ, H3, I3, q3⟩))))
theorem ps_asg {tg : Expr} {g : TG} (he : PE X e te) (hg : PG X tg g) (hs : swapsWithSole [tg] e pos.line X.env = pure false := by rfl) (hw : swappedStores [tg] e X.env = pure none := by rfl)
    (h1 : (assignEach [tg] X.env).map (·.2) = [assign tg X.env] := by rfl) : PS X (.Assign [tg] e pos) (tAsg te g) := by
  refine ⟨fun pins s σ H D n I h => wpAny_Assign_stores (he.go n I h fun v s1 x H1 n1 I1 r1 q1 => ?_) hs hw⟩
  rw [h1]
  exact thn (hg.run pins s1 σ H1 x v _ n1 I1 r1 q1) fun _ s2 q => q
theorem ps_set {i : Nat} {x : Str} {pos' : Pos} (hN : X.N.Nodup) (hi : X.N[i]? = some x) (hx : Loc X.env.scope x) (he : PE X e te) (hs : swapsWith e (some (.Name x pos')) pos.line X.env = pure false := by rfl) (hf : X.fn x = true ∨ X.env.scope.names.lookup x = some .local := by first | exact .inl rfl | exact .inr rfl | assumption) :
    PS X (.Assign [.Name x pos'] e pos) (tAsg te (gName i)) :=
  ⟨fun pins s σ H D n I h => wpAny_Assign_Name (he.go n I h fun v s1 y H1 _ I1 r1 q1 => store_ok I1 hN hi hx r1 (fun s2 I2 => ⟨_, H1, I2, q1⟩) hf) hs⟩
theorem ps_while {c : Expr} {body : List Stmt} {tc : TT} {tb : TS} (hp : PassesOwn (model X.prog X.w) X.A X.env X.xe) (hc : PT X c tc) (hb : PSs X body tb) : PS X (.While c body [] pos) (tWhile tc tb) := by
  refine ⟨fun pins s σ H D n I h => ?_⟩
  obtain ⟨W, ⟨m0, w0⟩, turn⟩ := h
  refine wpAny_While (codeAny_whileLoop (fun k s' => Tk X s' ∧ ∃ σ' H', Inv X pins σ' H' s' ∧ W k σ' H') ?_ m0 ⟨n, σ, H, I, w0⟩)
  rintro k s1 ⟨n1, σ1, H1, I1, w1⟩
  refine wpAny_passesOwn hp (hc.go n1 I1 (turn k σ1 H1 w1) fun b s2 H2 n2 I2 q2 => ?_)
  cases b with
  | false => rw [if_neg Bool.false_ne_true]; exact wpAny_execs_nil ⟨σ1, H2, I2, q2⟩
  | true =>
    obtain ⟨N, hN, q2⟩ := q2
    rw [if_pos rfl]
    refine wpAny_passesOwn hp (tkm (hb.run pins s2 σ1 H2 _ n2 I2 q2) n2 fun f s3 n3 q3 => ?_)
    have again : (∃ σ' H', Inv X pins σ' H' s3 ∧ N σ' H') → ∃ m, m < k ∧ (Tk X s3 ∧ ∃ σ' H', Inv X pins σ' H' s3 ∧ W m σ' H') := fun ⟨σ3, H3, I3, h3⟩ => by
      obtain ⟨m, hm, w3⟩ := hN σ3 H3 h3
      exact ⟨m, hm, n3, σ3, H3, I3, w3⟩
    cases f with
    | next => exact again q3
    | cont => exact again q3
    | brk => exact q3
    | ret v => exact q3
end

/-! ### for -/
section
variable {X : Cx} {tg iter : Expr} {pos : Pos}
theorem ps_for {body : List Stmt} {wi : TI} {g : TG} {tb : TS} (hp : PassesOwn (model X.prog X.w) X.A X.env X.xe) (hc : X.calm = true) (hi : PI X tg iter wi) (hg : PG X tg g) (hb : PSs X body tb)
    (hs : ∀ x, foldedSetIterable iter X.env x = pure x := by intro _; rfl) : PS X (.For tg iter body [] pos) (tFor wi g tb) := by
  refine ⟨fun pins s σ H D n I h => wpAny_For (tkm (hi.run pins s σ H _ n I h) n fun v s1 n1 h1 => tkm h1 n1 fun itv s2 n2 h2 => ?_) hs⟩
  obtain ⟨it, fp, tn, J, H2, rfl, I2, T, st2, f2, W, ⟨m0, w0⟩, turn⟩ := h2
  have own : ∀ {H' : Hp}, (∀ b ∈ fp, H' b = none) → ∀ b ∈ fp, FpOk X pins H' b := fun z b hb => ⟨z b hb, (f2 b hb).2⟩
  refine codeAny_forLoop_any (fun k s' => Tk X s' ∧ ∃ i σ' H', Inv X pins σ' H' s' ∧ tn i s'.heap ∧ (∀ b ∈ fp, H' b = none) ∧ W i k σ' H') ?_ m0 ⟨n2, 0, σ, H2, I2, st2, fun b hb => (f2 b hb).1, w0⟩
  rintro k s3 ⟨n3, i, σ3, H3, I3, st3, fr3, w3⟩
  rcases turn i k σ3 H3 w3 with ⟨stop, qn⟩ | ⟨go, N, hN, step⟩
  · refine wpAny_passesOwn hp (thn (T.done X rfl rfl rfl hc i pins s3 σ3 H3 X.xe I3 (own fr3) st3 stop) fun r s4 ⟨hr, I4⟩ => ?_)
    subst hr
    exact wpAny_execs_nil ⟨σ3, H3, I4, qn⟩
  · refine wpAny_passesOwn hp (tkm (T.item X rfl rfl rfl hc i pins s3 σ3 H3 X.xe I3 (own fr3) st3 go) n3 fun r s4 n4 ⟨u, hr, h4⟩ => ?_)
    subst hr
    refine wpAny_passesOwn hp (tkm h4 n4 fun _ s5 n5 ⟨x, H5, I5, r5, y5, st5, fr5⟩ => ?_)
    have I5' := I5.pinned (own fr5) (T.obj _ _ st5)
    refine wpAny_passesOwn hp (tkm (hg.run _ s5 σ3 H5 x u _ n5 I5' r5 (step x H5 y5)) n5 fun _ s6 n6 ⟨σ6, H6, I6, q6⟩ => ?_)
    refine wpAny_passesOwn hp (tkm (hb.run _ s6 σ6 H6 _ n6 I6 q6) n6 fun f s7 n7 q7 => ?_)
    have again : (∃ σ7 H7, Inv X (pins ++ pinsAt fp s5.heap) σ7 H7 s7 ∧ N σ7 H7) → ∃ m, m < k ∧ (Tk X s7 ∧ ∃ i σ' H', Inv X pins σ' H' s7 ∧ tn i s7.heap ∧ (∀ b ∈ fp, H' b = none) ∧ W i m σ' H') := fun ⟨σ7, H7, I7, h7⟩ => by
      obtain ⟨m, hm, w7⟩ := hN σ7 H7 h7
      have stay : ∀ b ∈ fp, ∀ o, s5.heap.get? b = some o → s7.heap.get? b = some o ∧ H7 b = none := fun b hb o e =>
        have z := I7.pin (b, o) (List.mem_append_right _ (List.mem_append_right _ (mem_pinsAt hb e)))
        ⟨z.1, z.2.1⟩
      refine ⟨m, hm, n7, i + 1, σ7, H7, I7.unpinned, T.keep _ _ _ st5 fun b hb o e => (stay b hb o e).1, fun b hb => ?_, w7⟩
      obtain ⟨o, e, _⟩ := T.obj _ _ st5 b hb
      exact (stay b hb o e).2
    cases f with
    | next => exact again q7
    | cont => exact again q7
    | brk => obtain ⟨σ7, H7, I7, q7⟩ := q7; exact ⟨σ7, H7, I7.unpinned, q7⟩
    | ret v => obtain ⟨x7, σ7, H7, I7, r7, q7⟩ := q7; exact ⟨x7, σ7, H7, I7.unpinned, r7, q7⟩
/-! ### what is walked -/
theorem pi_range1 {a : Expr} {ta : TA} {p : Pos} (hg : Gl X "range") (hm : X.mg "range" = none) (ha : PA X [a] ta) (hs : starEach [a] X.env = [(false, eval a X.env)] := by rfl) : PI X tg (.Call (.Name "range" p) [a] [] pos) (iRng1 ta) := by
  refine ⟨fun pins s σ H R n I h => Call_ (ld_blt I hg hm boot_range (PyProof.Rows.callWith_type1 (ha.go n I h fun us s1 vs H1 n1 I1 r1 q1 => ?_) hs rfl))⟩
  obtain ⟨j, e, q1, q2, q⟩ := q1
  subst e
  cases r1 with
  | cons r rr =>
    cases rr
    obtain ⟨t, rfl⟩ := r
    exact call_range_1 (range_it I1 (by omega) (by omega) q1 q2 (by simpa using q))
theorem pi_range2 {a b : Expr} {ta : TA} {p : Pos} (hg : Gl X "range") (hm : X.mg "range" = none) (ha : PA X [a, b] ta) (hs : starEach [a, b] X.env = [(false, eval a X.env), (false, eval b X.env)] := by rfl) (hs2 : starEach [b] X.env = [(false, eval b X.env)] := by rfl) :
    PI X tg (.Call (.Name "range" p) [a, b] [] pos) (iRng2 ta) := by
  refine ⟨fun pins s σ H R n I h => Call_ (ld_blt I hg hm boot_range (PyProof.Rows.callWith_type1 (ha.go n I h fun us s1 vs H1 n1 I1 r1 q1 => ?_) (by rw [hs, hs2]) (by rw [hs2]; rfl)))⟩
  obtain ⟨i, j, e, ⟨q1, q2, q3, q4⟩, q⟩ := q1
  subst e
  cases r1 with
  | cons r rr =>
    cases rr with
    | cons r' rr =>
      cases rr
      obtain ⟨t, rfl⟩ := r
      obtain ⟨t', rfl⟩ := r'
      exact call_range_2 (range_it I1 q1 q2 q3 q4 q)
end

/-! ### list comprehensions -/
section
variable {X : Cx}
theorem pts_nil : PTs X [] tYes := ⟨fun _ _ _ H _ _ I h => wpAny_tests_nil ⟨H, I, h⟩⟩
theorem pts_one {c : Expr} {t : TT} (h : PT X c t) : PTs X [c] t := ⟨fun pins s σ H Q n I hw => wpAny_tests_one (h.run pins s σ H Q n I hw)⟩
/-- in every block that starts behind the entry -/
abbrev InBlk (X : Cx) (scope : Scope) (P : Cx → Prop) : Prop := ∀ (s : Shared) (H : Hp) (C : Addr) (cl : List (Str × Addr)) (fp : List Addr), Tk X s → P (X.blk s H scope (compEnvC scope cl C X.env) fp)

end
end M3
/-! M3, part u: list comprehensions, the count of tokens kept. -/
namespace M3
open PySem PySem.Spec PyProof.Rows L2

/-- an iterator's own objects, pinned, are as they were -/
theorem Turn.stay {X : Cx} {tg : Expr} {J : It} {fp : List Addr} {it : Addr} {tn : Nat → Heap → Prop} (T : Turn X.prog X.w X.K tg J fp it tn) {Y : Cx} {pl : List (Addr × Obj)} {σ : L2.St} {H : Hp} {s s' : Shared} {i : Nat}
    (I : Inv Y (pl ++ pinsAt fp s.heap) σ H s') (st : tn i s.heap) : tn i s'.heap ∧ ∀ b ∈ fp, H b = none := by
  have z : ∀ b ∈ fp, ∀ o, s.heap.get? b = some o → s'.heap.get? b = some o ∧ H b = none := fun b hb o e =>
    have z := I.pin (b, o) (List.mem_append_right _ (List.mem_append_right _ (mem_pinsAt hb e)))
    ⟨z.1, z.2.1⟩
  refine ⟨T.keep _ _ _ st fun b hb o e => (z b hb o e).1, fun b hb => ?_⟩
  obtain ⟨o, e, _⟩ := T.obj _ _ st b hb
  exact (z b hb o e).2

/-- a block has begun: its iterator, its list; s3 ahead of its own names, s4 behind them -/
structure Begun (X : Cx) (pins : List (Addr × Obj)) (σ : L2.St) (scope : Scope) (ws : List Nat) (tg : Expr) (J : It) (fp : List Addr) (it : Addr) (tn : Nat → Heap → Prop) (H : Hp) (s3 s4 : Shared) (ce : Env) : Prop where
  turn : Turn X.prog X.w X.K tg J fp it tn
  old : Inv X pins σ H s3
  now : Inv (X.blk s3 H scope ce fp) [] (wipe σ ws) H s4
  loc : ce.locals = s3.heap.objs.size
  fps : ∀ b ∈ fp, FpOk X pins H b
  st : tn 0 s4.heap
  n3 : Tk X s3
  n4 : s3.toks ≤ s4.toks
  env : ∃ cl, ce = compEnvC scope cl s3.heap.objs.size X.env
section
variable {X : Cx} {pins : List (Addr × Obj)} {σ : L2.St} {scope : Scope} {ws : List Nat} {tg : Expr} {J : It} {fp : List Addr} {it : Addr} {tn : Nat → Heap → Prop} {H : Hp} {s3 s4 : Shared} {ce : Env}
theorem Begun.at (B : Begun X pins σ scope ws tg J fp it tn H s3 s4 ce) {P : Cx → Prop} (h : InBlk X scope P) : P (X.blk s3 H scope ce fp) := by
  obtain ⟨cl, rfl⟩ := B.env
  exact h s3 H _ cl fp B.n3
theorem blk_fps {σ' : L2.St} {H' : Hp} {s' : Shared} (I : Inv (X.blk s3 H scope ce fp) [] σ' H' s') (fr : ∀ b ∈ fp, H' b = none) : ∀ b ∈ fp, FpOk (X.blk s3 H scope ce fp) [] H' b := fun b hb =>
  ⟨fr b hb, (I.ok.exf b hb).1, I.ok.exfs b hb, .inl hb, fun x c e => (I.ok.exf b hb).2 x c e, fun p hp => absurd (show p ∈ ([] : List (Addr × Obj)) ++ [] from hp) (by simp)⟩
/-- nothing is left: back in the def -/
theorem Begun.done (B : Begun X pins σ scope ws tg J fp it tn H s3 s4 ce) (hc : X.calm = true) {i : Nat} {σ' : L2.St} {H' : Hp} {s' : Shared} (I : Inv (X.blk s3 H scope ce fp) [] σ' H' s') (fr : ∀ b ∈ fp, H' b = none) (st : tn i s'.heap) (stop : J.stop i H') :
    wpAny (model X.prog X.w) X.A (pyNext (.ref it)) (fun r s6 => r = none ∧ Inv X pins σ H' s6 ∧ FpOk X pins H' s3.heap.objs.size ∧ ∃ m, s6.heap.Ns s3.heap.objs.size m) (fun _ _ => False) s' := by
  refine thn (B.turn.done (X.blk s3 H scope ce fp) rfl rfl rfl hc i [] s' _ H' (fun _ _ => False) I (blk_fps I fr) st stop) fun r s6 ⟨hr, I6⟩ => ⟨hr, ?_, ?_, ?_⟩
  · refine B.old.call' (ch := fp) I6.os I6.base I6.hok I6.bare fun b hb => ?_
    obtain ⟨_, f1, _, f3, f4, f5⟩ := B.fps b hb
    exact ⟨f3, f1, f4, f5⟩
  · have z : H' ce.locals = none := I6.free
    rw [B.loc] at z
    exact B.old.fpOk (Nat.le_refl _) z
  · obtain ⟨m, hn, _⟩ := I6.loc
    have hn : s6.heap.Ns ce.locals m := hn
    rw [B.loc] at hn
    exact ⟨m, hn⟩
theorem lc_begin {s : Shared} {elt iter : Expr} {ifs : List Expr} {rest : List Comprehension} {own : List (Str × Nat)} {pos pos' : Pos} {wi : TI} {use : Option (Value → Sem Unit)} {Qf : Value → Shared → Prop} {R : It → Hp → Prop}
    (hN : X.N.Nodup) (n : Tk X s) (I : Inv X pins σ H s) (hi : PI X tg iter wi) (ok : BlkOk X.N X.env.scope scope own) (hs : ∀ x, foldedSetIterable iter X.env x = pure x) (h : wi σ H R)
    (k : ∀ J H1 D fp it tn s3 s4 ce, H1 D = none → R J H1 → Begun X pins σ scope (own.map (·.2)) tg J fp it tn (upd H1 D (.lst [])) s3 s4 ce →
      codeAny (model X.prog X.w) X.A (.compLoop (.ListComp elt (⟨tg, iter, ifs, 0⟩ :: rest) scope pos) 0 (.ref it) (.ref D) ce) (compPost (model X.prog X.w) X.A X.xe use Qf (.ref D) s3.heap.objs.size) s4) :
    wpAny (model X.prog X.w) X.A (comprehension (.ListComp elt (⟨tg, iter, ifs, 0⟩ :: rest) scope pos) scope X.env pos' (newList []) false (eval iter X.env) use) Qf X.xe s := by
  have hfree : ∀ y ∈ scope.names, y.2 = .free → ∃ c, X.env.cells.lookup y.1 = some c := fun y hy e => (ok.free y hy e).elim (fun z => I.ok.has _ (.inl z)) fun z => I.ok.has _ (.inr z)
  refine wpAny_comprehension_free (use := use) rfl hs (closure_ok hfree) ok.kind (fun y hy e => by rw [ok.uniq y hy, e])
    (tkm (hi.run pins s σ H _ n I h) n fun xv s1 n1 hx => tkm hx n1 fun itv s2 n2 ⟨it, fp, tn, J, H2, e, I2, T, st2, f2, q⟩ => ?_)
  subst e
  refine wpAny_newObj_type (newEnv_comp ?_) (by show 0 ≤ sizeLine; decide)
  have hDn : H2 s2.heap.objs.size = none := I2.hok.fresh (Nat.le_refl _)
  generalize hD : s2.heap.objs.size = D at hDn ⊢
  generalize hs3 : ({ s2 with heap := s2.heap.push { cls := .type "list", data := .seq ([] : List Value).toArray } } : Shared) = s3
  have h3 : s3.heap = s2.heap.push { cls := .type "list", data := .seq ([] : List Value).toArray } := by rw [← hs3]
  have t3 : s3.toks = s2.toks := by rw [← hs3]
  have I3 : Inv X pins σ (upd H2 D (.lst [])) s3 := by
    rw [← hs3]
    refine I2.laid (t' := s2.toks) (fun b o e => Heap.get?_push_of_some _ e) (Nat.le_of_eq hD) ⟨Nat.zero_le _, [], 0, .nil, ?_⟩
    rw [← hD]
    exact Heap.get?_push_size _ rfl
  have f3 : ∀ b ∈ fp, FpOk X pins (upd H2 D (.lst [])) b ∧ b < s3.heap.objs.size := fun b hb => by
    obtain ⟨o, e, _⟩ := T.obj _ _ st2 b hb
    have hlt := Heap.lt_size e
    refine ⟨⟨?_, (f2 b hb).2⟩, by rw [h3, Heap.size_push]; exact Nat.lt_succ_of_lt hlt⟩
    rw [upd_ne (by rw [← hD]; exact Nat.ne_of_lt hlt)]
    exact (f2 b hb).1
  have st3 : tn 0 s3.heap := T.keep _ _ _ st2 fun b _ o e => by rw [h3]; exact Heap.get?_push_of_some _ e
  have B : Begun X pins σ scope (own.map (·.2)) tg J fp it tn (upd H2 D (.lst [])) s3 { s3 with heap := pushCells (s3.heap.push { cls := .type "dict", data := .dict #[] }) scope.names } (compEnvC scope (cellsFrom (s3.heap.objs.size + 1) scope.names (cloFrom X.env.cells scope.names [])) s3.heap.objs.size X.env) := {
    turn := T
    old := I3
    now := block_start I3 ok hN f3
    loc := rfl
    fps := fun b hb => (f3 b hb).1
    st := T.keep _ _ _ st3 fun b _ o e => pushCells_keeps _ _ _ _ (Heap.get?_push_of_some _ e)
    n3 := by show X.s_0.toks ≤ s3.toks; rw [t3]; exact n2
    n4 := Nat.le_refl _
    env := ⟨_, rfl⟩ }
  have loop := k J H2 D fp it tn s3 _ _ hDn q B
  show codeAny _ _ (.compStart (.ListComp elt (⟨tg, iter, ifs, 0⟩ :: rest) scope pos) 0 (.ref it) (.ref D) (compEnvC scope (cellsFrom (s3.heap.objs.size + 1) scope.names (cloFrom X.env.cells scope.names [])) s3.heap.objs.size X.env)) (compPost (model X.prog X.w) X.A X.xe use Qf (.ref D) s3.heap.objs.size) { s3 with heap := pushCells (s3.heap.push { cls := .type "dict", data := .dict #[] }) scope.names }
  exact codeAny_compStart_list loop (T.self X.A 0 _ _ _ B.st loop)
end

section
variable {X : Cx} {elt tg iter : Expr} {ifs : List Expr} {scope : Scope} {own : List (Str × Nat)} {pos : Pos} {wi : TI} {g : TG} {tt : TT} {te : TE}
theorem lcA {pins : List (Addr × Obj)} {s : Shared} {σ : L2.St} {H : Hp} {Q : VK} {pos' : Pos} {use : Option (Value → Sem Unit)} {Qf : Value → Shared → Prop} (hc : X.calm = true) (hN : X.N.Nodup) (n : Tk X s) (I : Inv X pins σ H s) (hi : PI X tg iter wi) (ok : BlkOk X.N X.env.scope scope own)
    (hg : InBlk X scope fun Y => PG Y tg g) (ht : InBlk X scope fun Y => PTs Y ifs tt) (he : InBlk X scope fun Y => PE Y elt te) (hs : ∀ x, foldedSetIterable iter X.env x = pure x) (h : tLc wi g tt te (own.map (·.2)) σ H Q)
    (fin : ∀ D C s' m H', Tk X s' → Inv X pins σ H' s' → Q (.ref D) H' → s'.heap.Ns C m → FpOk X pins H' C → compPost (model X.prog X.w) X.A X.xe use Qf (.ref D) C (.ok .next) s') :
    wpAny (model X.prog X.w) X.A (comprehension (.ListComp elt [⟨tg, iter, ifs, 0⟩] scope pos) scope X.env pos' (newList []) false (eval iter X.env) use) Qf X.xe s := by
  refine lc_begin hN n I hi ok hs h fun J H1 D fp it tn s3 s4 ce hD q B => ?_
  obtain ⟨W, ⟨m0, w0⟩, turn⟩ := q D hD
  have pg := B.at hg
  have pt := B.at ht
  have pe := B.at he
  have T := B.turn
  refine compLoop_any (fun k s' => s3.toks ≤ s'.toks ∧ ∃ i H', Inv (X.blk s3 (upd H1 D (.lst [])) scope ce fp) [] (wipe σ (own.map (·.2))) H' s' ∧ tn i s'.heap ∧ (∀ b ∈ fp, H' b = none) ∧ W i k H') ?_ m0 ⟨B.n4, 0, _, B.now, B.st, fun b hb => (B.fps b hb).1, w0⟩
  rintro k s5 ⟨n5, i, H5, I5, st5, fr5, w5⟩
  rcases turn i k H5 w5 with ⟨stop, qq⟩ | ⟨go, Nx, hNx, step⟩
  · refine tkF (B.done hc I5 fr5 st5 stop) n5 fun r s6 n6 ⟨hr, I6, fC, m, hm⟩ => ?_
    subst hr
    exact fin D _ s6 m H5 (Nat.le_trans B.n3 n6) I6 qq hm fC
  · refine tkF (T.item (X.blk s3 (upd H1 D (.lst [])) scope ce fp) rfl rfl rfl hc i [] s5 _ H5 (fun _ _ => False) I5 (blk_fps I5 fr5) st5 go) n5 fun r s6 n6 ⟨u, hr, h6⟩ => ?_
    subst hr
    refine tkF h6 n6 fun _ s7 n7 ⟨x, H7, I7, r7, y7, st7, fr7⟩ => ?_
    have I7' := I7.pinned (blk_fps I7 fr7) (T.obj _ _ st7)
    refine tkF (pg.run _ s7 _ H7 x u _ n7 I7' r7 (step x H7 y7)) n7 fun _ s8 n8 ⟨σ8, H8, I8, hw8, q8⟩ => ?_
    refine tkF (pt.run _ s8 σ8 H8 _ n8 I8 q8) n8 fun b s9 n9 ⟨H9, I9, q9⟩ => ?_
    have again : ∀ {s' : Shared} {H' : Hp}, s3.toks ≤ s'.toks → Inv (X.blk s3 (upd H1 D (.lst [])) scope ce fp) ([] ++ pinsAt fp s7.heap) σ8 H' s' → Nx H' →
        ∃ m, m < k ∧ (s3.toks ≤ s'.toks ∧ ∃ i H', Inv (X.blk s3 (upd H1 D (.lst [])) scope ce fp) [] (wipe σ (own.map (·.2))) H' s' ∧ tn i s'.heap ∧ (∀ b ∈ fp, H' b = none) ∧ W i m H') := fun {s' H'} n' I' nx => by
      obtain ⟨m, hm, w'⟩ := hNx H' nx
      obtain ⟨z1, z2⟩ := Turn.stay (X := X) T I' st7
      exact ⟨m, hm, n', i + 1, H', (I'.unpinned (pins := [])).weak (by rw [← hw8, wipe_length]) (fun j v e => by rw [← hw8] at e; exact (wipe_some e).1), z1, z2, w'⟩
    cases b with
    | false =>
      simp only [Bool.false_eq_true, if_false] at q9 ⊢
      exact again n9 I9 q9
    | true =>
      simp only [if_true] at q9 ⊢
      refine tkF (pe.run _ s9 σ8 H9 _ n9 I9 q9) n9 fun z s10 n10 ⟨yv, H10, I10, r10, acc, hD10, hz10, nx⟩ => ?_
      exact wpAny_with_toks n10 (app_ok (X := X.blk s3 (upd H1 D (.lst [])) scope ce fp) I10 hD10 hz10 r10 fun s11 I11 n11 => again n11 I11 nx)
theorem pe_lc (hc : X.calm = true) (hN : X.N.Nodup) (hi : PI X tg iter wi) (ok : BlkOk X.N X.env.scope scope own)
    (hg : InBlk X scope fun Y => PG Y tg g) (ht : InBlk X scope fun Y => PTs Y ifs tt) (he : InBlk X scope fun Y => PE Y elt te) (hs : ∀ x, foldedSetIterable iter X.env x = pure x := by intro _; rfl) :
    PE X (.ListComp elt [⟨tg, iter, ifs, 0⟩] scope pos) (tLc wi g tt te (own.map (·.2))) := by
  refine ⟨fun pins s σ H Q n I h => ?_⟩
  rw [eval_ListComp]
  refine lcA hc hN n I hi ok hg ht he hs h fun D C s' m H' _ I' q hn f => ⟨m, hn, fun h'' sb => ?_⟩
  obtain ⟨f0, f1, f2, f3, f4, f5⟩ := f
  exact ⟨.ref D, H', I'.turned (t' := s'.toks) (fun b o hb e => (sb.2 b hb).trans e) f0 f1 f3 f4 f5, rfl, q⟩
/-- the list made is stored under a local name -/
theorem lc_store {pins : List (Addr × Obj)} {σ : L2.St} {i : Nat} {y : Str} {py : Pos} {D : Ends} {L : Addr} {s' : Shared} {C : Addr} {m : Str → Option Value} {H' : Hp} {Q : L2.St → Hp → Prop} (hN : X.N.Nodup) (hy : X.N[i]? = some y) (hyl : X.env.scope.names.lookup y = some .local)
    (I' : Inv X pins σ H' s') (hn : s'.heap.Ns C m) (f : FpOk X pins H' C) (q : D.nx (σ.set i (some (.ref L))) H') :
    wpAny (model X.prog X.w) X.A (assign (.Name y py) X.env (.ref L)) (fun _ s'' => ∃ m, s''.heap.Ns C m ∧ ∀ h', Heap.SameBut C s''.heap h' → SP X pins D .next { s'' with heap := h' }) X.xe s' := by
  refine wpAny_assign_Name (store_ok2 (v := V.ref L) I' hN hy (.inl hyl) rfl (fun s2 I2 ⟨a, sb, ha⟩ => ?_) (.inr hyl))
  obtain ⟨f0, f1, f2, f3, f4, f5⟩ := f
  have haC : C ≠ a := by
    rcases ha with z | z
    · rw [z]; exact f1
    · exact fun e => f4 y a z e.symm
  exact ⟨m, hn.sameBut sb haC, fun h3 sb3 => ⟨_, H', I2.turned (t' := s2.toks) (fun b o hb e => (sb3.2 b hb).trans e) f0 f1 f3 f4 f5, q⟩⟩
theorem ps_setLc {i : Nat} {y : Str} {py : Pos} {spos : Pos} (hc : X.calm = true) (hN : X.N.Nodup) (hy : X.N[i]? = some y) (hyl : X.env.scope.names.lookup y = some .local)
    (hsw : swapsWith (.ListComp elt [⟨tg, iter, ifs, 0⟩] scope pos) (some (.Name y py)) spos.line X.env = pure true) (hi : PI X tg iter wi) (ok : BlkOk X.N X.env.scope scope own)
    (hg : InBlk X scope fun Y => PG Y tg g) (ht : InBlk X scope fun Y => PTs Y ifs tt) (he : InBlk X scope fun Y => PE Y elt te) (hs : ∀ x, foldedSetIterable iter X.env x = pure x := by intro _; rfl) :
    PS X (.Assign [.Name y py] (.ListComp elt [⟨tg, iter, ifs, 0⟩] scope pos) spos) (tAsg (tLc wi g tt te (own.map (·.2))) (gName i)) := by
  refine ⟨fun pins s σ H D n I h => ?_⟩
  rw [exec_Assign_Name_used _ _ _ _ hsw]
  refine wpAny_bind (wpAny_standAt (wpAny_bind ?_))
  show wpAny _ X.A (do let _ ← comprehension (.ListComp elt [⟨tg, iter, ifs, 0⟩] scope pos) scope X.env (firstIterPos [⟨tg, iter, ifs, 0⟩] pos) (newList []) false (eval iter X.env) (some (assign (.Name y py) X.env))) _ _ s
  have h : tLc wi g tt te (own.map (·.2)) σ H (fun x H1 => gName i x σ H1 D.nx) := h
  exact wpAny_bind (thn (lcA (Qf := fun _ s' => SP X pins D .next s') hc hN n I hi ok hg ht he hs h fun L C s' m H' _ I' q hn f => lc_store (Q := D.nx) hN hy hyl I' hn f q) fun _ s' hq => wpAny_pure (wpAny_pure hq))
end

/-! ### two clauses -/
section
variable {X : Cx} {elt tg iter tg1 iter1 : Expr} {ifs ifs1 : List Expr} {scope : Scope} {own : List (Str × Nat)} {vs1 : List Nat} {pos : Pos} {wi wi1 : TI} {g g1 : TG} {tt tt1 : TT} {te : TE}
theorem lcB {pins : List (Addr × Obj)} {s : Shared} {σ : L2.St} {H : Hp} {Q : VK} {pos' : Pos} {use : Option (Value → Sem Unit)} {Qf : Value → Shared → Prop} (hc : X.calm = true) (hN : X.N.Nodup) (n : Tk X s) (I : Inv X pins σ H s) (hi : PI X tg iter wi) (ok : BlkOk X.N X.env.scope scope own) (hv : ∀ i ∈ vs1, i ∈ own.map (·.2))
    (hg : InBlk X scope fun Y => PG Y tg g) (ht : InBlk X scope fun Y => PTs Y ifs tt) (hi1 : InBlk X scope fun Y => PI Y tg1 iter1 wi1) (hg1 : InBlk X scope fun Y => PG Y tg1 g1) (ht1 : InBlk X scope fun Y => PTs Y ifs1 tt1) (he : InBlk X scope fun Y => PE Y elt te)
    (hs : ∀ x, foldedSetIterable iter X.env x = pure x) (hs1 : ∀ env x, foldedSetIterable iter1 env x = pure x) (h : tLc2 wi g tt wi1 g1 tt1 te (own.map (·.2)) vs1 σ H Q)
    (fin : ∀ D C s' m H', Tk X s' → Inv X pins σ H' s' → Q (.ref D) H' → s'.heap.Ns C m → FpOk X pins H' C → compPost (model X.prog X.w) X.A X.xe use Qf (.ref D) C (.ok .next) s') :
    wpAny (model X.prog X.w) X.A (comprehension (.ListComp elt [⟨tg, iter, ifs, 0⟩, ⟨tg1, iter1, ifs1, 0⟩] scope pos) scope X.env pos' (newList []) false (eval iter X.env) use) Qf X.xe s := by
  refine lc_begin hN n I hi ok hs h fun J H1 D fp it tn s3 s4 ce hD q B => ?_
  obtain ⟨W, ⟨m0, w0⟩, turn⟩ := q D hD
  have pg := B.at hg
  have pt := B.at ht
  have pi1 := B.at hi1
  have pg1 := B.at hg1
  have pt1 := B.at ht1
  have pe := B.at he
  have T := B.turn
  refine compLoop2_out (hs1 ce) (fun k s' => s3.toks ≤ s'.toks ∧ ∃ i H', Inv (X.blk s3 (upd H1 D (.lst [])) scope ce fp) [] (wipe σ (own.map (·.2))) H' s' ∧ tn i s'.heap ∧ (∀ b ∈ fp, H' b = none) ∧ W i k H') ?_ m0 ⟨B.n4, 0, _, B.now, B.st, fun b hb => (B.fps b hb).1, w0⟩
  rintro k s5 ⟨n5, i, H5, I5, st5, fr5, w5⟩
  rcases turn i k H5 w5 with ⟨stop, qq⟩ | ⟨go, Nx, hNx, step⟩
  · refine tkF (B.done hc I5 fr5 st5 stop) n5 fun r s6 n6 ⟨hr, I6, fC, m, hm⟩ => ?_
    subst hr
    exact fin D _ s6 m H5 (Nat.le_trans B.n3 n6) I6 qq hm fC
  · refine tkF (T.item (X.blk s3 (upd H1 D (.lst [])) scope ce fp) rfl rfl rfl hc i [] s5 _ H5 (fun _ _ => False) I5 (blk_fps I5 fr5) st5 go) n5 fun r s6 n6 ⟨u, hr, h6⟩ => ?_
    subst hr
    refine tkF h6 n6 fun _ s7 n7 ⟨x, H7, I7, r7, y7, st7, fr7⟩ => ?_
    have I7' := I7.pinned (blk_fps I7 fr7) (T.obj _ _ st7)
    refine tkF (pg.run _ s7 _ H7 x u _ n7 I7' r7 (step x H7 y7)) n7 fun _ s8 n8 ⟨σ8, H8, I8, hw8, q8⟩ => ?_
    refine tkF (pt.run _ s8 σ8 H8 _ n8 I8 q8) n8 fun b s9 n9 ⟨H9, I9, q9⟩ => ?_
    -- a turn's end, the slots knowing no less than at the block's start
    have again : ∀ {σ9 : L2.St} {s' : Shared} {H' : Hp}, s3.toks ≤ s'.toks → Inv (X.blk s3 (upd H1 D (.lst [])) scope ce fp) ([] ++ pinsAt fp s7.heap) σ9 H' s' → (wipe σ (own.map (·.2))).length = σ9.length →
        (∀ (j : Nat) v, (wipe σ (own.map (·.2)))[j]? = some (some v) → σ9[j]? = some (some v)) → Nx H' →
        ∃ m, m < k ∧ (s3.toks ≤ s'.toks ∧ ∃ i H', Inv (X.blk s3 (upd H1 D (.lst [])) scope ce fp) [] (wipe σ (own.map (·.2))) H' s' ∧ tn i s'.heap ∧ (∀ b ∈ fp, H' b = none) ∧ W i m H') := fun {σ9 s' H'} n' I' hl hk nx => by
      obtain ⟨m, hm, w'⟩ := hNx H' nx
      obtain ⟨z1, z2⟩ := Turn.stay (X := X) T I' st7
      exact ⟨m, hm, n', i + 1, H', (I'.unpinned (pins := [])).weak hl hk, z1, z2, w'⟩
    have hl8 : (wipe σ (own.map (·.2))).length = σ8.length := by rw [← hw8, wipe_length]
    have hk8 : ∀ (j : Nat) v, (wipe σ (own.map (·.2)))[j]? = some (some v) → σ8[j]? = some (some v) := fun j v e => by rw [← hw8] at e; exact (wipe_some e).1
    have hk9 : ∀ (j : Nat) v, (wipe σ (own.map (·.2)))[j]? = some (some v) → (wipe σ8 vs1)[j]? = some (some v) := fun j v e => by
      rw [← hw8] at e
      obtain ⟨e1, e2⟩ := wipe_some e
      rw [wipe_out fun z => e2 (hv j z)]
      exact e1
    cases b with
    | false =>
      simp only [Bool.false_eq_true, if_false] at q9 ⊢
      exact again n9 I9 hl8 hk8 q9
    | true =>
      simp only [if_true] at q9 ⊢
      refine tkF (pi1.run _ s9 σ8 H9 _ n9 I9 q9) n9 fun xv s10 n10 hx => tkF hx n10 fun itv s11 n11 ⟨it1, fp1, tn1, J1, H11, e1, I11, T1, st11, f11, W1, ⟨m1, w1⟩, turn1⟩ => ?_
      subst e1
      have own1 : ∀ {H' : Hp}, (∀ b ∈ fp1, H' b = none) → ∀ b ∈ fp1, FpOk (X.blk s3 (upd H1 D (.lst [])) scope ce fp) ([] ++ pinsAt fp s7.heap) H' b := fun hn b hb => ⟨hn b hb, (f11 b hb).2⟩
      have loop1 : codeAny (model X.prog X.w) X.A (.compLoop (.ListComp elt [⟨tg, iter, ifs, 0⟩, ⟨tg1, iter1, ifs1, 0⟩] scope pos) 1 (.ref it1) (.ref D) ce)
          (fun r s' => match r with
            | .ok _ => ∃ m, m < k ∧ (s3.toks ≤ s'.toks ∧ ∃ i H', Inv (X.blk s3 (upd H1 D (.lst [])) scope ce fp) [] (wipe σ (own.map (·.2))) H' s' ∧ tn i s'.heap ∧ (∀ b ∈ fp, H' b = none) ∧ W i m H')
            | .error _ => False) s11 := by
        refine compLoop2_in (fun k1 s' => s3.toks ≤ s'.toks ∧ ∃ j H', Inv (X.blk s3 (upd H1 D (.lst [])) scope ce fp) ([] ++ pinsAt fp s7.heap) (wipe σ8 vs1) H' s' ∧ tn1 j s'.heap ∧ (∀ b ∈ fp1, H' b = none) ∧ W1 j k1 H') ?_ m1
          ⟨n11, 0, H11, I11.weak (wipe_length _ _) (fun j v e => (wipe_some e).1), st11, fun b hb => (f11 b hb).1, w1⟩
        rintro k1 s12 ⟨n12, j, H12, I12, st12, fr12, w12⟩
        rcases turn1 j k1 H12 w12 with ⟨stop1, nx1⟩ | ⟨go1, Nx1, hNx1, step1⟩
        · refine tkF (T1.done (X.blk s3 (upd H1 D (.lst [])) scope ce fp) rfl rfl rfl hc j _ s12 (wipe σ8 vs1) H12 (fun _ _ => False) I12 (own1 fr12) st12 stop1) n12 fun r s13 n13 ⟨hr, I13⟩ => ?_
          subst hr
          exact again n13 I13 (hl8.trans (wipe_length σ8 vs1).symm) hk9 nx1
        · refine tkF (T1.item (X.blk s3 (upd H1 D (.lst [])) scope ce fp) rfl rfl rfl hc j _ s12 (wipe σ8 vs1) H12 (fun _ _ => False) I12 (own1 fr12) st12 go1) n12 fun r s13 n13 ⟨u1, hr, h13⟩ => ?_
          subst hr
          refine tkF h13 n13 fun _ s14 n14 ⟨x1, H14, I14, r14, y14, st14, fr14⟩ => ?_
          have I14' := I14.pinned (own1 fr14) (T1.obj _ _ st14)
          refine tkF (pg1.run _ s14 (wipe σ8 vs1) H14 x1 u1 _ n14 I14' r14 (step1 x1 H14 y14)) n14 fun _ s15 n15 ⟨σ15, H15, I15, hw15, q15⟩ => ?_
          refine tkF (pt1.run _ s15 σ15 H15 _ n15 I15 q15) n15 fun b1 s16 n16 ⟨H16, I16, q16⟩ => ?_
          have again1 : ∀ {s' : Shared} {H' : Hp}, s3.toks ≤ s'.toks → Inv (X.blk s3 (upd H1 D (.lst [])) scope ce fp) (([] ++ pinsAt fp s7.heap) ++ pinsAt fp1 s14.heap) σ15 H' s' → Nx1 H' →
              ∃ m, m < k1 ∧ (s3.toks ≤ s'.toks ∧ ∃ j H', Inv (X.blk s3 (upd H1 D (.lst [])) scope ce fp) ([] ++ pinsAt fp s7.heap) (wipe σ8 vs1) H' s' ∧ tn1 j s'.heap ∧ (∀ b ∈ fp1, H' b = none) ∧ W1 j m H') := fun {s' H'} n' I' nx => by
            obtain ⟨m, hm, w'⟩ := hNx1 H' nx
            obtain ⟨z1, z2⟩ := Turn.stay (X := X.blk s3 (upd H1 D (.lst [])) scope ce fp) T1 I' st14
            exact ⟨m, hm, n', j + 1, H', I'.unpinned.weak (by rw [← hw15, wipe_length]) (fun j v e => by rw [← hw15] at e; exact (wipe_some e).1), z1, z2, w'⟩
          cases b1 with
          | false =>
            simp only [Bool.false_eq_true, if_false] at q16 ⊢
            exact again1 n16 I16 q16
          | true =>
            simp only [if_true] at q16 ⊢
            refine tkF (pe.run _ s16 σ15 H16 _ n16 I16 q16) n16 fun z s17 n17 ⟨yv, H17, I17, r17, acc, hD17, hz17, nx⟩ => ?_
            exact wpAny_with_toks n17 (app_ok (X := X.blk s3 (upd H1 D (.lst [])) scope ce fp) I17 hD17 hz17 r17 fun s18 I18 n18 => again1 n18 I18 nx)
      exact compStart1_ok loop1 (T1.self X.A 0 _ _ _ st11 loop1)
theorem pe_lc2 (hc : X.calm = true) (hN : X.N.Nodup) (hi : PI X tg iter wi) (ok : BlkOk X.N X.env.scope scope own) (hv : ∀ i ∈ vs1, i ∈ own.map (·.2))
    (hg : InBlk X scope fun Y => PG Y tg g) (ht : InBlk X scope fun Y => PTs Y ifs tt) (hi1 : InBlk X scope fun Y => PI Y tg1 iter1 wi1) (hg1 : InBlk X scope fun Y => PG Y tg1 g1) (ht1 : InBlk X scope fun Y => PTs Y ifs1 tt1) (he : InBlk X scope fun Y => PE Y elt te)
    (hs : ∀ x, foldedSetIterable iter X.env x = pure x := by intro _; rfl) (hs1 : ∀ env x, foldedSetIterable iter1 env x = pure x := by intro _ _; rfl) :
    PE X (.ListComp elt [⟨tg, iter, ifs, 0⟩, ⟨tg1, iter1, ifs1, 0⟩] scope pos) (tLc2 wi g tt wi1 g1 tt1 te (own.map (·.2)) vs1) := by
  refine ⟨fun pins s σ H Q n I h => ?_⟩
  rw [eval_ListComp]
  refine lcB hc hN n I hi ok hv hg ht hi1 hg1 ht1 he hs hs1 h fun D C s' m H' _ I' q hn f => ⟨m, hn, fun h'' sb => ?_⟩
  obtain ⟨f0, f1, f2, f3, f4, f5⟩ := f
  exact ⟨.ref D, H', I'.turned (t' := s'.toks) (fun b o hb e => (sb.2 b hb).trans e) f0 f1 f3 f4 f5, rfl, q⟩
theorem ps_setLc2 {i : Nat} {y : Str} {py : Pos} {spos : Pos} (hc : X.calm = true) (hN : X.N.Nodup) (hy : X.N[i]? = some y) (hyl : X.env.scope.names.lookup y = some .local)
    (hsw : swapsWith (.ListComp elt [⟨tg, iter, ifs, 0⟩, ⟨tg1, iter1, ifs1, 0⟩] scope pos) (some (.Name y py)) spos.line X.env = pure true) (hi : PI X tg iter wi) (ok : BlkOk X.N X.env.scope scope own) (hv : ∀ i ∈ vs1, i ∈ own.map (·.2))
    (hg : InBlk X scope fun Y => PG Y tg g) (ht : InBlk X scope fun Y => PTs Y ifs tt) (hi1 : InBlk X scope fun Y => PI Y tg1 iter1 wi1) (hg1 : InBlk X scope fun Y => PG Y tg1 g1) (ht1 : InBlk X scope fun Y => PTs Y ifs1 tt1) (he : InBlk X scope fun Y => PE Y elt te)
    (hs : ∀ x, foldedSetIterable iter X.env x = pure x := by intro _; rfl) (hs1 : ∀ env x, foldedSetIterable iter1 env x = pure x := by intro _ _; rfl) :
    PS X (.Assign [.Name y py] (.ListComp elt [⟨tg, iter, ifs, 0⟩, ⟨tg1, iter1, ifs1, 0⟩] scope pos) spos) (tAsg (tLc2 wi g tt wi1 g1 tt1 te (own.map (·.2)) vs1) (gName i)) := by
  refine ⟨fun pins s σ H D n I h => ?_⟩
  rw [exec_Assign_Name_used _ _ _ _ hsw]
  refine wpAny_bind (wpAny_standAt (wpAny_bind ?_))
  show wpAny _ X.A (do let _ ← comprehension (.ListComp elt [⟨tg, iter, ifs, 0⟩, ⟨tg1, iter1, ifs1, 0⟩] scope pos) scope X.env (firstIterPos [⟨tg, iter, ifs, 0⟩, ⟨tg1, iter1, ifs1, 0⟩] pos) (newList []) false (eval iter X.env) (some (assign (.Name y py) X.env))) _ _ s
  have h : tLc2 wi g tt wi1 g1 tt1 te (own.map (·.2)) vs1 σ H (fun x H1 => gName i x σ H1 D.nx) := h
  exact wpAny_bind (thn (lcB (Qf := fun _ s' => SP X pins D .next s') hc hN n I hi ok hv hg ht hi1 hg1 ht1 he hs hs1 h fun L C s' m H' _ I' q hn f => lc_store (Q := D.nx) hN hy hyl I' hn f q) fun _ s' hq => wpAny_pure (wpAny_pure hq))
end
end M3
/-! M3, part v: defs and calls, the count of tokens known; str.replace. -/
namespace M3
open PySem PySem.Spec PyProof.Rows L2

/-- a def's promise, kept where at least tk tokens are out -/
structure FnOk (tk : Nat) (P : Program) (w : World) (K : PySem.W.Frag) (mg : Str → Option Value) (base : Heap) (CX : CXT) (k : Nat) (f : Addr) (fd : FuncData) (ps : List Str) (sp : Sp) : Prop where
  len : ∀ vs H Q E, sp vs H Q E → vs.length = ps.length
  run : ∀ (A : Around) (outer : List Env) (s : Shared) (H : Hp) (args : Args) (us : List Value) (vs : List V) (Q : VK) (E : XK), tk ≤ s.toks → Room k A → Env0 P w K mg base A outer s H → BindsTo s fd args (ps.zip us) → Vals vs us → sp vs H Q E →
    codeAny (model P w) A (.call (.ref f) args) (CR CX outer P w H s Q E) s
theorem FnOk.up {tk : Nat} {P : Program} {w : World} {K : PySem.W.Frag} {mg : Str → Option Value} {base : Heap} {CX : CXT} {k : Nat} {f : Addr} {fd : FuncData} {ps : List Str} {sp : Sp} (F : L2.FnOk P w K mg base CX k f fd ps sp) : FnOk tk P w K mg base CX k f fd ps sp :=
  ⟨F.len, fun A outer s H args us vs Q E _ => F.run A outer s H args us vs Q E⟩
theorem FnOk.mono {tk : Nat} {P : Program} {w : World} {K : PySem.W.Frag} {mg : Str → Option Value} {base : Heap} {CX : CXT} {j k : Nat} {f : Addr} {fd : FuncData} {ps : List Str} {sp : Sp} (F : FnOk tk P w K mg base CX j f fd ps sp) (h : j ≤ k) : FnOk tk P w K mg base CX k f fd ps sp :=
  ⟨F.len, fun A outer s H args us vs Q E n hr => F.run A outer s H args us vs Q E n (hr.mono h)⟩
section
variable {tk : Nat} {P : Program} {w : World} {K : PySem.W.Frag} {mg : Str → Option Value} {base : Heap}
/-- a def by its body -/
theorem Fun.okT {x qual : Str} {st : Stmt} {f : Addr} {fd : FuncData} {N ps : List Str} {k : Nat} {sp : Sp} (F : L2.Fun K x qual st f fd) (S : FnScope N ps (defScope st)) (len : ∀ vs H Q E, sp vs H Q E → vs.length = ps.length)
    (hbody : ∀ (cdv : Value) (A : Around) (outer : List Env) (s : Shared) (H : Hp) (vs : List V) (Q : VK) (E : XK), tk ≤ s.toks → Room k (A.deeper (envOfC qual (defScope st) s.heap.objs.size f cdv)) → sp vs H Q E →
      ∃ t, PSs (cxOf (L2.CX P w) P w K mg base N qual (defScope st) f cdv A outer s H E) (defBody st) t ∧ t { nx := fun _ H' => Q .non H', rt := Q } (start N vs) H) : FnOk tk P w K mg base (L2.CX P w) (k + 1) f fd ps sp := by
  obtain ⟨oc, od, kV, doc, pm, an, cdv, ct, osl, rfl, lk, hcd⟩ := F.ex
  refine ⟨len, fun A outer s H args us vs Q E htk hr e0 hb r hsp => ?_⟩
  have KX : K.In s.heap := e0.mod.kin.keeps fun b o e => (e0.bs b o e).1
  have lim : s.heap.NoLimit := e0.mod.nolimit.keeps fun b o e => (e0.bs b o e).1
  have hkind : ∀ y ∈ ps.zip us, (defScope st).names.lookup y.1 = some .local ∨ ((defScope st).names.lookup y.1 = some .cell ∧ ((cellsFrom (s.heap.objs.size + 1) (defScope st).names []).lookup y.1).isSome = true) := fun ⟨a, v⟩ hy =>
    (S.par a (List.of_mem_zip hy).1).imp id fun q => ⟨q, PySem.W.cellsFrom_some _ _ _ (.inl q)⟩
  refine codeAny_call_function hr.depth (KX _ _ lk) rfl S.co S.gen rfl (PySem.W.codeRec_of KX hcd) (hb _ _ _ _ ?_)
  refine wpAny_with_toks (Nat.le_refl s.toks) (wpAny_newFunctionEnv_cells S.kind hkind fun env he s1 x n1 => ?_)
  subst he
  refine ⟨lim.keeps x.toInCall.keep, codeAny_func ?_⟩
  obtain ⟨t, ht, hq⟩ := hbody cdv A outer s H vs Q E htk (hr.deeper _) hsp
  have I : Inv (cxOf (L2.CX P w) P w K mg base N qual (defScope st) f cdv A outer s H E) [] (start N vs) H s1 := inv_start S hr.hd e0 (len _ _ _ _ hsp) r x
  refine wpAny_mono (ht.run [] s1 (start N vs) H _ n1 I hq) (fun fl s' hs => ?_) fun e s' hs => hs
  cases fl with
  | ret u =>
    obtain ⟨v, σ', H', J, rv, q⟩ := hs
    exact ⟨v, H', J.os, J.bare, J.base, J.hok, rv, q⟩
  | next =>
    obtain ⟨σ', H', J, q⟩ := hs
    exact ⟨V.non, H', J.os, J.bare, J.base, J.hok, (rfl : RelV V.non Value.none), q⟩
  | brk => obtain ⟨_, _, _, q⟩ := hs; exact False.elim q
  | cont => obtain ⟨_, _, _, q⟩ := hs; exact False.elim q
end

/-! ### calls -/
section
variable {X : Cx} {CX : CXT} {tk k : Nat} {f : Addr} {fd : FuncData} {ps : List Str} {sp : Sp} {dvs : List V} {ds : List Value} {E : XK} {x : Str} {p pos : Pos} {e : Expr} {es : List Expr} {t : TA}
theorem CR.out {pins : List (Addr × Obj)} {σ : L2.St} {H : Hp} {s : Shared} {Q : VK} {r : Result} {s' : Shared} (hx : Passes CX X E) (I : Inv X pins σ H s) (hq : CR CX X.stack X.prog X.w H s Q E r s') :
    match r with
    | .error e => X.xe e s'
    | .ok (.ret u) => EP X pins σ Q u s'
    | _ => False := by
  cases r with
  | error e => exact hx pins σ H s e s' I hq
  | ok fl =>
    cases fl with
    | ret u => exact I.after hq
    | next => exact hq
    | brk => exact hq
    | cont => exact hq
/-- a call runs, by the def's promise -/
theorem call_run {pins : List (Addr × Obj)} {σ : L2.St} {H : Hp} {s : Shared} {Q : VK} {us : List Value} {kw : List (Str × Value)} {as : List Value} {vs : List V} (F : FnOk tk X.prog X.w X.K X.mg X.base CX k f fd ps sp) (hk : tk ≤ X.s_0.toks) (hr : Room k X.A) (hx : Passes CX X E)
    (n : Tk X s) (I : Inv X pins σ H s) (hb : BindsTo s fd ⟨us, kw⟩ (ps.zip as)) (r : Vals vs as) (h : sp vs H Q E) : wpAny (model X.prog X.w) X.A (call (.ref f) us kw) (EP X pins σ Q) X.xe s := by
  refine wpAny_call (codeAny_mono (F.run X.A X.stack s H ⟨us, kw⟩ as vs Q E (Nat.le_trans hk n) hr I.env0 hb r h) fun r s' hq => ?_)
  have z := CR.out hx I hq
  cases r with
  | error e => exact z
  | ok fl => cases fl <;> first | exact z | exact z.elim
theorem run_fn {pins : List (Addr × Obj)} {σ : L2.St} {H : Hp} {s : Shared} {Q : VK} {us : List Value} {vs : List V} (F : FnOk tk X.prog X.w X.K X.mg X.base CX k f fd ps sp) (ht : tk ≤ X.s_0.toks) (hr : Room k X.A) (hb : Binds X.K fd ps ds) (hd : Vals dvs ds) (hx : Passes CX X E)
    (n : Tk X s) (I : Inv X pins σ H s) (r : Vals vs us) (h : sp (vs ++ dvs) H Q E) : wpAny (model X.prog X.w) X.A (call (.ref f) us) (EP X pins σ Q) X.xe s :=
  have r2 : Vals (vs ++ dvs) (us ++ ds) := r.append hd
  call_run F ht hr hx n I (hb s us I.kIn (by rw [← r2.length]; exact F.len _ _ _ _ h)) r2 h
theorem pe_call (F : FnOk tk X.prog X.w X.K X.mg X.base CX k f fd ps sp) (ht : tk ≤ X.s_0.toks) (hr : Room k X.A) (hg : Gl X x) (hm : X.mg x = some (.ref f)) (hk : PySem.W.keepIn X.K (.ref f) = true) (hb : Binds X.K fd ps ds) (hd : Vals dvs ds) (hx : Passes CX X E)
    (ha : PA X (e :: es) t) (hdb : (x == ("__debug__" : Str)) = false := by decide) (he : starEach (e :: es) X.env = (false, eval e X.env) :: starEach es X.env := by rfl) (hpl : (backTo pos (starEach es X.env)).any (·.1) = false := by rfl) :
    PE X (.Call (.Name x p) (e :: es) [] pos) (tCall sp dvs E t) :=
  ⟨fun pins s σ H Q n I h => wpAny_Call_Name_kw (ld_glob I hg hm (PySem.W.callWith_K (h₀ := X.base) I.ok.mod.kin hk (ha.go n I h fun us s1 vs H1 n1 I1 r q => ⟨I1.kIn, run_fn F ht hr hb hd hx n1 I1 r q⟩) he hpl) hdb)⟩
theorem pe_call0 (F : FnOk tk X.prog X.w X.K X.mg X.base CX k f fd ps sp) (ht : tk ≤ X.s_0.toks) (hr : Room k X.A) (hg : Gl X x) (hm : X.mg x = some (.ref f)) (hk : PySem.W.keepIn X.K (.ref f) = true) (hb : Binds X.K fd ps ds) (hd : Vals dvs ds) (hx : Passes CX X E)
    (hdb : (x == ("__debug__" : Str)) = false := by decide) : PE X (.Call (.Name x p) [] [] pos) (tCall sp dvs E tNil) :=
  ⟨fun pins s σ H Q n I h => wpAny_Call_Name_kw (ld_glob I hg hm (PySem.W.callWith_K0 I.kIn hk (run_fn (us := []) F ht hr hb hd hx n I .nil h)) hdb)⟩
variable {ks : List Str} {kws : List Keyword} {tkw : TA} {g : List Value → List Value → List Value} {gV : List V → List V → List V} {m : Nat}
theorem run_fnN {pins : List (Addr × Obj)} {σ : L2.St} {H : Hp} {s : Shared} {Q : VK} {us ws : List Value} {vs zs : List V} (F : FnOk tk X.prog X.w X.K X.mg X.base CX k f fd ps sp) (ht : tk ≤ X.s_0.toks) (hr : Room k X.A) (hb : KBn X.K fd ps m ks g gV) (hx : Passes CX X E)
    (n : Tk X s) (I : Inv X pins σ H s) (r : Vals vs us) (rz : Vals zs ws) (l1 : vs.length = m) (l2 : zs.length = ks.length) (h : sp (gV vs zs) H Q E) : wpAny (model X.prog X.w) X.A (call (.ref f) us (ks.zip ws)) (EP X pins σ Q) X.xe s :=
  call_run F ht hr hx n I (hb.to s us ws I.kIn (r.length.symm.trans l1) (rz.length.symm.trans l2)) (hb.rel r rz) h
theorem pe_callN (F : FnOk tk X.prog X.w X.K X.mg X.base CX k f fd ps sp) (ht : tk ≤ X.s_0.toks) (hr : Room k X.A) (hg : Gl X x) (hm : X.mg x = some (.ref f)) (hk : PySem.W.keepIn X.K (.ref f) = true) (hb : KBn X.K fd ps m ks g gV) (hx : Passes CX X E)
    (ha : PA X (e :: es) t) (hkw : PK X kws tkw) (hall : (backToKw pos (keywordEach kws X.env)).all (·.1.isSome) = true := by rfl) (hks : (backToKw pos (keywordEach kws X.env)).filterMap (·.1) = ks := by rfl)
    (hdb : (x == ("__debug__" : Str)) = false := by decide) (he : starEach (e :: es) X.env = (false, eval e X.env) :: starEach es X.env := by rfl)
    (hpl : ((backTo pos (starEach (e :: es) X.env)).any (·.1) || (backToKw pos (keywordEach kws X.env)).any (·.1.isNone)) = false := by rfl) :
    PE X (.Call (.Name x p) (e :: es) kws pos) (tCallN m ks.length sp gV E t tkw) := by
  refine ⟨fun pins s σ H Q n I h => wpAny_Call_Name_kw (ld_glob I hg hm ?_ hdb)⟩
  refine PySem.W.callWith_KW (h₀ := X.base) I.ok.mod.kin hk hall (ha.go n I h fun us s1 vs H1 n1 I1 r q => ?_) hpl he
  refine tkm (hkw.run pos pins s1 σ H1 _ n1 I1 q) n1 fun ws s2 n2 ⟨zs, H2, I2, rz, l1, l2, q2⟩ => ⟨I2.kIn, ?_⟩
  rw [hks]
  exact run_fnN F ht hr hb hx n2 I2 r rz l1 l2 q2
theorem pe_callN0 (F : FnOk tk X.prog X.w X.K X.mg X.base CX k f fd ps sp) (ht : tk ≤ X.s_0.toks) (hr : Room k X.A) (hg : Gl X x) (hm : X.mg x = some (.ref f)) (hk : PySem.W.keepIn X.K (.ref f) = true) (hb : KBn X.K fd ps 0 ks g gV) (hx : Passes CX X E)
    (hkw : PK X kws tkw) (hall : (backToKw pos (keywordEach kws X.env)).all (·.1.isSome) = true) (hks : (backToKw pos (keywordEach kws X.env)).filterMap (·.1) = ks)
    (hdb : (x == ("__debug__" : Str)) = false)
    (hpl : ((backTo pos (starEach [] X.env)).any (·.1) || (backToKw pos (keywordEach kws X.env)).any (·.1.isNone)) = false) :
    PE X (.Call (.Name x p) [] kws pos) (tCallN 0 ks.length sp gV E tNil tkw) := by
  refine ⟨fun pins s σ H Q n I h => wpAny_Call_Name_kw (ld_glob I hg hm ?_ hdb)⟩
  refine PySem.W.callWith_KW0 (h₀ := X.base) I.ok.mod.kin hk hall (tkm (hkw.run pos pins s σ H _ n I h) n fun ws s2 n2 ⟨zs, H2, I2, rz, l1, l2, q2⟩ => ⟨I2.kIn, ?_⟩) hpl
  rw [hks]
  exact run_fnN (us := []) (vs := []) F ht hr hb hx n2 I2 .nil rz l1 l2 q2
/-! built-in functions and types -/
variable {T id : String} {r : List V → Hp → VK → Prop}
theorem pe_callB (hc : CallR X (.builtin id) r) (hg : Gl X x) (hm : X.mg x = none) (hv : bootBuiltins x = some (.builtin id)) (ha : PA X (e :: es) t) (hn : x ≠ "__name__" := by decide) (hdb : (x == ("__debug__" : Str)) = false := by decide)
    (he : starEach (e :: es) X.env = (false, eval e X.env) :: starEach es X.env := by rfl) (hpl : (backTo pos (starEach es X.env)).any (·.1) = false := by rfl) : PE X (.Call (.Name x p) (e :: es) [] pos) (tCB r t) :=
  ⟨fun pins s σ H Q n I h => wpAny_Call_Name_kw (ld_blt I hg hm hv (PyProof.Rows.callWith_builtin1 (ha.go n I h fun us s1 vs H1 n1 I1 r1 q1 => hc pins s1 σ H1 vs us Q I1 r1 q1) he hpl) hn hdb)⟩
theorem pe_callTy (hc : CallR X (.type T) r) (hg : Gl X x) (hm : X.mg x = none) (hv : bootBuiltins x = some (.type T)) (ha : PA X (e :: es) t) (hn : x ≠ "__name__" := by decide) (hdb : (x == ("__debug__" : Str)) = false := by decide)
    (he : starEach (e :: es) X.env = (false, eval e X.env) :: starEach es X.env := by rfl) (hpl : (backTo pos (starEach es X.env)).any (·.1) = false := by rfl) : PE X (.Call (.Name x p) (e :: es) [] pos) (tCB r t) :=
  ⟨fun pins s σ H Q n I h => wpAny_Call_Name_kw (ld_blt I hg hm hv (PyProof.Rows.callWith_type1 (ha.go n I h fun us s1 vs H1 n1 I1 r1 q1 => hc pins s1 σ H1 vs us Q I1 r1 q1) he hpl) hn hdb)⟩
theorem pe_callTy0 (hc : CallR X (.type T) r) (hg : Gl X x) (hm : X.mg x = none) (hv : bootBuiltins x = some (.type T)) (hn : x ≠ "__name__" := by decide) (hdb : (x == ("__debug__" : Str)) = false := by decide) :
    PE X (.Call (.Name x p) [] [] pos) (tCB r tNil) := .up (L2.pe_callTy0 hc hg hm hv hn hdb)
end

/-! ### methods of built-in types -/
section
variable {X : Cx} {o e : Expr} {es : List Expr} {to : TE} {t : TA} {name : Str} {apos cpos : Pos} {T id : String} {r : V → List V → Hp → VK → Prop}
theorem pe_bm0 (pa : PlainAttrs T) (slot : Slot T name id) (hty : typeOf (.builtin id) = pure (.type "method_descriptor")) (hm : MtR X id r) (ho : PE X o to)
    (hbase : attributeBase o name X.env (eval o X.env) = eval o X.env := by rfl) (hline : (apos.endLine == cpos.line) = true := by rfl) : PE X (.Call (.Attribute o name apos) [] [] cpos) (tBM0 X.K T r to) := by
  refine ⟨fun pins s σ H Q n I h => wpAny_Call_method0_late hbase hline (ho.go n I h fun v s1 x H1 n1 I1 r1 ⟨ty, q1⟩ => ?_)⟩
  obtain ⟨h1, h2⟩ := tyV_is I1 r1 ty
  exact ⟨T, id, pa, slot, hty, h1, h2, Calls.callWith_builtin rfl (PySem.evalArgs_none (hm pins s1 σ H1 x [] v [] Q I1 r1 .nil q1))⟩
theorem pe_bm (pa : PlainAttrs T) (slot : Slot T name id) (hty : typeOf (.builtin id) = pure (.type "method_descriptor")) (hm : MtR X id r) (ho : PE X o to) (ha : PA X (e :: es) t)
    (hbase : attributeBase o name X.env (eval o X.env) = eval o X.env := by rfl)
    (hfew : ((backTo cpos (starEach (e :: es) X.env)).all (fun x => !x.1) && (backToKw cpos (keywordEach [] X.env)).all (fun x => x.1.isSome)
      && decide ((e :: es).length + ([] : List Keyword).length + (if ([] : List Keyword).isEmpty then 0 else 1) < 30)) = true := by rfl)
    (hline : (apos.endLine == cpos.line) = true := by rfl) (hs : starEach (e :: es) X.env = (false, eval e X.env) :: starEach es X.env := by rfl) (hplain : (backTo cpos (starEach es X.env)).any (·.1) = false := by rfl) :
    PE X (.Call (.Attribute o name apos) (e :: es) [] cpos) (tBM X.K T r to t) := by
  refine ⟨fun pins s σ H Q n I h => wpAny_Call_method_late hbase hfew hline rfl (ho.go n I h fun v s1 x H1 n1 I1 r1 ⟨ty, q1⟩ => ?_)⟩
  obtain ⟨h1, h2⟩ := tyV_is I1 r1 ty
  refine ⟨T, id, pa, slot, hty, h1, h2, ?_⟩
  have hA := ha.run cpos pins s1 σ H1 _ n1 I1 q1
  rw [hs] at hA ⊢
  refine Calls.callWith_builtin (by show (false || (backTo cpos (starEach es X.env)).any (·.1)) = false; rw [hplain] <;> rfl) (Calls.evalArgs_plain ?_)
  exact thn hA fun us s2 ⟨vs, H2, I2, r2, q2⟩ => hm pins s2 σ H2 x vs v us Q I2 r1 r2 q2
/-- e.replace(NAME, 'z'): the name a constant text of the module, its token below the count -/
def tRepK (to : TE) (y z : Str) : TE := fun σ H Q => to σ H fun v H1 => ∃ x, v = .str x ∧ x.length + (x.length + 1) * z.length ≤ 16777216 ∧ Q (.str (Txt.replace x y z)) H1
theorem pe_repK {y z : Str} {ty : Tok} {nx : Str} {j : Nat} {c0 c1 : Pos} (ho : PE X o to) (hg : Gl X nx) (hm : X.mg nx = some (.str y ty)) (h0 : (ty == 0) = false) (hlt : ty < X.s_0.toks) (hyz : (y == z) = false)
    (hdb : (nx == ("__debug__" : Str)) = false := by decide)
    (hst : starEach [.Name nx c0, .Constant (.str z) j c1] X.env = [(false, eval (.Name nx c0) X.env), (false, eval (.Constant (.str z) j c1) X.env)] := by rfl)
    (hbase : attributeBase o "replace" X.env (eval o X.env) = eval o X.env := by rfl) (hline : (apos.endLine == cpos.line) = true := by rfl) :
    PE X (.Call (.Attribute o "replace" apos) [.Name nx c0, .Constant (.str z) j c1] [] cpos) (tRepK to y z) := by
  refine ⟨fun pins s σ H Q n I h => PySem.Call_method2 hbase hst hline (ho.go n I h fun v s1 v' H1 n1 I1 r1 ⟨x, e1, hb, q⟩ => ?_)⟩
  subst e1
  obtain ⟨tx, e2⟩ := r1
  subst e2
  refine ⟨"str", _, PySem.F.plainAttrs_str, PySem.F.slot_str_replace, PySem.F.type_str_replace, typeIs_str _ _ _, (fun _ e => nomatch e), Calls.callWith_builtin rfl (Calls.evalArgs_plain (Calls.spliced_cons (ld_glob I1 hg hm ?_ hdb)))⟩
  refine Calls.spliced_cons (Calls.Constant_str (Calls.spliced_nil ?_))
  have n1' : X.s_0.toks ≤ s1.toks := n1
  have h0' : ty ≠ 0 := by simpa using h0
  have l1 : ty < s1.toks := Nat.lt_of_lt_of_le hlt n1'
  exact PySem.SC.replace h0' (Nat.ne_of_gt (Nat.lt_of_le_of_lt (Nat.zero_le _) l1)) (Nat.ne_of_lt l1) hyz hb fun t' k => ⟨.str (Txt.replace x y z), H1, I1.tok k, ⟨t', rfl⟩, q⟩
/-- .. of two written texts -/
theorem pe_repC {y z : Str} {i j : Nat} {c0 c1 : Pos} (ho : PE X o to) (hp : 0 < X.s_0.toks) (hyz : (y == z) = false)
    (hst : starEach [.Constant (.str y) i c0, .Constant (.str z) j c1] X.env = [(false, eval (.Constant (.str y) i c0) X.env), (false, eval (.Constant (.str z) j c1) X.env)] := by rfl)
    (hbase : attributeBase o "replace" X.env (eval o X.env) = eval o X.env := by rfl) (hline : (apos.endLine == cpos.line) = true := by rfl) :
    PE X (.Call (.Attribute o "replace" apos) [.Constant (.str y) i c0, .Constant (.str z) j c1] [] cpos) (tRepK to y z) := by
  refine ⟨fun pins s σ H Q n I h => PySem.Call_method2 hbase hst hline (ho.go n I h fun v s1 v' H1 n1 I1 r1 ⟨x, e1, hb, q⟩ => ?_)⟩
  subst e1
  obtain ⟨tx, e2⟩ := r1
  subst e2
  refine ⟨"str", _, PySem.F.plainAttrs_str, PySem.F.slot_str_replace, PySem.F.type_str_replace, typeIs_str _ _ _, (fun _ e => nomatch e), Calls.callWith_builtin rfl (Calls.evalArgs_plain (Calls.spliced_cons ?_))⟩
  refine Calls.Constant_str (Calls.spliced_cons (Calls.Constant_str (Calls.spliced_nil ?_)))
  have n1' : X.s_0.toks ≤ s1.toks := n1
  exact PySem.SC.replace (by show s1.toks ≠ 0; omega) (by show s1.toks + 1 ≠ 0; omega) (by show s1.toks ≠ s1.toks + 1; omega) hyz hb fun t' k => ⟨.str (Txt.replace x y z), H1, I1.tok k, ⟨t', rfl⟩, q⟩
end
end M3
/-! M3, part a: data as trees, the tie between trees and the abstract heap, the judgements of the mirror. -/
namespace M3
open PySem PySem.Spec PyProof.Rows L2

inductive T where
  | non | bl (b : Bool) | int (i : Int) | str (s : List Nat)
  | tup (ts : List T) | lst (ts : List T) | frz (ts : List T) | dct (b : Bool) (ks vs : List T)

inductive R (α : Type) where
  | ok (a : α) | ex (c : String) (t : T) | no

def R.bind {α β : Type} : R α → (α → R β) → R β
  | .ok a, f => f a
  | .ex c t, _ => .ex c t
  | .no, _ => .no

/-- a slot of the mirror's frame: nothing known, a value that never changes, a list or dict of the frame's own (true: handed in) -/
inductive Sl where
  | no | val (t : T) | own (b : Bool) (t : T)
abbrev EnvM := List Sl
abbrev XM := EnvM → R (T × EnvM)

/-- a text's signs: not too many, each a code point -/
def okS (cs : List Nat) : Bool := Nat.ble cs.length 16777216 && cs.all fun c => Nat.blt c 1114112
theorem okS_len {cs : List Nat} (h : okS cs = true) : cs.length ≤ sizeLine := by
  rw [sizeLine_eq]; exact Nat.le_of_ble_eq_true (Bool.and_eq_true_iff.mp h).1
theorem okS_all {cs : List Nat} (h : okS cs = true) : ∀ c ∈ cs, c < 1114112 := fun c hc => Nat.le_of_ble_eq_true (List.all_eq_true.mp (Bool.and_eq_true_iff.mp h).2 c hc)
theorem okS_of {cs : List Nat} (h1 : cs.length ≤ sizeLine) (h2 : ∀ c ∈ cs, c < 1114112) : okS cs = true :=
  Bool.and_eq_true_iff.mpr ⟨Nat.ble_eq_true_of_le (by rw [sizeLine_eq] at h1; exact h1), List.all_eq_true.mpr fun c hc => Nat.ble_eq_true_of_le (h2 c hc)⟩
def keyT : Key → T
  | .inl i => .int i
  | .inr x => .str x.cps.toList

/-- a list that nobody changes: the script's, the module's -/
def Fz (K : PySem.W.Frag) (W : Addr → Prop) (H : Hp) (a : Addr) (xs : List V) : Prop :=
  (¬ W a ∧ Rd H a (.lst xs)) ∨ ∃ (o : Obj) (its : Array Value) (n : Nat), K.lookup a = some o ∧ o.cls = .type "list" ∧ o.dict = none ∧ o.data = .seq its n ∧ its.size ≤ sizeLine ∧ Vals xs its.toList
theorem Fz.seq {K : PySem.W.Frag} {W : Addr → Prop} {H : Hp} {a : Addr} {xs : List V} (h : Fz K W H a xs) : SqL K H a xs := by
  rcases h with ⟨_, h⟩ | h
  · exact .inl h
  · exact .inr h
def okKey : Key → Bool
  | .inl _ => true
  | .inr x => okS x.cps.toList
/-- a dict's object: the trees of its keys, its values (b: its keys are tuples) -/
inductive DO : HO → Bool → List T → List V → Prop
  | k (kvs : List (Key × V)) : (∀ p ∈ kvs, okKey p.1 = true) → DO (.dK kvs) false (kvs.map fun p => keyT p.1) (kvs.map (·.2))
  | t (kvs : List (List Key × V)) : (∀ p ∈ kvs, ∀ k ∈ p.1, okKey k = true) → DO (.dT kvs) true (kvs.map fun p => .tup (p.1.map keyT)) (kvs.map (·.2))
/-- .. it may be locked -/
inductive DZ : HO → Bool → List T → List V → Prop
  | of {o : HO} {b : Bool} {ks : List T} {ws : List V} : DO o b ks ws → DZ o b ks ws
  | z {ob : Obj} {o : HO} {b : Bool} {ks : List T} {ws : List V} : DO o b ks ws → DZ (.frz ob o) b ks ws
mutual
/-- v is the tree t; what W holds is in somebody's hands and may change -/
inductive Is (K : PySem.W.Frag) (W : Addr → Prop) (H : Hp) : V → T → Prop
  | non : Is K W H .non .non
  | bl (b : Bool) : Is K W H (.bl b) (.bl b)
  | int (i : Int) : Is K W H (.int i) (.int i)
  | str (cs : List Nat) : okS cs = true → Is K W H (.str ⟨cs.toArray⟩) (.str cs)
  | tup {a : Addr} {xs : List V} {ts : List T} : SqT K H a xs → IsL K W H xs ts → Is K W H (.ref a) (.tup ts)
  | lst {a : Addr} {xs : List V} {ts : List T} : ¬ W a → H a = some (.lst xs) → IsL K W H xs ts → Is K W H (.ref a) (.lst ts)
  | frz {a : Addr} {xs : List V} {ts : List T} : Fz K W H a xs → IsL K W H xs ts → Is K W H (.ref a) (.frz ts)
  | dct {a : Addr} {o : HO} {b : Bool} {ks : List T} {ws : List V} {vs : List T} : ¬ W a → H a = some o → DZ o b ks ws → IsL K W H ws vs → Is K W H (.ref a) (.dct b ks vs)
inductive IsL (K : PySem.W.Frag) (W : Addr → Prop) (H : Hp) : List V → List T → Prop
  | nil : IsL K W H [] []
  | cons {v : V} {vs : List V} {t : T} {ts : List T} : Is K W H v t → IsL K W H vs ts → IsL K W H (v :: vs) (t :: ts)
end

/-- what is held may go on: all that nobody holds stays, nothing old is newly held -/
structure Fut (W : Addr → Prop) (H : Hp) (W' : Addr → Prop) (H' : Hp) : Prop where
  keep : ∀ a o, H a = some o → ¬ W a → H' a = some o
  held : ∀ a, W' a → H a ≠ none → W a
  trk : ∀ a, H a ≠ none → H' a ≠ none

theorem Fut.refl {W : Addr → Prop} {H : Hp} : Fut W H W H := ⟨fun _ _ h _ => h, fun _ h _ => h, fun _ h => h⟩
theorem Fut.trans {W W1 W2 : Addr → Prop} {H H1 H2 : Hp} (a : Fut W H W1 H1) (b : Fut W1 H1 W2 H2) : Fut W H W2 H2 := by
  refine ⟨fun c o h n => b.keep c o (a.keep c o h n) fun w => n (a.held c w (by rw [h]; exact fun z => nomatch z)), fun c w h => ?_, fun c h => b.trk c (a.trk c h)⟩
  exact a.held c (b.held c w (a.trk c h)) h
theorem Fut.same {W : Addr → Prop} {H H' : Hp} (s : Same H H') : Fut W H W H' := ⟨fun a o h _ => s a o h, fun _ h _ => h, fun a h z => by
  cases q : H a with
  | none => exact h q
  | some o => rw [s a o q] at z; cases z⟩

/-- what is held may be written -/
def Muts (W : Addr → Prop) (H : Hp) : Prop := ∀ a, W a → Mut (H a)

section
variable {K : PySem.W.Frag} {W W' : Addr → Prop} {H H' : Hp}
theorem SqT.fut (f : Fut W H W' H') (m : Muts W H) {a : Addr} {xs : List V} (h : SqT K H a xs) : SqT K H' a xs := by
  rcases h with (h | ⟨o, h⟩) | h
  · exact .inl (.inl (f.keep _ _ h fun w => by have := m _ w; rw [h] at this; exact this))
  · exact .inl (.inr ⟨o, f.keep _ _ h fun w => by have := m _ w; rw [h] at this; exact this⟩)
  · exact .inr h
theorem Fz.fut (f : Fut W H W' H') {a : Addr} {xs : List V} (h : Fz K W H a xs) : Fz K W' H' a xs := by
  rcases h with ⟨n, h | ⟨o, h⟩⟩ | h
  · exact .inl ⟨fun w => n (f.held _ w (by rw [h]; exact fun z => nomatch z)), .inl (f.keep _ _ h n)⟩
  · exact .inl ⟨fun w => n (f.held _ w (by rw [h]; exact fun z => nomatch z)), .inr ⟨o, f.keep _ _ h n⟩⟩
  · exact .inr h
theorem Fz.weak {W W' : Addr → Prop} (f : ∀ a, W' a → W a) {a : Addr} {xs : List V} (h : Fz K W H a xs) : Fz K W' H a xs := by
  rcases h with ⟨n, h⟩ | h
  · exact .inl ⟨fun w => n (f _ w), h⟩
  · exact .inr h
mutual
theorem Is.weak {W W' : Addr → Prop} (f : ∀ a, W' a → W a) : ∀ {v : V} {t : T}, Is K W H v t → Is K W' H v t
  | _, _, .non => .non
  | _, _, .bl b => .bl b
  | _, _, .int i => .int i
  | _, _, .str cs h => .str cs h
  | _, _, .tup q l => .tup q (IsL.weak f l)
  | _, _, .lst n q l => .lst (fun w => n (f _ w)) q (IsL.weak f l)
  | _, _, .frz q l => .frz (q.weak f) (IsL.weak f l)
  | _, _, .dct n q d l => .dct (fun w => n (f _ w)) q d (IsL.weak f l)
theorem IsL.weak {W W' : Addr → Prop} (f : ∀ a, W' a → W a) : ∀ {vs : List V} {ts : List T}, IsL K W H vs ts → IsL K W' H vs ts
  | _, _, .nil => .nil
  | _, _, .cons q l => .cons (Is.weak f q) (IsL.weak f l)
end
mutual
theorem Is.fut (f : Fut W H W' H') (m : Muts W H) : ∀ {v : V} {t : T}, Is K W H v t → Is K W' H' v t
  | _, _, .non => .non
  | _, _, .bl b => .bl b
  | _, _, .int i => .int i
  | _, _, .str cs h => .str cs h
  | _, _, .tup q l => .tup (SqT.fut f m q) (IsL.fut f m l)
  | _, _, .lst n q l => .lst (fun w => n (f.held _ w (by rw [q]; exact fun z => nomatch z))) (f.keep _ _ q n) (IsL.fut f m l)
  | _, _, .frz q l => .frz (q.fut f) (IsL.fut f m l)
  | _, _, .dct n q d l => .dct (fun w => n (f.held _ w (by rw [q]; exact fun z => nomatch z))) (f.keep _ _ q n) d (IsL.fut f m l)
theorem IsL.fut (f : Fut W H W' H') (m : Muts W H) : ∀ {vs : List V} {ts : List T}, IsL K W H vs ts → IsL K W' H' vs ts
  | _, _, .nil => .nil
  | _, _, .cons q l => .cons (Is.fut f m q) (IsL.fut f m l)
end
theorem IsL.length : ∀ {vs : List V} {ts : List T}, IsL K W H vs ts → vs.length = ts.length
  | _, _, .nil => rfl
  | _, _, .cons _ l => congrArg (· + 1) (IsL.length l)
theorem IsL.get : ∀ {vs : List V} {ts : List T} {i : Nat} {t : T}, IsL K W H vs ts → ts[i]? = some t → ∃ v, vs[i]? = some v ∧ Is K W H v t
  | _, _, _, _, .nil, e => by simp at e
  | _, _, 0, _, .cons q _, e => by simp at e; subst e; exact ⟨_, rfl, q⟩
  | _, _, i + 1, t, .cons _ l, e => by
    obtain ⟨v, h1, h2⟩ := IsL.get (i := i) (t := t) l (by simpa using e)
    exact ⟨v, by simpa using h1, h2⟩
theorem IsL.append : ∀ {vs ws : List V} {ts us : List T}, IsL K W H vs ts → IsL K W H ws us → IsL K W H (vs ++ ws) (ts ++ us)
  | _, _, _, _, .nil, s => s
  | _, _, _, _, .cons r t, s => .cons r (IsL.append t s)
theorem IsL.take : ∀ {vs : List V} {ts : List T} (n : Nat), IsL K W H vs ts → IsL K W H (vs.take n) (ts.take n)
  | _, _, 0, _ => .nil
  | _, _, _ + 1, .nil => .nil
  | _, _, n + 1, .cons r t => .cons r (IsL.take n t)
theorem IsL.drop : ∀ {vs : List V} {ts : List T} (n : Nat), IsL K W H vs ts → IsL K W H (vs.drop n) (ts.drop n)
  | _, _, 0, r => r
  | _, _, _ + 1, .nil => .nil
  | _, _, n + 1, .cons _ t => IsL.drop n t
theorem IsL.set : ∀ {vs : List V} {ts : List T} {v : V} {t : T} (n : Nat), IsL K W H vs ts → Is K W H v t → IsL K W H (vs.set n v) (ts.set n t)
  | _, _, _, _, _, .nil, _ => .nil
  | _, _, _, _, 0, .cons _ l, q => .cons q l
  | _, _, _, _, n + 1, .cons r l, q => .cons r (IsL.set n l q)
theorem IsL.reverse : ∀ {vs : List V} {ts : List T}, IsL K W H vs ts → IsL K W H vs.reverse ts.reverse
  | _, _, .nil => .nil
  | _, _, .cons r l => by
    rw [List.reverse_cons, List.reverse_cons]
    exact (IsL.reverse l).append (.cons r .nil)
end

/-- the ghosts of an entry: who was held, the heap, the slots -/
structure Gh where
  W0 : Addr → Prop
  H0 : Hp
  s0 : L2.St

/-- a thing of the frame's own -/
def IsO (K : PySem.W.Frag) (W : Addr → Prop) (H : Hp) (a : Addr) : T → Prop
  | .lst ts => ∃ xs, H a = some (.lst xs) ∧ IsL K W H xs ts
  | .dct b ks vs => ∃ o ws, H a = some o ∧ DO o b ks ws ∧ IsL K W H ws vs
  | _ => False

/-- the frame's slots are the mirror's. W: all that is held by somebody, M: by this frame -/
structure RE (K : PySem.W.Frag) (G : Gh) (W M : Addr → Prop) (σ : L2.St) (H : Hp) (env : EnvM) : Prop where
  len : σ.length = env.length
  val : ∀ (i : Nat) (t : T), env[i]? = some (Sl.val t) → ∃ v, σ[i]? = some (some v) ∧ Is K W H v t
  own : ∀ (i : Nat) (b : Bool) (t : T), env[i]? = some (Sl.own b t) → ∃ a, σ[i]? = some (some (V.ref a)) ∧ M a ∧ IsO K W H a t ∧ (if b = true then G.s0[i]? = some (some (V.ref a)) else G.H0 a = none)
  inj : ∀ (i j : Nat) b t b' t', env[i]? = some (Sl.own b t) → env[j]? = some (Sl.own b' t') → σ[i]? = σ[j]? → i = j
  sub : ∀ a, M a → W a
  muts : Muts W H
  old : ∀ a, G.W0 a → W a
  ent : ∀ a, G.W0 a → G.H0 a ≠ none
  trk : ∀ a, G.H0 a ≠ none → H a ≠ none

/-- an expression's end: what this frame holds may have changed -/
structure Ev (M : Addr → Prop) (H H' : Hp) : Prop where
  keep : ∀ a o, H a = some o → ¬ M a → H' a = some o
  trk : ∀ a, H a ≠ none → H' a ≠ none
theorem Ev.refl {M : Addr → Prop} {H : Hp} : Ev M H H := ⟨fun _ _ h _ => h, fun _ h => h⟩
theorem Ev.trans {M : Addr → Prop} {H H1 H2 : Hp} (a : Ev M H H1) (b : Ev M H1 H2) : Ev M H H2 :=
  ⟨fun c o h n => b.keep c o (a.keep c o h n) n, fun c h => b.trk c (a.trk c h)⟩
theorem Ev.same {M : Addr → Prop} {H H' : Hp} (s : Same H H') : Ev M H H' := ⟨fun a o h _ => s a o h, (Fut.same (W := M) s).trk⟩
theorem Ev.fut {M W : Addr → Prop} {H H' : Hp} (e : Ev M H H') (h : ∀ a, M a → W a) : Fut W H W H' := ⟨fun a o q n => e.keep a o q fun m => n (h a m), fun _ h _ => h, e.trk⟩

structure Prg where
  prog : Program
  w : World
  K : PySem.W.Frag
  mg : Str → Option Value
  base : Heap
  /-- so many tokens are out at each entry -/
  tk : Nat
structure Dat extends Prg where
  A : Around
  N : List Str
  sc : Scope
  fn : Str → Bool
  E : XK
structure Vr where
  s0 : Shared
  H0 : Hp
  env : Env
  outer : List Env
  stack : List Env
  ex : List Addr
  pn : List (Addr × Obj)
  xe : Value → Shared → Prop
abbrev Dat.cx (D : Dat) (v : Vr) : Cx :=
  { prog := D.prog, w := D.w, K := D.K, mg := D.mg, base := D.base, A := D.A, N := D.N, s_0 := v.s0, H_0 := v.H0, env := { v.env with scope := D.sc }, outer := v.outer, stack := v.stack, ex := v.ex, fn := D.fn, calm := true, pn := v.pn, xe := v.xe }
structure Dat.Good (D : Dat) (v : Vr) : Prop where
  pas : Passes (L2.CX D.prog D.w) (D.cx v) D.E
  tk : Takes (D.cx v) (fun cls d _ H => D.E cls d H)
  own : PassesOwn (model D.prog D.w) D.A (D.cx v).env v.xe
  tok : D.tk ≤ v.s0.toks

/-- the exception c(t) is let out as the def wishes -/
def ExW (D : Dat) (W M : Addr → Prop) (H : Hp) (c : String) (t : T) : Prop :=
  ∀ H' C d f v, Ev M H H' → D.mg (Str.ofString c) = some (.ref C) → H' d = some (.xd [(f, v)]) → Is D.K W H' v t → D.E (.ref C) (some d) H'

def Pst (D : Dat) (G : Gh) (W M : Addr → Prop) (σ : L2.St) (H : Hp) (Q : VK) : R (T × EnvM) → Prop
  | .ok (t, env') => ∀ v H', Ev M H H' → RE D.K G W M σ H' env' → Is D.K W H' v t → Q v H'
  | .ex c t => ExW D W M H c t
  | .no => False
def TEok (D : Dat) (m : XM) (te : TE) : Prop := ∀ G W M σ H env, RE D.K G W M σ H env → ∀ Q : VK, Pst D G W M σ H Q (m env) → te σ H Q
def ME (D : Dat) (e : Expr) (m : XM) : Prop := ∃ te, (∀ v, D.Good v → PE (D.cx v) e te) ∧ TEok D m te

/-- a test -/
abbrev TM := EnvM → R (Bool × EnvM)
def PstT (D : Dat) (G : Gh) (W M : Addr → Prop) (σ : L2.St) (H : Hp) (Q : Bool → Hp → Prop) : R (Bool × EnvM) → Prop
  | .ok (t, env') => ∀ H', Ev M H H' → RE D.K G W M σ H' env' → Q t H'
  | .ex c t => ExW D W M H c t
  | .no => False
def TTok (D : Dat) (m : TM) (tt : TT) : Prop := ∀ G W M σ H env, RE D.K G W M σ H env → ∀ Q, PstT D G W M σ H Q (m env) → tt σ H Q
def MT (D : Dat) (e : Expr) (m : TM) : Prop := ∃ tt, (∀ v, D.Good v → PT (D.cx v) e tt) ∧ TTok D m tt
def MW (D : Dat) (e : Expr) (m : TM) : Prop := ∃ tt, (∀ v, D.Good v → PW (D.cx v) e tt) ∧ TTok D m tt

/-- arguments -/
abbrev AM := EnvM → R (List T × EnvM)
def PstA (D : Dat) (G : Gh) (W M : Addr → Prop) (σ : L2.St) (H : Hp) (Q : List V → Hp → Prop) : R (List T × EnvM) → Prop
  | .ok (ts, env') => ∀ vs H', Ev M H H' → RE D.K G W M σ H' env' → IsL D.K W H' vs ts → Q vs H'
  | .ex c t => ExW D W M H c t
  | .no => False
def TAok (D : Dat) (m : AM) (ta : TA) : Prop := ∀ G W M σ H env, RE D.K G W M σ H env → ∀ Q, PstA D G W M σ H Q (m env) → ta σ H Q
def MA (D : Dat) (es : List Expr) (m : AM) : Prop := ∃ ta, (∀ v, D.Good v → PA (D.cx v) es ta) ∧ TAok D m ta

/-- statements -/
inductive Fl where
  | nx | rt (t : T) | rn (t : T) | bk | ct
abbrev SM := EnvM → R (Fl × EnvM)
/-- behind a statement: what is held may be other things -/
structure EvS (G : Gh) (W M : Addr → Prop) (H : Hp) (W' M' : Addr → Prop) (H' : Hp) : Prop where
  keep : ∀ a o, H a = some o → ¬ M a → H' a = some o
  trk : ∀ a, H a ≠ none → H' a ≠ none
  hW : ∀ a, W' a → H a ≠ none → W a
  hM : ∀ a, M' a → H a ≠ none → M a
def EndP (D : Dat) (G : Gh) (W' : Addr → Prop) (Dn : Ends) (σ' : L2.St) (H' : Hp) : Fl → Prop
  | .nx => Dn.nx σ' H'
  | .rt t => ∀ v, Is D.K W' H' v t → Dn.rt v H'
  | .rn t => ∀ p, G.H0 p = none → IsO D.K (fun a => W' a ∨ a = p) H' p t → Dn.rt (.ref p) H'
  | .bk => Dn.bk σ' H'
  | .ct => Dn.ct σ' H'
def PstS (D : Dat) (G : Gh) (W M : Addr → Prop) (H : Hp) (Dn : Ends) : R (Fl × EnvM) → Prop
  | .ok (f, env') => ∀ W' M' σ' H', EvS G W M H W' M' H' → RE D.K G W' M' σ' H' env' → EndP D G W' Dn σ' H' f
  | .ex c t => ∀ W' M' H', EvS G W M H W' M' H' → (∀ a, G.W0 a → W' a) → ExW D W' M' H' c t
  | .no => False
def TSok (D : Dat) (m : SM) (ts : TS) : Prop := ∀ G W M σ H env, RE D.K G W M σ H env → ∀ Dn, PstS D G W M H Dn (m env) → ts Dn σ H
def MS (D : Dat) (st : Stmt) (m : SM) : Prop := ∃ ts, (∀ v, D.Good v → PS (D.cx v) st ts) ∧ TSok D m ts
def MSs (D : Dat) (st : List Stmt) (m : SM) : Prop := ∃ ts, (∀ v, D.Good v → PSs (D.cx v) st ts) ∧ TSok D m ts
end M3
/-! M3, part b: the rules: names, constants, displays, operators, tests, small statements. -/
namespace M3
open PySem PySem.Spec PyProof.Rows L2

theorem le_line {n : Nat} (h : Nat.ble n 16777216 = true) : n ≤ sizeLine := by
  rw [sizeLine_eq]; exact Nat.le_of_ble_eq_true h

section
variable {K : PySem.W.Frag} {W M : Addr → Prop} {H H' : Hp} {G : Gh} {σ : L2.St} {env : EnvM}
theorem Is.same (s : Same H H') (m : Muts W H) {v : V} {t : T} (h : Is K W H v t) : Is K W H' v t := h.fut (Fut.same s) m
theorem IsL.same (s : Same H H') (m : Muts W H) {v : List V} {t : List T} (h : IsL K W H v t) : IsL K W H' v t := h.fut (Fut.same s) m
theorem Muts.same (s : Same H H') (m : Muts W H) : Muts W H' := fun a w => by
  have q := m a w
  cases e : H a with
  | none => rw [e] at q; exact q.elim
  | some o => rw [s a o e]; rw [e] at q; exact q
theorem IsO.same (s : Same H H') (m : Muts W H) {a : Addr} {t : T} (h : IsO K W H a t) : IsO K W H' a t := by
  cases t with
  | lst ts => obtain ⟨xs, e, l⟩ := h; exact ⟨xs, s _ _ e, l.same s m⟩
  | dct b ks vs => obtain ⟨o, ws, e, k, l⟩ := h; exact ⟨o, ws, s _ _ e, k, l.same s m⟩
  | _ => exact h
theorem RE.same (r : RE K G W M σ H env) (s : Same H H') : RE K G W M σ H' env where
  len := r.len
  val := fun i t e => by obtain ⟨v, h1, h2⟩ := r.val i t e; exact ⟨v, h1, h2.same s r.muts⟩
  own := fun i b t e => by obtain ⟨a, h1, h2, h3, h4⟩ := r.own i b t e; exact ⟨a, h1, h2, h3.same s r.muts, h4⟩
  inj := r.inj
  sub := r.sub
  muts := r.muts.same s
  old := r.old
  ent := r.ent
  trk := fun a h => (Fut.same (W := W) s).trk a (r.trk a h)
theorem Is.ev (e : Ev M H H') (r : RE K G W M σ H env) {v : V} {t : T} (h : Is K W H v t) : Is K W H' v t := h.fut (e.fut r.sub) r.muts
theorem IsL.ev (e : Ev M H H') (r : RE K G W M σ H env) {v : List V} {t : List T} (h : IsL K W H v t) : IsL K W H' v t := h.fut (e.fut r.sub) r.muts
theorem same_upd {p : Addr} {o : HO} (h : H p = none) : Same H (upd H p o) := fun b x e => by
  rw [upd_ne (ne_of_none e h)]; exact e
end

/-- a value, or a thing of the frame's own, looked at -/
def IsB (K : PySem.W.Frag) (W : Addr → Prop) (H : Hp) (v : V) (t : T) : Prop := Is K W H v t ∨ ∃ a, v = .ref a ∧ IsO K W H a t
def PstB (D : Dat) (G : Gh) (W M : Addr → Prop) (σ : L2.St) (H : Hp) (Q : VK) : R (T × EnvM) → Prop
  | .ok (t, env') => ∀ v H', Ev M H H' → RE D.K G W M σ H' env' → IsB D.K W H' v t → Q v H'
  | .ex c t => ExW D W M H c t
  | .no => False
def TBok (D : Dat) (m : XM) (te : TE) : Prop := ∀ G W M σ H env, RE D.K G W M σ H env → ∀ Q : VK, PstB D G W M σ H Q (m env) → te σ H Q
def MB (D : Dat) (e : Expr) (m : XM) : Prop := ∃ te, (∀ v, D.Good v → PE (D.cx v) e te) ∧ TBok D m te

theorem ExW.ev {D : Dat} {W M : Addr → Prop} {H H' : Hp} {c : String} {t : T} (e : Ev M H H') (h : ExW D W M H c t) : ExW D W M H' c t :=
  fun H2 C d f v e2 => h H2 C d f v (e.trans e2)

section
variable {D : Dat} {e a b : Expr} {m ma mb : XM} {pos : Pos}
theorem mb_of (h : ME D e m) : MB D e m := by
  obtain ⟨te, hp, hk⟩ := h
  refine ⟨te, hp, fun G W M σ H env r Q q => hk G W M σ H env r Q ?_⟩
  cases e1 : m env with
  | ok p => obtain ⟨t, env'⟩ := p; rw [e1] at q; exact fun v H' ev r' i => q v H' ev r' (.inl i)
  | ex c t => rw [e1] at q; exact q
  | no => rw [e1] at q; exact q

/-! ### names, constants -/
@[simp] def xVar (i : Nat) : XM := fun env => match env[i]? with
  | some (.val t) => .ok (t, env)
  | _ => .no
@[simp] def xOwn (i : Nat) : XM := fun env => match env[i]? with
  | some (.own _ t) => .ok (t, env)
  | _ => .no
@[simp] def xC (t : T) : XM := fun env => .ok (t, env)
theorem me_var (i : Nat) {x : Str} (hN : D.N[i]? = some x) (hv : Vis D.sc x) (hd : (x == ("__debug__" : Str)) = false := by decide) (hcd : (x == ("__classdict__" : Str)) = false := by decide) : ME D (.Name x pos) (xVar i) := by
  refine ⟨tVar i, fun v _ => pe_var (X := D.cx v) hN hv hd hcd, fun G W M σ H env r Q q => ?_⟩
  unfold xVar at q
  split at q
  · rename_i t e
    obtain ⟨v, h1, h2⟩ := r.val i t e
    exact ⟨v, h1, q v H Ev.refl r h2⟩
  · exact q.elim
theorem mb_own (i : Nat) {x : Str} (hN : D.N[i]? = some x) (hv : Vis D.sc x) (hd : (x == ("__debug__" : Str)) = false := by decide) (hcd : (x == ("__classdict__" : Str)) = false := by decide) : MB D (.Name x pos) (xOwn i) := by
  refine ⟨tVar i, fun v _ => pe_var (X := D.cx v) hN hv hd hcd, fun G W M σ H env r Q q => ?_⟩
  unfold xOwn at q
  split at q
  · rename_i b t e
    obtain ⟨a, h1, h2, h3, h4⟩ := r.own i b t e
    exact ⟨.ref a, h1, q _ H Ev.refl r (.inr ⟨a, rfl, h3⟩)⟩
  · exact q.elim
theorem me_const {v : V} {t : T} (he : ∀ x, PE (D.cx x) e (tC v)) (h : ∀ W H, Is D.K W H v t) : ME D e (xC t) :=
  ⟨tC v, fun x _ => he x, fun G W M σ H env r Q q => q v H Ev.refl r (h W H)⟩
theorem me_int {i : Int} {j} : ME D (.Constant (.int i) j pos) (xC (.int i)) := me_const (fun _ => pe_int) fun _ _ => .int i
theorem me_bl {b : Bool} {j} : ME D (.Constant (.bool b) j pos) (xC (.bl b)) := me_const (fun _ => pe_bl) fun _ _ => .bl b
theorem me_non {j} : ME D (.Constant .none j pos) (xC .non) := me_const (fun _ => pe_non) fun _ _ => .non
theorem str_eta (x : Str) : (⟨x.cps.toList.toArray⟩ : Str) = x := by cases x; simp
theorem me_str {x : Str} {j} (cs : List Nat) (hc : x.cps.toList = cs := by decide +kernel) (hl : okS cs = true := by decide +kernel) : ME D (.Constant (.str x) j pos) (xC (.str cs)) := by
  subst hc
  refine me_const (v := .str x) (fun _ => pe_str) fun _ _ => ?_
  rename_i W H
  have q := Is.str (K := D.K) (W := W) (H := H) x.cps.toList hl
  rw [str_eta] at q
  exact q
/-- a module's constant -/
theorem me_glob {x : Str} {v : V} {u : Value} {t : T} (hg : D.sc.names.lookup x = some .globalImplicit) (hm : D.mg x = some u) (r : RelV v u) (h : ∀ W H, Is D.K W H v t) (hd : (x == ("__debug__" : Str)) = false := by decide) : ME D (.Name x pos) (xC t) :=
  me_const (fun w => pe_glob (X := D.cx w) hg hm r hd) h

/-! ### arguments, displays -/
@[simp] def aNil : AM := fun env => .ok ([], env)
@[simp] def aCons (m : XM) (r : AM) : AM := fun env => (m env).bind fun (t, env1) => (r env1).bind fun (ts, env2) => .ok (t :: ts, env2)
theorem ma_nil : MA D [] aNil := ⟨tNil, fun _ _ => pa_nil, fun G W M σ H env r Q q => q [] H Ev.refl r .nil⟩
/-- from one end to the next: what is wanted behind a first part -/
theorem pst_bind {G : Gh} {W M : Addr → Prop} {σ : L2.St} {H : Hp} {env : EnvM} {te : TE} (ok : TEok D m te) (r : RE D.K G W M σ H env) {α : Type} {f : T × EnvM → R α} {P : R α → Prop} {Q : VK}
    (hx : ∀ c t, P (.ex c t) → ExW D W M H c t) (hn : ¬ P .no) (q : P ((m env).bind f)) (h : ∀ t env1 v H1, Ev M H H1 → RE D.K G W M σ H1 env1 → Is D.K W H1 v t → P (f (t, env1)) → Q v H1) : te σ H Q := by
  refine ok G W M σ H env r Q ?_
  cases e : m env with
  | ok p =>
    obtain ⟨t, env1⟩ := p
    rw [e] at q
    exact fun v H1 ev r1 i => h t env1 v H1 ev r1 i q
  | ex c t => rw [e] at q; exact hx c t q
  | no => rw [e] at q; exact (hn q).elim
theorem pstB_bind {G : Gh} {W M : Addr → Prop} {σ : L2.St} {H : Hp} {env : EnvM} {te : TE} (ok : TBok D m te) (r : RE D.K G W M σ H env) {α : Type} {f : T × EnvM → R α} {P : R α → Prop} {Q : VK}
    (hx : ∀ c t, P (.ex c t) → ExW D W M H c t) (hn : ¬ P .no) (q : P ((m env).bind f)) (h : ∀ t env1 v H1, Ev M H H1 → RE D.K G W M σ H1 env1 → IsB D.K W H1 v t → P (f (t, env1)) → Q v H1) : te σ H Q := by
  refine ok G W M σ H env r Q ?_
  cases e : m env with
  | ok p =>
    obtain ⟨t, env1⟩ := p
    rw [e] at q
    exact fun v H1 ev r1 i => h t env1 v H1 ev r1 i q
  | ex c t => rw [e] at q; exact hx c t q
  | no => rw [e] at q; exact (hn q).elim
theorem pstT_bind {G : Gh} {W M : Addr → Prop} {σ : L2.St} {H : Hp} {env : EnvM} {m : TM} {te : TT} (ok : TTok D m te) (r : RE D.K G W M σ H env) {α : Type} {f : Bool × EnvM → R α} {P : R α → Prop} {Q : Bool → Hp → Prop}
    (hx : ∀ c t, P (.ex c t) → ExW D W M H c t) (hn : ¬ P .no) (q : P ((m env).bind f)) (h : ∀ t env1 H1, Ev M H H1 → RE D.K G W M σ H1 env1 → P (f (t, env1)) → Q t H1) : te σ H Q := by
  refine ok G W M σ H env r Q ?_
  cases e : m env with
  | ok p =>
    obtain ⟨t, env1⟩ := p
    rw [e] at q
    exact fun H1 ev r1 => h t env1 H1 ev r1 q
  | ex c t => rw [e] at q; exact hx c t q
  | no => rw [e] at q; exact (hn q).elim
theorem pstA_bind {G : Gh} {W M : Addr → Prop} {σ : L2.St} {H : Hp} {env : EnvM} {m : AM} {te : TA} (ok : TAok D m te) (r : RE D.K G W M σ H env) {α : Type} {f : List T × EnvM → R α} {P : R α → Prop} {Q : List V → Hp → Prop}
    (hx : ∀ c t, P (.ex c t) → ExW D W M H c t) (hn : ¬ P .no) (q : P ((m env).bind f)) (h : ∀ ts env1 vs H1, Ev M H H1 → RE D.K G W M σ H1 env1 → IsL D.K W H1 vs ts → P (f (ts, env1)) → Q vs H1) : te σ H Q := by
  refine ok G W M σ H env r Q ?_
  cases e : m env with
  | ok p =>
    obtain ⟨t, env1⟩ := p
    rw [e] at q
    exact fun v H1 ev r1 i => h t env1 v H1 ev r1 i q
  | ex c t => rw [e] at q; exact hx c t q
  | no => rw [e] at q; exact (hn q).elim
theorem ma_cons {es : List Expr} {r : AM} (h1 : ME D e m) (h2 : MA D es r) (hs : ∀ v : Vr, starEach (e :: es) (D.cx v).env = (false, eval e (D.cx v).env) :: starEach es (D.cx v).env := by intro _; rfl) : MA D (e :: es) (aCons m r) := by
  obtain ⟨t1, p1, k1⟩ := h1
  obtain ⟨t2, p2, k2⟩ := h2
  refine ⟨tCons t1 t2, fun v g => pa_cons (p1 v g) (p2 v g) (hs v), fun G W M σ H env re Q q => ?_⟩
  refine pst_bind (P := PstA D G W M σ H Q) k1 re (fun c t h => h) (fun h => h) q fun t env1 v H1 ev1 re1 i1 q1 => ?_
  refine pstA_bind (P := PstA D G W M σ H Q) k2 re1 (fun c t h => ExW.ev ev1 h) (fun h => h) q1 fun ts env2 vs H2 ev2 re2 i2 q2 => ?_
  exact q2 (v :: vs) H2 (ev1.trans ev2) re2 (.cons (i1.ev ev2 re1) i2)

@[simp] def xTup (r : AM) : XM := fun env => (r env).bind fun (ts, env1) => if Nat.ble ts.length 16777216 then .ok (.tup ts, env1) else .no
theorem me_tup {es : List Expr} {r : AM} {x1} (h : MA D es r) : ME D (.Tuple es x1 pos) (xTup r) := by
  obtain ⟨t1, p1, k1⟩ := h
  refine ⟨tTup t1, fun v g => pe_tup (p1 v g), fun G W M σ H env re Q q => ?_⟩
  refine pstA_bind (P := Pst D G W M σ H Q) k1 re (fun c t h => h) (fun h => h) q fun ts env1 vs H1 ev1 re1 i1 q1 => ?_
  by_cases hl : Nat.ble ts.length 16777216 = true
  · simp only [hl, if_true] at q1
    refine ⟨by rw [i1.length]; exact le_line hl, fun p hp => ?_⟩
    have s := same_upd (o := .tup vs) hp
    exact q1 _ _ (ev1.trans (.same s)) (re1.same s) (.tup (.of upd_same) (i1.same s re1.muts))
  · simp only [hl] at q1
    exact (q1 : False).elim

/-! ### a fresh list -/
def PstN (D : Dat) (G : Gh) (W M : Addr → Prop) (σ : L2.St) (H : Hp) (Q : VK) : R (T × EnvM) → Prop
  | .ok (t, env') => ∀ p H', Ev M H H' → H p = none → (∀ W' : Addr → Prop, (∀ a, W a → W' a) → (∀ a, W' a → W a ∨ a = p) → RE D.K G W' M σ H' env') → (∀ W' : Addr → Prop, (∀ a, W' a → W a ∨ a = p) → IsO D.K W' H' p t) → ((∃ ts, t = .lst ts) ∨ ∃ b ks vs, t = .dct b ks vs) → Q (.ref p) H'
  | .ex c t => ExW D W M H c t
  | .no => False
def TNok (D : Dat) (m : XM) (te : TE) : Prop := ∀ G W M σ H env, RE D.K G W M σ H env → ∀ Q : VK, PstN D G W M σ H Q (m env) → te σ H Q
def MN (D : Dat) (e : Expr) (m : XM) : Prop := ∃ te, (∀ v, D.Good v → PE (D.cx v) e te) ∧ TNok D m te
theorem RE.unheld {K : PySem.W.Frag} {G : Gh} {W M : Addr → Prop} {σ : L2.St} {H : Hp} {env : EnvM} (r : RE K G W M σ H env) {p : Addr} (h : H p = none) : ¬ W p := fun w => by
  have := r.muts p w; rw [h] at this; exact this
theorem me_of_new (h : MN D e m) : ME D e m := by
  obtain ⟨te, hp, hk⟩ := h
  refine ⟨te, hp, fun G W M σ H env r Q q => hk G W M σ H env r Q ?_⟩
  cases e1 : m env with
  | ok z =>
    obtain ⟨t, env'⟩ := z
    rw [e1] at q
    intro p H' ev hn r'' ho ht
    have r' := r'' W (fun _ w => w) fun _ w => .inl w
    rcases ht with ⟨ts, rfl⟩ | ⟨b, ks, vs, rfl⟩
    · refine q _ H' ev r' ?_
      obtain ⟨xs, hx, l⟩ := ho W (fun a w => .inl w)
      exact .lst (r.unheld hn) hx l
    · refine q _ H' ev r' ?_
      obtain ⟨o, ws, hx, e, l⟩ := ho W (fun a w => .inl w)
      exact .dct (r.unheld hn) hx (.of e) l
  | ex c t => rw [e1] at q; exact q
  | no => rw [e1] at q; exact q
theorem Fut.new {W W' : Addr → Prop} {H : Hp} {p : Addr} {o : HO} (hp : H p = none) (hw : ∀ a, W' a → W a ∨ a = p) : Fut W H W' (upd H p o) :=
  ⟨fun a u q _ => same_upd hp a u q, fun a w n => (hw a w).elim id fun e => by subst e; exact (n hp).elim, (Fut.same (W := W) (same_upd hp)).trk⟩
theorem IsO.fut {K : PySem.W.Frag} {W W' : Addr → Prop} {H H' : Hp} (f : Fut W H W' H') (m : Muts W H) {a : Addr} {t : T} (k : H' a = H a) (h : IsO K W H a t) : IsO K W' H' a t := by
  cases t with
  | lst ts => obtain ⟨xs, e, l⟩ := h; exact ⟨xs, by rw [k]; exact e, l.fut f m⟩
  | dct b ks vs => obtain ⟨o, ws, e, q, l⟩ := h; exact ⟨o, ws, by rw [k]; exact e, q, l.fut f m⟩
  | _ => exact h
theorem RE.new {K : PySem.W.Frag} {G : Gh} {W W' M : Addr → Prop} {σ : L2.St} {H : Hp} {env : EnvM} {p : Addr} {o : HO} (r : RE K G W M σ H env) (hp : H p = none) (mu : Mut (some o)) (h1 : ∀ a, W a → W' a) (h2 : ∀ a, W' a → W a ∨ a = p) : RE K G W' M σ (upd H p o) env where
  len := r.len
  val := fun i t e => by obtain ⟨v, q1, q2⟩ := r.val i t e; exact ⟨v, q1, q2.fut (Fut.new hp h2) r.muts⟩
  own := fun i b t e => by
    obtain ⟨a, q1, q2, q3, q4⟩ := r.own i b t e
    have ne : a ≠ p := fun z => by subst z; exact r.unheld hp (r.sub _ q2)
    exact ⟨a, q1, q2, q3.fut (Fut.new hp h2) r.muts (upd_ne ne), q4⟩
  inj := r.inj
  sub := fun a w => h1 a (r.sub a w)
  muts := fun a w => by
    by_cases e : a = p
    · subst e; rw [upd_same]; exact mu
    · rw [upd_ne e]; exact r.muts a ((h2 a w).resolve_right e)
  old := fun a w => h1 a (r.old a w)
  ent := r.ent
  trk := fun a h => (Fut.same (W := W) (same_upd hp)).trk a (r.trk a h)
@[simp] def xLst (r : AM) : XM := fun env => (r env).bind fun (ts, env1) => if Nat.ble ts.length 16777216 then .ok (.lst ts, env1) else .no
theorem mn_lst {es : List Expr} {r : AM} (h : MA D es r) : MN D (.List es pos) (xLst r) := by
  obtain ⟨t1, p1, k1⟩ := h
  refine ⟨tLst t1, fun v g => pe_lst (p1 v g), fun G W M σ H env re Q q => ?_⟩
  refine pstA_bind (P := PstN D G W M σ H Q) k1 re (fun c t h => h) (fun h => h) q fun ts env1 vs H1 ev1 re1 i1 q1 => ?_
  by_cases hl : Nat.ble ts.length 16777216 = true
  · simp only [hl, if_true] at q1
    refine ⟨by rw [i1.length]; exact le_line hl, fun p hp => ?_⟩
    have s := same_upd (o := .lst vs) hp
    refine q1 p _ (ev1.trans (.same s)) ?_ (fun W' h1 h2 => re1.new hp trivial h1 h2) (fun W' hW => ⟨vs, upd_same, i1.fut (Fut.new hp hW) re1.muts⟩) (.inl ⟨ts, rfl⟩)
    cases z : H p with
    | none => rfl
    | some u => exact (ev1.trk p (by rw [z]; exact fun y => nomatch y) hp).elim
  · simp only [hl] at q1
    exact (q1 : False).elim
end
end M3
/-! M3, part c: operators by trees. -/
namespace M3
open PySem PySem.Spec PyProof.Rows L2

/-! ### equality of trees, as Python's -/
def eqN : List Nat → List Nat → Bool
  | [], [] => true
  | a :: as, b :: bs => Nat.beq a b && eqN as bs
  | _, _ => false
theorem eqN_eq : ∀ {a b : List Nat}, eqN a b = decide (a = b)
  | [], [] => rfl
  | [], _ :: _ => rfl
  | _ :: _, [] => rfl
  | a :: as, b :: bs => by
    show (Nat.beq a b && eqN as bs) = _
    rw [eqN_eq (a := as) (b := bs)]
    by_cases h : a = b
    · subst h; simp
    · have : Nat.beq a b = false := by
        cases e : Nat.beq a b with
        | false => rfl
        | true => exact (h (Nat.eq_of_beq_eq_true e)).elim
      rw [this]; simp [h]
mutual
def T.eq : T → T → Bool
  | .non, .non => true
  | .bl a, .bl b => a == b
  | .bl a, .int j => (if a then 1 else 0) == j
  | .int i, .bl b => i == (if b then 1 else 0)
  | .int i, .int j => i == j
  | .str x, .str y => eqN x y
  | .lst xs, .lst ys => T.eqs xs ys
  | .lst xs, .frz ys => T.eqs xs ys
  | .frz xs, .lst ys => T.eqs xs ys
  | .frz xs, .frz ys => T.eqs xs ys
  | .tup xs, .tup ys => T.eqs xs ys
  | _, _ => false
def T.eqs : List T → List T → Bool
  | [], [] => true
  | x :: xs, y :: ys => T.eq x y && T.eqs xs ys
  | _, _ => false
end
mutual
/-- no dict within, not deeper than n -/
def T.flat : Nat → T → Bool
  | _, .non => true
  | _, .bl _ => true
  | _, .int _ => true
  | _, .str _ => true
  | n + 1, .lst xs => T.flats n xs
  | n + 1, .frz xs => T.flats n xs
  | n + 1, .tup xs => T.flats n xs
  | 0, .lst _ => false
  | 0, .frz _ => false
  | 0, .tup _ => false
  | _, .dct _ _ _ => false
def T.flats : Nat → List T → Bool
  | _, [] => true
  | n, x :: xs => T.flat n x && T.flats n xs
end
mutual
def toP : T → PyData
  | .non => .none
  | .bl b => .bool b
  | .int i => .int i
  | .str cs => .str ⟨cs.toArray⟩
  | .tup ts => .tuple (toPs ts)
  | .lst ts => .list (toPs ts)
  | .frz ts => .list (toPs ts)
  | .dct _ _ _ => .none
def toPs : List T → List PyData
  | [] => []
  | t :: ts => toP t :: toPs ts
end
theorem str_beq (a b : List Nat) : ((⟨a.toArray⟩ : Str) == ⟨b.toArray⟩) = eqN a b := by
  rw [eqN_eq, Bool.eq_iff_iff]
  simp
mutual
theorem eqv_toP : ∀ {n k : Nat} (a b : T), T.flat n a = true → T.flat k b = true → PyData.eqv (toP a) (toP b) = T.eq a b
  | n, k, .non, b, _, hb => by cases b <;> simp [toP, T.eq, PyData.eqv] <;> cases k <;> simp [T.flat] at hb
  | n, k, .bl x, b, _, hb => by cases b <;> simp [toP, T.eq, PyData.eqv]
  | n, k, .int x, b, _, hb => by cases b <;> simp [toP, T.eq, PyData.eqv]
  | n, k, .str x, b, _, hb => by
    cases b <;> simp [toP, T.eq, PyData.eqv]
    exact str_beq _ _
  | 0, k, .lst xs, b, ha, hb => by simp [T.flat] at ha
  | 0, k, .frz xs, b, ha, hb => by simp [T.flat] at ha
  | 0, k, .tup xs, b, ha, hb => by simp [T.flat] at ha
  | n + 1, 0, .lst xs, b, ha, hb => by cases b <;> simp [toP, T.eq, PyData.eqv] <;> simp [T.flat] at hb
  | n + 1, 0, .frz xs, b, ha, hb => by cases b <;> simp [toP, T.eq, PyData.eqv] <;> simp [T.flat] at hb
  | n + 1, 0, .tup xs, b, ha, hb => by cases b <;> simp [toP, T.eq, PyData.eqv] <;> simp [T.flat] at hb
  | n + 1, k + 1, .lst xs, b, ha, hb => by
    cases b <;> simp [toP, T.eq, PyData.eqv] <;> exact eqvs_toP (n := n) (k := k) _ _ (by simpa [T.flat] using ha) (by simpa [T.flat] using hb)
  | n + 1, k + 1, .frz xs, b, ha, hb => by
    cases b <;> simp [toP, T.eq, PyData.eqv] <;> exact eqvs_toP (n := n) (k := k) _ _ (by simpa [T.flat] using ha) (by simpa [T.flat] using hb)
  | n + 1, k + 1, .tup xs, b, ha, hb => by
    cases b <;> simp [toP, T.eq, PyData.eqv] <;> exact eqvs_toP (n := n) (k := k) _ _ (by simpa [T.flat] using ha) (by simpa [T.flat] using hb)
  | n, k, .dct _ _ _, b, ha, _ => by cases n <;> simp [T.flat] at ha
theorem eqvs_toP : ∀ {n k : Nat} (a b : List T), T.flats n a = true → T.flats k b = true → PyData.eqvAll (toPs a) (toPs b) = T.eqs a b
  | _, _, [], [], _, _ => by simp [toPs, T.eqs, PyData.eqvAll]
  | _, _, [], _ :: _, _, _ => by simp [toPs, T.eqs, PyData.eqvAll]
  | _, _, _ :: _, [], _, _ => by simp [toPs, T.eqs, PyData.eqvAll]
  | n, k, x :: xs, y :: ys, ha, hb => by
    simp only [T.flats, Bool.and_eq_true] at ha hb
    simp only [toPs, T.eqs, PyData.eqvAll]
    rw [eqv_toP (n := n) (k := k) x y ha.1 hb.1, eqvs_toP (n := n) (k := k) xs ys ha.2 hb.2]
end

mutual
theorem depth_toP : ∀ {n : Nat} (t : T), T.flat n t = true → (toP t).depth ≤ n
  | _, .non, _ => by simp [toP, PyData.depth]
  | _, .bl _, _ => by simp [toP, PyData.depth]
  | _, .int _, _ => by simp [toP, PyData.depth]
  | _, .str _, _ => by simp [toP, PyData.depth]
  | n + 1, .lst xs, h => by have := depths_toP (n := n) xs (by simpa [T.flat] using h); simp only [toP, PyData.depth]; omega
  | n + 1, .frz xs, h => by have := depths_toP (n := n) xs (by simpa [T.flat] using h); simp only [toP, PyData.depth]; omega
  | n + 1, .tup xs, h => by have := depths_toP (n := n) xs (by simpa [T.flat] using h); simp only [toP, PyData.depth]; omega
  | 0, .lst _, h => by simp [T.flat] at h
  | 0, .frz _, h => by simp [T.flat] at h
  | 0, .tup _, h => by simp [T.flat] at h
  | n, .dct _ _ _, h => by cases n <;> simp [T.flat] at h
theorem depths_toP : ∀ {n : Nat} (t : List T), T.flats n t = true → PyData.depthAll (toPs t) ≤ n
  | _, [], _ => by simp [toPs, PyData.depthAll]
  | n, x :: xs, h => by
    simp only [T.flats, Bool.and_eq_true] at h
    have h1 := depth_toP (n := n) x h.1
    have h2 := depths_toP (n := n) xs h.2
    simp only [toPs, PyData.depthAll]
    omega
end
section
variable {K : PySem.W.Frag} {W : Addr → Prop} {H : Hp}
mutual
theorem Is.lay : ∀ {v : V} {t : T}, Is K W H v t → (toP t).canLay0 = true
  | _, _, .non => by simp [toP, PyData.canLay0]
  | _, _, .bl _ => by simp [toP, PyData.canLay0]
  | _, _, .int _ => by simp [toP, PyData.canLay0]
  | _, _, .str cs h => by
    have := okS_all h
    simp only [toP, PyData.canLay0, PyData.strOk]
    simpa using this
  | _, _, .tup _ l => by simpa [toP, PyData.canLay0] using IsL.lay l
  | _, _, .lst _ _ l => by simpa [toP, PyData.canLay0] using IsL.lay l
  | _, _, .frz _ l => by simpa [toP, PyData.canLay0] using IsL.lay l
  | _, _, .dct _ _ _ _ => by simp [toP, PyData.canLay0]
theorem IsL.lay : ∀ {v : List V} {t : List T}, IsL K W H v t → PyData.canLayAll0 (toPs t) = true
  | _, _, .nil => by simp [toPs, PyData.canLayAll0]
  | _, _, .cons q l => by simp [toPs, PyData.canLayAll0, Is.lay q, IsL.lay l]
end
mutual
theorem Is.dp : ∀ {n : Nat} {v : V} {t : T}, Is K W H v t → T.flat n t = true → Dp K H v (toP t)
  | _, _, _, .non, _ => by simp only [toP]; exact .non
  | _, _, _, .bl _, _ => by simp only [toP]; exact .bl _
  | _, _, _, .int _, _ => by simp only [toP]; exact .int _
  | _, _, _, .str _ _, _ => by simp only [toP]; exact .str _
  | n, _, _, .tup q l, h => by
    simp only [toP]
    cases n with
    | zero => simp [T.flat] at h
    | succ n => exact .tup q (IsL.dp (n := n) l (by simpa [T.flat] using h))
  | n, _, _, .lst _ q l, h => by
    simp only [toP]
    cases n with
    | zero => simp [T.flat] at h
    | succ n => exact .lst (.of q) (IsL.dp (n := n) l (by simpa [T.flat] using h))
  | n, _, _, .frz q l, h => by
    simp only [toP]
    cases n with
    | zero => simp [T.flat] at h
    | succ n => exact .lst q.seq (IsL.dp (n := n) l (by simpa [T.flat] using h))
  | n, _, _, .dct _ _ _ _, h => by cases n <;> simp [T.flat] at h
theorem IsL.dp : ∀ {n : Nat} {v : List V} {t : List T}, IsL K W H v t → T.flats n t = true → DpAll K H v (toPs t)
  | _, _, _, .nil, _ => by simp only [toPs]; exact .nil
  | n, _, _, .cons q l, h => by
    simp only [T.flats, Bool.and_eq_true] at h
    simp only [toPs]
    exact .cons (Is.dp (n := n) q h.1) (IsL.dp (n := n) l h.2)
end
theorem IsB.dp {n : Nat} {v : V} {t : T} (h : IsB K W H v t) (f : T.flat n t = true) : Dp K H v (toP t) := by
  rcases h with h | ⟨a, rfl, h⟩
  · exact h.dp f
  · cases t with
    | lst ts =>
      obtain ⟨xs, hx, l⟩ := h
      simp only [toP]
      cases n with
      | zero => simp [T.flat] at f
      | succ n => exact .lst (.of hx) (IsL.dp (n := n) l (by simpa [T.flat] using f))
    | dct b ks vs => cases n <;> simp [T.flat] at f
    | _ => exact h.elim
theorem IsB.lay {v : V} {t : T} (h : IsB K W H v t) : (toP t).canLay0 = true := by
  rcases h with h | ⟨a, rfl, h⟩
  · exact h.lay
  · cases t with
    | lst ts => obtain ⟨xs, hx, l⟩ := h; simpa [toP, PyData.canLay0] using l.lay
    | dct b ks vs => simp [toP, PyData.canLay0]
    | _ => exact h.elim
theorem IsB.shaped {n : Nat} {v : V} {t : T} (h : IsB K W H v t) (f : T.flat n t = true) (hn : n ≤ 64) : SeqAt.shaped (toP t) = true :=
  Bool.and_eq_true_iff.mpr ⟨h.lay, decide_eq_true (Nat.le_trans (depth_toP t f) hn)⟩
end

/-! ### operators as functions of trees -/
def OpOK (K : PySem.W.Frag) (r : R2) (f : T → T → R T) : Prop :=
  ∀ (W : Addr → Prop) (H : Hp) (x y : V) (a b t : T) (Q : VK), Muts W H → IsB K W H x a → IsB K W H y b → f a b = .ok t → (∀ v H', Same H H' → Is K W H' v t → Q v H') → r x y H Q
@[simp] def x2 (f : T → T → R T) (ma mb : XM) : XM := fun env => (ma env).bind fun (a, e1) => (mb e1).bind fun (b, e2) => (f a b).bind fun t => .ok (t, e2)
/-- f of no exception -/
def Tame (f : T → T → R T) : Prop := ∀ a b c t, f a b ≠ .ex c t
theorem top_ok {D : Dat} {ma mb : XM} {ta tb : TE} {r : R2} {f : T → T → R T} (hf : OpOK D.K r f) (ht : Tame f) (ha : TEok D ma ta) (hb : TBok D mb tb) : TEok D (x2 f ma mb) (tOp r ta tb) := by
  intro G W M σ H env re Q q
  refine pst_bind (P := Pst D G W M σ H Q) ha re (fun c t h => h) (fun h => h) q fun a e1 x H1 ev1 re1 i1 q1 => ?_
  refine pstB_bind (P := Pst D G W M σ H Q) hb re1 (fun c t h => ExW.ev ev1 h) (fun h => h) q1 fun b e2 y H2 ev2 re2 i2 q2 => ?_
  simp only at q2
  cases e : f a b with
  | ok t =>
    rw [e] at q2
    exact hf W H2 x y a b t Q re2.muts (.inl (i1.ev ev2 re1)) i2 e fun v H' s i => q2 v H' ((ev1.trans ev2).trans (.same s)) (re2.same s) i
  | ex c t => exact (ht a b c t e).elim
  | no => rw [e] at q2; exact (q2 : False).elim
/-- the left side a thing of the frame's own, looked at when the right side is done -/
@[simp] def x2o (f : T → T → R T) (i : Nat) (mb : XM) : XM := fun env => match env[i]? with
  | some (.own _ _) => (mb env).bind fun (b, e2) => match e2[i]? with
    | some (.own _ a) => (f a b).bind fun t => .ok (t, e2)
    | _ => .no
  | _ => .no
theorem topo_ok {D : Dat} {i : Nat} {mb : XM} {tb : TE} {r : R2} {f : T → T → R T} (hf : OpOK D.K r f) (ht : Tame f) (hb : TBok D mb tb) : TEok D (x2o f i mb) (tOp r (tVar i) tb) := by
  intro G W M σ H env re Q q
  unfold x2o at q
  split at q
  · rename_i b0 t0 e0
    obtain ⟨a0, h0, _⟩ := re.own i b0 t0 e0
    refine ⟨.ref a0, h0, ?_⟩
    refine pstB_bind (P := Pst D G W M σ H Q) hb re (fun c t h => h) (fun h => h) q fun b e2 y H2 ev2 re2 i2 q2 => ?_
    simp only at q2
    split at q2
    · rename_i b1 t1 e1
      obtain ⟨a1, h1, _, h3, _⟩ := re2.own i b1 t1 e1
      rw [h0] at h1
      cases h1
      cases e : f t1 b with
      | ok t =>
        rw [e] at q2
        exact hf W H2 _ y t1 b t Q re2.muts (.inr ⟨_, rfl, h3⟩) i2 e fun v H' s i => q2 v H' (ev2.trans (.same s)) (re2.same s) i
      | ex c t => exact (ht t1 b c t e).elim
      | no => rw [e] at q2; exact (q2 : False).elim
    · exact (q2 : False).elim
  · exact q.elim

section
variable {D : Dat} {e a b : Expr} {m ma mb : XM} {pos : Pos}
theorem me_bin {op : Operator} {r : R2} {f : T → T → R T} (ho : ∀ v, OpR (D.cx v) (binaryOp op) r) (hf : OpOK D.K r f) (ht : Tame f) (ha : ME D a ma) (hb : MB D b mb) : ME D (.BinOp a op b pos) (x2 f ma mb) := by
  obtain ⟨ta, pa, ka⟩ := ha
  obtain ⟨tb, pb, kb⟩ := hb
  exact ⟨tOp r ta tb, fun v g => pe_op (ho v) (pa v g) (pb v g), top_ok hf ht ka kb⟩
theorem me_cmp {op : CmpOp} {r : R2} {f : T → T → R T} (ho : ∀ v, OpR (D.cx v) (compareOp op) r) (hf : OpOK D.K r f) (ht : Tame f) (ha : ME D a ma) (hb : MB D b mb) (hm : behindInMarks op b = false) : ME D (.Compare a [op] [b] pos) (x2 f ma mb) := by
  obtain ⟨ta, pa, ka⟩ := ha
  obtain ⟨tb, pb, kb⟩ := hb
  exact ⟨tOp r ta tb, fun v g => pe_cmpR (ho v) (pa v g) (pb v g) hm, top_ok hf ht ka kb⟩
theorem me_cmpo {op : CmpOp} {r : R2} {f : T → T → R T} {x : Str} {p : Pos} (i : Nat) (ho : ∀ v, OpR (D.cx v) (compareOp op) r) (hf : OpOK D.K r f) (ht : Tame f) (hN : D.N[i]? = some x) (hv : Vis D.sc x) (hb : MB D b mb) (hm : behindInMarks op b = false)
    (hd : (x == ("__debug__" : Str)) = false := by decide) (hcd : (x == ("__classdict__" : Str)) = false := by decide) : ME D (.Compare (.Name x p) [op] [b] pos) (x2o f i mb) := by
  obtain ⟨tb, pb, kb⟩ := hb
  exact ⟨tOp r (tVar i) tb, fun v g => pe_cmpR (ho v) (pe_var (X := D.cx v) hN hv hd hcd) (pb v g) hm, topo_ok hf ht kb⟩
theorem me_ix {r : R2} {f : T → T → R T} (ho : ∀ v, IxR (D.cx v) r) (hf : OpOK D.K r f) (ht : Tame f) (ha : ME D a ma) (hb : MB D b mb) (hs : PlainIx b := by exact fun _ _ => rfl) : ME D (.Subscript a b pos) (x2 f ma mb) := by
  obtain ⟨ta, pa, ka⟩ := ha
  obtain ⟨tb, pb, kb⟩ := hb
  exact ⟨tOp r ta tb, fun v g => pe_ix (ho v) (pa v g) (pb v g) hs, top_ok hf ht ka kb⟩
theorem me_ixo {r : R2} {f : T → T → R T} {x : Str} {p : Pos} (i : Nat) (ho : ∀ v, IxR (D.cx v) r) (hf : OpOK D.K r f) (ht : Tame f) (hN : D.N[i]? = some x) (hv : Vis D.sc x) (hb : MB D b mb) (hs : PlainIx b := by exact fun _ _ => rfl)
    (hd : (x == ("__debug__" : Str)) = false := by decide) (hcd : (x == ("__classdict__" : Str)) = false := by decide) : ME D (.Subscript (.Name x p) b pos) (x2o f i mb) := by
  obtain ⟨tb, pb, kb⟩ := hb
  exact ⟨tOp r (tVar i) tb, fun v g => pe_ix (ho v) (pe_var (X := D.cx v) hN hv hd hcd) (pb v g) hs, topo_ok hf ht kb⟩
end

/-! ### what a tree is, where it lies -/
section
variable {K : PySem.W.Frag} {W : Addr → Prop} {H : Hp} {v : V}
theorem IsB.int {i : Int} (h : IsB K W H v (.int i)) : v = .int i := by
  rcases h with h | ⟨a, rfl, h⟩
  · cases h; rfl
  · exact h.elim
theorem IsB.bl {i : Bool} (h : IsB K W H v (.bl i)) : v = .bl i := by
  rcases h with h | ⟨a, rfl, h⟩
  · cases h; rfl
  · exact h.elim
theorem IsB.non (h : IsB K W H v .non) : v = .non := by
  rcases h with h | ⟨a, rfl, h⟩
  · cases h; rfl
  · exact h.elim
theorem IsB.str {cs : List Nat} (h : IsB K W H v (.str cs)) : v = .str ⟨cs.toArray⟩ ∧ okS cs = true := by
  rcases h with h | ⟨a, rfl, h⟩
  · cases h with
    | str cs hk => exact ⟨rfl, hk⟩
  · exact h.elim
theorem IsB.tup {ts : List T} (h : IsB K W H v (.tup ts)) : ∃ a xs, v = .ref a ∧ SqT K H a xs ∧ IsL K W H xs ts := by
  rcases h with h | ⟨a, rfl, h⟩
  · cases h with
    | tup q l => exact ⟨_, _, rfl, q, l⟩
  · exact h.elim
theorem IsB.lst {ts : List T} (h : IsB K W H v (.lst ts)) : ∃ a xs, v = .ref a ∧ H a = some (.lst xs) ∧ IsL K W H xs ts := by
  rcases h with h | ⟨a, rfl, h⟩
  · cases h with
    | lst _ q l => exact ⟨_, _, rfl, q, l⟩
  · obtain ⟨xs, q, l⟩ := h
    exact ⟨_, _, rfl, q, l⟩
theorem IsB.frz {ts : List T} (h : IsB K W H v (.frz ts)) : ∃ a xs, v = .ref a ∧ SqL K H a xs ∧ IsL K W H xs ts := by
  rcases h with h | ⟨a, rfl, h⟩
  · cases h with
    | frz q l => exact ⟨_, _, rfl, q.seq, l⟩
  · exact h.elim
end

/-! ### arithmetic -/
@[simp] def oAdd : T → T → R T
  | .int i, .int j => .ok (.int (i + j))
  | .str a, .str b => if Nat.ble (a.length + b.length) 16777216 then .ok (.str (a ++ b)) else .no
  | .tup a, .tup b => if Nat.ble (a.length + b.length) 16777216 then .ok (.tup (a ++ b)) else .no
  | .lst a, .lst b => if Nat.ble (a.length + b.length) 16777216 then .ok (.lst (a ++ b)) else .no
  | _, _ => .no
def rAddA (K : PySem.W.Frag) : R2 := fun x y H Q => rI0 (fun i j => .int (i + j)) x y H Q ∨ (∃ i j, x = .str i ∧ y = .str j ∧ i.length + j.length ≤ sizeLine ∧ Q (.str (i ++ j)) H) ∨ rCatA K x y H Q ∨ rCat x y H Q
theorem op_addA {X : Cx} : OpR X (binaryOp .Add) (rAddA X.K) := op_add.or (op_add_str.or (op_catA.or op_cat))
theorem str_app (a b : List Nat) : ((⟨a.toArray⟩ : Str) ++ ⟨b.toArray⟩) = ⟨(a ++ b).toArray⟩ := by
  show (⟨a.toArray ++ b.toArray⟩ : Str) = _
  simp
theorem len_S (a : List Nat) : (⟨a.toArray⟩ : Str).length = a.length := by
  show (a.toArray).size = _
  simp
theorem tame_add : Tame oAdd := fun a b c t => by
  unfold oAdd; split <;> (try split) <;> intro h <;> cases h
theorem ok_add {K : PySem.W.Frag} : OpOK K (rAddA K) oAdd := by
  intro W H x y a b t Q hm ha hb e q
  unfold oAdd at e
  split at e
  · cases e; cases ha.int; cases hb.int
    exact .inl ⟨_, _, rfl, rfl, q _ H (Same.refl H) (.int _)⟩
  · split at e
    · rename_i hl
      cases e
      obtain ⟨rfl, k1⟩ := ha.str
      obtain ⟨rfl, k2⟩ := hb.str
      refine .inr (.inl ⟨_, _, rfl, rfl, by rw [len_S, len_S]; exact le_line hl, ?_⟩)
      rw [str_app]
      refine q _ H (Same.refl H) (.str _ (okS_of (by rw [List.length_append]; exact le_line hl) fun c hc => ?_))
      rcases List.mem_append.mp hc with h | h
      · exact okS_all k1 c h
      · exact okS_all k2 c h
    · cases e
  · split at e
    · rename_i hl
      cases e
      obtain ⟨p, xs, rfl, h1, l1⟩ := ha.tup
      obtain ⟨p', ys, rfl, h2, l2⟩ := hb.tup
      refine .inr (.inr (.inl ⟨p, p', xs, ys, rfl, rfl, h1, h2, by rw [l1.length, l2.length]; exact le_line hl, fun z => ?_, fun _ z => ?_, fun _ _ z hz => ?_⟩))
      · subst z
        cases l1
        exact q _ H (Same.refl H) (.tup h2 l2)
      · subst z
        cases l2
        rw [List.append_nil] at q
        exact q _ H (Same.refl H) (.tup h1 l1)
      · have s := same_upd (o := .tup (xs ++ ys)) hz
        exact q _ _ s (.tup (.of upd_same) ((l1.append l2).same s hm))
    · cases e
  · split at e
    · rename_i hl
      cases e
      obtain ⟨p, xs, rfl, h1, l1⟩ := ha.lst
      obtain ⟨p', ys, rfl, h2, l2⟩ := hb.lst
      refine .inr (.inr (.inr ⟨p, p', xs, ys, rfl, rfl, h1, h2, by rw [l1.length, l2.length]; exact le_line hl, fun z hz => ?_⟩))
      have s := same_upd (o := .lst (xs ++ ys)) hz
      exact q _ _ s (.lst (fun w => by have := hm z w; rw [hz] at this; exact this) upd_same ((l1.append l2).same s hm))
    · cases e
  · cases e

theorem lst_new {K : PySem.W.Frag} {W : Addr → Prop} {H : Hp} {p : Addr} {xs : List V} {ts : List T} (hm : Muts W H) (hp : H p = none) (l : IsL K W H xs ts) : Is K W (upd H p (.lst xs)) (.ref p) (.lst ts) :=
  .lst (fun w => by have := hm p w; rw [hp] at this; exact this) upd_same (l.same (same_upd hp) hm)
theorem tup_new {K : PySem.W.Frag} {W : Addr → Prop} {H : Hp} {p : Addr} {xs : List V} {ts : List T} (hm : Muts W H) (hp : H p = none) (l : IsL K W H xs ts) : Is K W (upd H p (.tup xs)) (.ref p) (.tup ts) :=
  .tup (.of upd_same) (l.same (same_upd hp) hm)

/-- two ints in, a tree of no address out -/
@[simp] def oI (f : Int → Int → Option T) : T → T → R T
  | .int i, .int j => match f i j with
    | some t => .ok t
    | none => .no
  | _, _ => .no
theorem tame_I {f : Int → Int → Option T} : Tame (oI f) := fun a b c t => by
  unfold oI; split <;> (try split) <;> intro h <;> cases h
theorem ok_I {K : PySem.W.Frag} {C : Int → Int → Prop} {g : Int → Int → V} {f : Int → Int → Option T} (h : ∀ i j t, f i j = some t → C i j ∧ ∀ W H, Is K W H (g i j) t) : OpOK K (rI C g) (oI f) := by
  intro W H x y a b t Q hm ha hb e q
  unfold oI at e
  split at e
  · split at e
    · rename_i ef
      cases e; cases ha.int; cases hb.int
      obtain ⟨hc, hi⟩ := h _ _ _ ef
      exact ⟨_, _, rfl, rfl, hc, q _ H (Same.refl H) (hi W H)⟩
    · cases e
  · cases e
theorem ok_I0 {K : PySem.W.Frag} {g : Int → Int → V} {f : Int → Int → Option T} (h : ∀ i j t, f i j = some t → ∀ W H, Is K W H (g i j) t) : OpOK K (rI0 g) (oI f) := by
  intro W H x y a b t Q hm ha hb e q
  unfold oI at e
  split at e
  · split at e
    · rename_i ef
      cases e; cases ha.int; cases hb.int
      exact ⟨_, _, rfl, rfl, q _ H (Same.refl H) (h _ _ _ ef W H)⟩
    · cases e
  · cases e
def oSub := oI fun i j => some (.int (i - j))
def oFdiv := oI fun i j => if 0 < j ∧ j < 1073741824 then some (.int (i / j)) else none
def oMod := oI fun i j => if 0 < j then some (.int (i % j)) else none
def oPow := oI fun i j => if 0 ≤ j ∧ j ≤ 1000000 ∧ i.natAbs < 18446744073709551616 then some (.int (i ^ j.toNat)) else none
def oLt := oI fun i j => some (.bl (decide (i < j)))
def oLe := oI fun i j => some (.bl (decide (i ≤ j)))
def oGt := oI fun i j => some (.bl (decide (j < i)))
def oGe := oI fun i j => some (.bl (decide (j ≤ i)))
def oShl := oI fun i j => if 0 ≤ j ∧ j ≤ 1000000 ∧ i.natAbs < 18446744073709551616 then some (.int (i * 2 ^ j.toNat)) else none
section
variable {K : PySem.W.Frag}
theorem ok_sub : OpOK K (rI0 fun i j => .int (i - j)) oSub := ok_I0 fun i j t e W H => by cases e; exact .int _
theorem ok_fdiv : OpOK K (rI CDiv fun i j => .int (i / j)) oFdiv := ok_I fun i j t e => by
  split at e
  · rename_i h; cases e; exact ⟨h, fun _ _ => .int _⟩
  · cases e
theorem ok_mod : OpOK K (rI (fun _ j => 0 < j) fun i j => .int (i % j)) oMod := ok_I fun i j t e => by
  split at e
  · rename_i h; cases e; exact ⟨h, fun _ _ => .int _⟩
  · cases e
theorem ok_pow : OpOK K (rI CPow fun i j => .int (i ^ j.toNat)) oPow := ok_I fun i j t e => by
  split at e
  · rename_i h; cases e; exact ⟨⟨h.1, h.2.1, by have := h.2.2; simpa using this⟩, fun _ _ => .int _⟩
  · cases e
theorem ok_shl : OpOK K (rI CPow fun i j => .int (i * 2 ^ j.toNat)) oShl := ok_I fun i j t e => by
  split at e
  · rename_i h; cases e; exact ⟨⟨h.1, h.2.1, by have := h.2.2; simpa using this⟩, fun _ _ => .int _⟩
  · cases e
theorem ok_lt : OpOK K (rI0 fun i j => .bl (decide (i < j))) oLt := ok_I0 fun i j t e W H => by cases e; exact .bl _
theorem ok_le : OpOK K (rI0 fun i j => .bl (decide (i ≤ j))) oLe := ok_I0 fun i j t e W H => by cases e; exact .bl _
theorem ok_gt : OpOK K (rI0 fun i j => .bl (decide (j < i))) oGt := ok_I0 fun i j t e W H => by cases e; exact .bl _
theorem ok_ge : OpOK K (rI0 fun i j => .bl (decide (j ≤ i))) oGe := ok_I0 fun i j t e W H => by cases e; exact .bl _
end

/-! ### * -/
def repL {α : Type} (n : Nat) (xs : List α) : List α := (List.replicate n xs).flatten
def sml (i : Int) : Bool := Nat.blt i.natAbs 18446744073709551616
@[simp] def oMul : T → T → R T
  | .int i, .int j => if sml i || sml j then .ok (.int (i * j)) else .no
  | .str a, .int k => if 0 ≤ k ∧ k ≤ 4096 ∧ a.length ≤ 4096 then .ok (.str (repL k.toNat a)) else .no
  | .tup a, .int k => if k = 1 then .ok (.tup a) else if a ≠ [] ∧ 2 ≤ k ∧ k ≤ 1000 ∧ a.length ≤ 1000 then .ok (.tup (repL k.toNat a)) else .no
  | .lst a, .int k => if 0 ≤ k ∧ k ≤ 4096 ∧ a.length ≤ 4096 then .ok (.lst (repL k.toNat a)) else .no
  | _, _ => .no
theorem tame_mul : Tame oMul := fun a b c t => by
  unfold oMul; split <;> (try split) <;> (try split) <;> intro h <;> cases h
theorem tuple_mul1 (l : Addr) (items : Array Value) (n : Nat) (sl : Array (Option Value)) (dd : Option Addr) (u : Tok) :
    Meets (Builtin.«tuple.__mul__» ⟨[.ref l, .int 1 u], []⟩) (fun _ R s => s.heap.get? l = some { cls := .type "tuple", dict := dd, data := .seq items n, slots := sl } ∧ R (.ok (.ret (Value.ref l))) s) :=
  .of_wp fun prog w A R s h => by
    obtain ⟨hp, g, d, tk, os⟩ := s
    obtain ⟨hl, h⟩ := h
    have f1 := AutoSeq1.idx_int
    wp_walk using wpAny_loadPart' hl
    repeat (first
      | (refine wpAny_ite_false (by decide) ?_; wp_walk using wpAny_loadPart' hl)
      | (refine wpAny_ite_true (by simp) ?_; wp_walk using wpAny_loadPart' hl))
    all_goals exact ⟨_, rfl, h⟩
def rRep1 (K : PySem.W.Frag) : R2 := fun x y H Q => ∃ l xs, x = .ref l ∧ y = .int 1 ∧ SqT K H l xs ∧ Q (.ref l) H
theorem op_rep1 {X : Cx} : OpR X (binaryOp .Mult) (rRep1 X.K) := by
  intro pins s σ H x y v u Q I rx ry h
  obtain ⟨l, xs, rfl, rfl, hT, q⟩ := h
  cases rx
  obtain ⟨t, rfl⟩ := ry
  obtain ⟨its, r, ⟨⟨cls, dd, data, sl⟩, ho, hc, n, hd⟩, hs⟩ := I.tuple hT
  simp only at hc hd
  subst hc hd
  exact wpAny_binaryOp_repeat_ref (T := "tuple") (U := "int") (by decide) ⟨_, ho, rfl⟩ (fun s' => typeIs_int s' 1 t) noFill_tuple_mul F.fills_int_mul F.slot_int_rmul repeat_tuple F.slot_int_index.lookup
    (call_meets F.slot_int_rmul (typeIs_int s 1 t) F.entry_int_rmul (F.args_int_rmul_2 _ _) (int_rmul_tuple 1 t l its.toArray n dd sl)
      ⟨ho, rfl, ⟨_, ho, rfl⟩, call_meets F.slot_tuple_mul ⟨_, ho, rfl⟩ F.entry_tuple_mul (F.args_tuple_mul_2 _ _) (tuple_mul1 l its.toArray n sl dd t) ⟨ho, ⟨.ref l, H, I, rfl, q⟩⟩⟩)
def rMulS : R2 := fun x y H Q => ∃ z k, x = .str z ∧ y = .int k ∧ MulOk z k ∧ Q (.str (Txt.mul z k)) H
theorem op_mulS {X : Cx} : OpR X (binaryOp .Mult) rMulS := by
  intro pins s σ H x y v u Q I rx ry h
  obtain ⟨z, k, rfl, rfl, hk, q⟩ := h
  obtain ⟨t, rfl⟩ := rx
  obtain ⟨t', rfl⟩ := ry
  exact SB.mul hk fun t2 k2 => ⟨.str _, H, I.tok _, ⟨_, rfl⟩, q⟩
def rMulA (K : PySem.W.Frag) : R2 := fun x y H Q => rI CMul (fun i j => .int (i * j)) x y H Q ∨ rMulS x y H Q ∨ rRep1 K x y H Q ∨ rRepT K x y H Q ∨ rRep x y H Q
theorem op_mulA {X : Cx} : OpR X (binaryOp .Mult) (rMulA X.K) := op_mul.or (op_mulS.or (op_rep1.or (op_repT.or op_rep)))
theorem sml_ok {i : Int} (h : sml i = true) : -(2 ^ 64) < i ∧ i < 2 ^ 64 := by
  have : i.natAbs < 18446744073709551616 := Nat.le_of_ble_eq_true h
  omega
theorem repL_len {α : Type} (n : Nat) (xs : List α) : (repL n xs).length = n * xs.length := by
  unfold repL; simp
theorem repL_mem {α : Type} {n : Nat} {xs : List α} {c : α} (h : c ∈ repL n xs) : c ∈ xs := by
  unfold repL at h
  obtain ⟨l, hl, hc⟩ := List.mem_flatten.mp h
  rw [(List.mem_replicate.mp hl).2] at hc
  exact hc
theorem foldl_cat (a : List Nat) : ∀ (n : Nat) (acc : Array Nat), (List.replicate n a.toArray).foldl (· ++ ·) acc = acc ++ (repL n a).toArray
  | 0, acc => by simp [repL]
  | n + 1, acc => by
    rw [List.replicate_succ, List.foldl_cons, foldl_cat a n]
    unfold repL
    rw [List.replicate_succ, List.flatten_cons]
    apply Array.ext'
    simp
theorem txt_mul (a : List Nat) (k : Int) (h0 : 0 ≤ k) : Txt.mul ⟨a.toArray⟩ k = ⟨(repL k.toNat a).toArray⟩ := by
  unfold Txt.mul
  by_cases h1 : k < 1
  · have : k = 0 := by omega
    subst this
    simp [repL]
    rfl
  · rw [if_neg h1]
    by_cases h2 : (k == 1 || (⟨a.toArray⟩ : Str).length == 0) = true
    · rw [if_pos h2]
      rw [len_S] at h2
      rcases Bool.or_eq_true_iff.mp h2 with e | e
      · have : k = 1 := by simpa using e
        subst this
        simp [repL]
      · have : a = [] := List.eq_nil_of_length_eq_zero (by simpa using e)
        subst this
        simp [repL]
    · rw [if_neg h2, foldl_cat]
      simp
theorem rep_flat {K : PySem.W.Frag} {W : Addr → Prop} {H : Hp} {xs : List V} {ts : List T} (l : IsL K W H xs ts) : ∀ n, IsL K W H (List.replicate n xs).flatten (repL n ts)
  | 0 => .nil
  | n + 1 => by
    unfold repL
    rw [List.replicate_succ, List.flatten_cons, List.replicate_succ, List.flatten_cons]
    exact l.append (rep_flat l n)
theorem ok_mul {K : PySem.W.Frag} : OpOK K (rMulA K) oMul := by
  intro W H x y a b t Q hm ha hb e q
  unfold oMul at e
  split at e
  · split at e
    · rename_i hl
      cases e; cases ha.int; cases hb.int
      refine .inl ⟨_, _, rfl, rfl, ?_, q _ H (Same.refl H) (.int _)⟩
      rcases Bool.or_eq_true_iff.mp hl with h | h
      · exact .inl (sml_ok h)
      · exact .inr (sml_ok h)
    · cases e
  · split at e
    · rename_i hl
      cases e
      cases hb.int
      obtain ⟨rfl, k1⟩ := ha.str
      rename_i cs k
      obtain ⟨h0, h1, h2⟩ := hl
      have hlen : k.toNat * cs.length ≤ 4096 * 4096 := Nat.mul_le_mul (by omega) h2
      refine .inr (.inl ⟨_, _, rfl, rfl, ⟨by rw [decide_eq_false (by omega), decide_eq_false (by omega)]; rfl, fun h3 h4 h5 => ?_, fun _ _ => ?_⟩, ?_⟩)
      · rw [len_S] at h5
        have : (2 ^ 63 - 1) / k ≥ (2 ^ 63 - 1) / 4096 := by
          apply Int.le_ediv_of_mul_le (by omega)
          have e1 : ((2 ^ 63 - 1) / 4096 : Int) * k ≤ ((2 ^ 63 - 1) / 4096 : Int) * 4096 := Int.mul_le_mul_of_nonneg_left h1 (by decide)
          have e2 : ((2 ^ 63 - 1) / 4096 : Int) * 4096 ≤ 2 ^ 63 - 1 := by decide
          omega
        have e3 : ((2 ^ 63 - 1) / 4096 : Int) ≥ 4096 := by decide
        omega
      · rw [len_S]
        unfold Builtin.Str.tooLong
        rw [sizeLine_eq]
        refine decide_eq_false ?_
        have : cs.length * k.toNat = k.toNat * cs.length := Nat.mul_comm _ _
        omega
      · rw [txt_mul _ _ h0]
        refine q _ H (Same.refl H) (.str _ (okS_of ?_ fun c hc => okS_all k1 c (repL_mem hc)))
        rw [repL_len, sizeLine_eq]; omega
    · cases e
  · split at e
    · rename_i hk
      cases e; cases hb.int
      subst hk
      obtain ⟨p, xs, rfl, h1, l1⟩ := ha.tup
      exact .inr (.inr (.inl ⟨p, xs, rfl, rfl, h1, q _ H (Same.refl H) (.tup h1 l1)⟩))
    · split at e
      · rename_i h
        cases e; cases hb.int
        obtain ⟨hn, h2, h3, h4⟩ := h
        obtain ⟨p, xs, rfl, h1, l1⟩ := ha.tup
        refine .inr (.inr (.inr (.inl ⟨p, _, xs, rfl, rfl, h1, fun z => hn ?_, h2, h3, by rw [l1.length]; exact h4, fun z hz => q _ _ (same_upd hz) (tup_new hm hz (rep_flat l1 _))⟩)))
        subst z; cases l1; rfl
      · cases e
  · split at e
    · rename_i h
      cases e; cases hb.int
      obtain ⟨h1, h2, h3⟩ := h
      obtain ⟨p, xs, rfl, hx, l1⟩ := ha.lst
      refine .inr (.inr (.inr (.inr ⟨p, _, xs, rfl, rfl, hx, by omega, by omega, ?_, fun z hz => q _ _ (same_upd hz) (lst_new hm hz (rep_flat l1 _))⟩)))
      rw [l1.length, sizeLine_eq]
      rename_i k
      have := Nat.mul_le_mul h3 (show k.toNat ≤ 4096 by omega)
      omega
    · cases e
  · cases e

/-! ### equality, in, is -/
@[simp] def oEq (a b : T) : R T := if T.flat 60 a && T.flat 60 b then .ok (.bl (T.eq a b)) else .no
@[simp] def oNe (a b : T) : R T := if T.flat 60 a && T.flat 60 b then .ok (.bl (!T.eq a b)) else .no
theorem tame_eq : Tame oEq := fun a b c t => by unfold oEq; split <;> intro h <;> cases h
theorem tame_ne : Tame oNe := fun a b c t => by unfold oNe; split <;> intro h <;> cases h
theorem ok_eq {K : PySem.W.Frag} : OpOK K (rEqD K) oEq := by
  intro W H x y a b t Q hm ha hb e q
  unfold oEq at e
  split at e
  · rename_i h
    cases e
    obtain ⟨f1, f2⟩ := Bool.and_eq_true_iff.mp h
    refine ⟨_, _, ha.dp f1, hb.dp f2, ha.shaped f1 (by decide), hb.shaped f2 (by decide), ?_⟩
    rw [eqv_toP a b f1 f2]
    exact q _ H (Same.refl H) (.bl _)
  · cases e
theorem ok_ne {K : PySem.W.Frag} : OpOK K (rNeD K) oNe := by
  intro W H x y a b t Q hm ha hb e q
  unfold oNe at e
  split at e
  · rename_i h
    cases e
    obtain ⟨f1, f2⟩ := Bool.and_eq_true_iff.mp h
    refine ⟨_, _, ha.dp f1, hb.dp f2, ha.shaped f1 (by decide), hb.shaped f2 (by decide), ?_⟩
    rw [eqv_toP a b f1 f2]
    exact q _ H (Same.refl H) (.bl _)
  · cases e
/-- is None, is True, is False: the right side written -/
@[simp] def oIs : T → T → R T
  | .non, .non => .ok (.bl true)
  | _, .non => .ok (.bl false)
  | .bl a, .bl b => .ok (.bl (a == b))
  | _, .bl _ => .ok (.bl false)
  | _, _ => .no
@[simp] def oIsNot : T → T → R T
  | .non, .non => .ok (.bl false)
  | _, .non => .ok (.bl true)
  | .bl a, .bl b => .ok (.bl (!(a == b)))
  | _, .bl _ => .ok (.bl true)
  | _, _ => .no
def rIsA (neg : Bool) : R2 := fun x y H Q => (y = .non ∧ Q (.bl (xor neg (decide (x = .non)))) H) ∨ ∃ b, y = .bl b ∧ Q (.bl (xor neg (decide (x = .bl b)))) H
theorem is_bl_gen {M : Model} {A : Around} {E : Value → Shared → Prop} {s : Shared} {Q : Value → Shared → Prop} {v : Value} {b : Bool} (hv : ∀ n, v ≠ .builtin n) (h : Q (.bool (v == .bool b)) s) : wpAny M A (compareOp .Is v (.bool b)) Q E s := by
  cases v <;> first
    | exact wpAny_pure h
    | exact (hv _ rfl).elim
theorem isnot_bl_gen {M : Model} {A : Around} {E : Value → Shared → Prop} {s : Shared} {Q : Value → Shared → Prop} {v : Value} {b : Bool} (hv : ∀ n, v ≠ .builtin n) (h : Q (.bool (!(v == .bool b))) s) : wpAny M A (compareOp .IsNot v (.bool b)) Q E s := by
  cases v <;> first
    | exact wpAny_pure h
    | exact (hv _ rfl).elim
theorem relV_nb {x : V} {v : Value} (r : RelV x v) : ∀ n, v ≠ .builtin n := by
  intro n e
  subst e
  have := r.abs
  cases this
theorem relV_bl {x : V} {v : Value} (r : RelV x v) (b : Bool) : (v == Value.bool b) = decide (x = .bl b) := by
  cases x with
  | non => cases r; rfl
  | bl c => cases r; cases b <;> cases c <;> rfl
  | int _ => obtain ⟨t, rfl⟩ := r; rfl
  | str _ => obtain ⟨t, rfl⟩ := r; rfl
  | byt _ => obtain ⟨t, rfl⟩ := r; rfl
  | flt _ => obtain ⟨t, rfl⟩ := r; rfl
  | ref _ => cases r; rfl
  | ty _ => cases r; rfl
theorem op_isA {X : Cx} : OpR X (compareOp .Is) (rIsA false) := by
  intro pins s σ H x y v u Q I rx ry h
  rcases h with ⟨rfl, q⟩ | ⟨b, rfl, q⟩
  · exact op_isN pins s σ H x _ v u Q I rx ry ⟨rfl, by simpa using q⟩
  · cases ry
    exact is_bl_gen (relV_nb rx) ⟨.bl _, H, I, by rw [relV_bl rx]; rfl, by simpa using q⟩
theorem op_isNotA {X : Cx} : OpR X (compareOp .IsNot) (rIsA true) := by
  intro pins s σ H x y v u Q I rx ry h
  rcases h with ⟨rfl, q⟩ | ⟨b, rfl, q⟩
  · exact op_notN pins s σ H x _ v u Q I rx ry ⟨rfl, by simpa using q⟩
  · cases ry
    exact isnot_bl_gen (relV_nb rx) ⟨.bl _, H, I, by rw [relV_bl rx]; rfl, by simpa using q⟩
theorem tame_is : Tame oIs := fun a b c t => by unfold oIs; split <;> intro h <;> cases h
theorem tame_isnot : Tame oIsNot := fun a b c t => by unfold oIsNot; split <;> intro h <;> cases h
theorem IsB.ne_non {K : PySem.W.Frag} {W : Addr → Prop} {H : Hp} {v : V} {t : T} (h : IsB K W H v t) (n : t ≠ .non) : v ≠ .non := by
  rintro rfl
  rcases h with h | ⟨a, e, h⟩
  · cases h; exact n rfl
  · cases e
theorem IsB.ne_bl {K : PySem.W.Frag} {W : Addr → Prop} {H : Hp} {v : V} {t : T} {b : Bool} (h : IsB K W H v t) (n : t ≠ .bl b) : v ≠ .bl b := by
  rintro rfl
  rcases h with h | ⟨a, e, h⟩
  · cases h; exact n rfl
  · cases e
theorem ok_is {K : PySem.W.Frag} : OpOK K (rIsA false) oIs := by
  intro W H x y a b t Q hm ha hb e q
  unfold oIs at e
  split at e
  · cases e; cases ha.non; cases hb.non; exact .inl ⟨rfl, by simpa using q _ H (Same.refl H) (.bl _)⟩
  · rename_i n
    cases e; cases hb.non
    have := ha.ne_non (fun z => n z)
    exact .inl ⟨rfl, by simpa [this] using q _ H (Same.refl H) (.bl _)⟩
  · cases e; cases ha.bl; cases hb.bl
    rename_i a b
    refine .inr ⟨_, rfl, ?_⟩
    have := q (.bl (a == b)) H (Same.refl H) (.bl _)
    cases a <;> cases b <;> simpa using this
  · rename_i b0 n
    cases e; cases hb.bl
    have := ha.ne_bl (b := b0) (fun z => n _ z)
    exact .inr ⟨_, rfl, by simpa [this] using q _ H (Same.refl H) (.bl _)⟩
  · cases e
theorem ok_isnot {K : PySem.W.Frag} : OpOK K (rIsA true) oIsNot := by
  intro W H x y a b t Q hm ha hb e q
  unfold oIsNot at e
  split at e
  · cases e; cases ha.non; cases hb.non; exact .inl ⟨rfl, by simpa using q _ H (Same.refl H) (.bl _)⟩
  · rename_i n
    cases e; cases hb.non
    have := ha.ne_non (fun z => n z)
    exact .inl ⟨rfl, by simpa [this] using q _ H (Same.refl H) (.bl _)⟩
  · cases e; cases ha.bl; cases hb.bl
    rename_i a b
    refine .inr ⟨_, rfl, ?_⟩
    have := q (.bl (!(a == b))) H (Same.refl H) (.bl _)
    cases a <;> cases b <;> simpa using this
  · rename_i b0 n
    cases e; cases hb.bl
    have := ha.ne_bl (b := b0) (fun z => n _ z)
    exact .inr ⟨_, rfl, by simpa [this] using q _ H (Same.refl H) (.bl _)⟩
  · cases e

/-! ### in -/
def memN (c : Nat) : List Nat → Bool
  | [] => false
  | x :: xs => Nat.beq c x || memN c xs
def memT (t : T) : List T → Bool
  | [] => false
  | x :: xs => T.eq x t || memT t xs
def inT : T → T → R Bool
  | .str [c], .str z => .ok (memN c z)
  | a, .lst ts => if T.flat 60 a && T.flats 59 ts then .ok (memT a ts) else .no
  | a, .frz ts => if T.flat 60 a && T.flats 59 ts then .ok (memT a ts) else .no
  | a, .tup ts => if T.flat 60 a && T.flats 59 ts then .ok (memT a ts) else .no
  | _, _ => .no
def oIn (a b : T) : R T := (inT a b).bind fun r => .ok (.bl r)
def oNotIn (a b : T) : R T := (inT a b).bind fun r => .ok (.bl (!r))
theorem inT_tame (a b : T) (c : String) (t : T) : inT a b ≠ .ex c t := by unfold inT; split <;> (try split) <;> intro h <;> cases h
theorem tame_in : Tame oIn := fun a b c t h => by
  unfold oIn at h
  cases e : inT a b with
  | ok r => rw [e] at h; cases h
  | ex c t => exact inT_tame _ _ _ _ e
  | no => rw [e] at h; cases h
theorem tame_notin : Tame oNotIn := fun a b c t h => by
  unfold oNotIn at h
  cases e : inT a b with
  | ok r => rw [e] at h; cases h
  | ex c t => exact inT_tame _ _ _ _ e
  | no => rw [e] at h; cases h
def rInA (K : PySem.W.Frag) (neg : Bool) : R2 := fun x y H Q => (∃ (c : Nat) (z : Str), x = .str ⟨#[c]⟩ ∧ y = .str z ∧ Q (.bl (xor neg (decide (c ∈ z.cps.toList)))) H) ∨
  ∃ d ds, Dp K H x d ∧ (Dp K H y (.list ds) ∨ Dp K H y (.tuple ds)) ∧ SeqAt.shaped d = true ∧ SeqAt.shaped (.list ds) = true ∧ Q (.bl (xor neg (ds.any fun z => PyData.eqv z d))) H
theorem room_in {A : Around} {d : PyData} {ds : List PyData} (sd : SeqAt.shaped d = true) (hu : A.units + 65 < cLine) : A.units + 1 + min (PyData.depthAll ds) d.depth < cLine := by
  have h1 := SeqAt.depth_of_shaped sd
  have h2 : min (PyData.depthAll ds) d.depth ≤ d.depth := Nat.min_le_right _ _
  omega
theorem op_inA {X : Cx} (hu : X.A.units + 65 < cLine) : OpR X (compareOp .In) (rInA X.K false) := by
  intro pins s σ H x y v u Q I rx ry h
  rcases h with ⟨c, z, rfl, rfl, q⟩ | ⟨d, ds, hd, he | he, sd, se, q⟩
  · exact op_in_sign pins s σ H _ _ v u Q I rx ry ⟨c, z, rfl, rfl, by simpa using q⟩
  · exact op_inD hu pins s σ H _ _ v u Q I rx ry ⟨d, ds, hd, he, sd, se, by simpa using q⟩
  · obtain ⟨as, r1⟩ := Dp.reads I d x v hd rx
    obtain ⟨bs, r2⟩ := Dp.reads I (.tuple ds) y u he ry
    exact SeqAt.in_tuple_reads r2 r1 (SeqAt.canLay_of_shaped se) (SeqAt.canLay_of_shaped sd) (room_in sd hu) ⟨.bl _, H, I, rfl, by simpa using q⟩
theorem op_notInA {X : Cx} (hu : X.A.units + 65 < cLine) : OpR X (compareOp .NotIn) (rInA X.K true) := by
  intro pins s σ H x y v u Q I rx ry h
  rcases h with ⟨c, z, rfl, rfl, q⟩ | ⟨d, ds, hd, he | he, sd, se, q⟩
  · exact op_notIn_sign pins s σ H _ _ v u Q I rx ry ⟨c, z, rfl, rfl, by simpa using q⟩
  · exact op_notInD hu pins s σ H _ _ v u Q I rx ry ⟨d, ds, hd, he, sd, se, by simpa using q⟩
  · obtain ⟨as, r1⟩ := Dp.reads I d x v hd rx
    obtain ⟨bs, r2⟩ := Dp.reads I (.tuple ds) y u he ry
    exact SeqAt.notIn_tuple_reads r2 r1 (SeqAt.canLay_of_shaped se) (SeqAt.canLay_of_shaped sd) (room_in sd hu) ⟨.bl _, H, I, rfl, by simpa using q⟩
theorem memN_eq {c : Nat} : ∀ {z : List Nat}, memN c z = decide (c ∈ z)
  | [] => by simp [memN]
  | x :: xs => by
    unfold memN
    rw [memN_eq (z := xs)]
    by_cases h : c = x
    · subst h; simp
    · have : Nat.beq c x = false := by
        cases e : Nat.beq c x with
        | false => rfl
        | true => exact (h (Nat.eq_of_beq_eq_true e)).elim
      simp [this, h]
theorem memT_eq {n k : Nat} {t : T} (ht : T.flat n t = true) : ∀ {ts : List T}, T.flats k ts = true → ((toPs ts).any fun z => PyData.eqv z (toP t)) = memT t ts
  | [], _ => by simp [toPs, memT]
  | x :: xs, h => by
    simp only [T.flats, Bool.and_eq_true] at h
    simp only [toPs, memT, List.any_cons]
    rw [eqv_toP x t h.1 ht, memT_eq ht h.2]
theorem IsB.dpl {K : PySem.W.Frag} {W : Addr → Prop} {H : Hp} {v : V} {ts : List T} (h : IsB K W H v (.lst ts)) (f : T.flats 59 ts = true) : Dp K H v (.list (toPs ts)) ∧ SeqAt.shaped (.list (toPs ts)) = true := by
  have f' : T.flat 60 (.lst ts) = true := by simpa [T.flat] using f
  have h1 := h.dp f'
  have h2 := h.shaped f' (by decide)
  simp only [toP] at h1 h2
  exact ⟨h1, h2⟩
theorem IsB.dpf {K : PySem.W.Frag} {W : Addr → Prop} {H : Hp} {v : V} {ts : List T} (h : IsB K W H v (.frz ts)) (f : T.flats 59 ts = true) : Dp K H v (.list (toPs ts)) ∧ SeqAt.shaped (.list (toPs ts)) = true := by
  have f' : T.flat 60 (.frz ts) = true := by simpa [T.flat] using f
  have h1 := h.dp f'
  have h2 := h.shaped f' (by decide)
  simp only [toP] at h1 h2
  exact ⟨h1, h2⟩
theorem IsB.dpt {K : PySem.W.Frag} {W : Addr → Prop} {H : Hp} {v : V} {ts : List T} (h : IsB K W H v (.tup ts)) (f : T.flats 59 ts = true) : Dp K H v (.tuple (toPs ts)) ∧ SeqAt.shaped (.list (toPs ts)) = true := by
  have f' : T.flat 60 (.tup ts) = true := by simpa [T.flat] using f
  have h1 := h.dp f'
  have h2 := h.shaped f' (by decide)
  simp only [toP] at h1 h2
  exact ⟨h1, h2⟩
theorem in_core {K : PySem.W.Frag} {neg : Bool} {W : Addr → Prop} {H : Hp} {x y : V} {a b : T} {r : Bool} {Q : VK} (ha : IsB K W H x a) (hb : IsB K W H y b) (e : inT a b = .ok r) (q : Q (.bl (xor neg r)) H) : rInA K neg x y H Q := by
  unfold inT at e
  split at e
  · cases e
    obtain ⟨rfl, k1⟩ := ha.str
    obtain ⟨rfl, k2⟩ := hb.str
    refine .inl ⟨_, _, rfl, rfl, ?_⟩
    rw [memN_eq] at q
    simpa using q
  · split at e
    · rename_i h
      cases e
      obtain ⟨f1, f2⟩ := Bool.and_eq_true_iff.mp h
      obtain ⟨h1, h2⟩ := hb.dpl f2
      exact .inr ⟨_, _, ha.dp f1, .inl h1, ha.shaped f1 (by decide), h2, by rw [memT_eq f1 f2]; exact q⟩
    · cases e
  · split at e
    · rename_i h
      cases e
      obtain ⟨f1, f2⟩ := Bool.and_eq_true_iff.mp h
      obtain ⟨h1, h2⟩ := hb.dpf f2
      exact .inr ⟨_, _, ha.dp f1, .inl h1, ha.shaped f1 (by decide), h2, by rw [memT_eq f1 f2]; exact q⟩
    · cases e
  · split at e
    · rename_i h
      cases e
      obtain ⟨f1, f2⟩ := Bool.and_eq_true_iff.mp h
      obtain ⟨h1, h2⟩ := hb.dpt f2
      exact .inr ⟨_, _, ha.dp f1, .inr h1, ha.shaped f1 (by decide), h2, by rw [memT_eq f1 f2]; exact q⟩
    · cases e
  · cases e
theorem ok_in {K : PySem.W.Frag} : OpOK K (rInA K false) oIn := by
  intro W H x y a b t Q hm ha hb e q
  unfold oIn at e
  cases e1 : inT a b with
  | ok r => rw [e1] at e; cases e; exact in_core ha hb e1 (by simpa using q _ H (Same.refl H) (.bl _))
  | ex c t => rw [e1] at e; cases e
  | no => rw [e1] at e; cases e
theorem ok_notin {K : PySem.W.Frag} : OpOK K (rInA K true) oNotIn := by
  intro W H x y a b t Q hm ha hb e q
  unfold oNotIn at e
  cases e1 : inT a b with
  | ok r => rw [e1] at e; cases e; exact in_core ha hb e1 (by simpa using q _ H (Same.refl H) (.bl _))
  | ex c t => rw [e1] at e; cases e
  | no => rw [e1] at e; cases e

/-! ### places -/
def ixL {α : Type} (xs : List α) (i : Int) : Option α := atI xs i
@[simp] def oIx : T → T → R T
  | .tup ts, .int i => match atI ts i with
    | some t => .ok t
    | none => .no
  | .lst ts, .int i => match atI ts i with
    | some t => .ok t
    | none => .no
  | .frz ts, .int i => match atI ts i with
    | some t => .ok t
    | none => .no
  | .str cs, .int i => match atI cs i with
    | some c => .ok (.str [c])
    | none => .no
  | _, _ => .no
theorem tame_ix : Tame oIx := fun a b c t => by unfold oIx; split <;> (try split) <;> intro h <;> cases h
theorem IsL.at {K : PySem.W.Frag} {W : Addr → Prop} {H : Hp} {xs : List V} {ts : List T} {i : Int} {t : T} (l : IsL K W H xs ts) (h : atI ts i = some t) : ∃ v, atI xs i = some v ∧ Is K W H v t := by
  unfold atI at h ⊢
  rw [l.length]
  cases e : ixN ts.length i with
  | none => rw [e] at h; cases h
  | some j => rw [e] at h; exact l.get h
theorem atI_mem {α : Type} {xs : List α} {i : Int} {x : α} (h : atI xs i = some x) : x ∈ xs := by
  unfold atI at h
  cases e : ixN xs.length i with
  | none => rw [e] at h; cases h
  | some j => rw [e] at h; exact List.mem_of_getElem? h
theorem ok_ix {K : PySem.W.Frag} : OpOK K (rIx K) oIx := by
  intro W H x y a b t Q hm ha hb e q
  unfold oIx at e
  split at e
  · split at e
    · rename_i h
      cases e; cases hb.int
      obtain ⟨p, xs, rfl, h1, l1⟩ := ha.tup
      obtain ⟨v, h2, i2⟩ := l1.at h
      exact .inr (.inl ⟨p, xs, _, v, rfl, rfl, h1, h2, q v H (Same.refl H) i2⟩)
    · cases e
  · split at e
    · rename_i h
      cases e; cases hb.int
      obtain ⟨p, xs, rfl, h1, l1⟩ := ha.lst
      obtain ⟨v, h2, i2⟩ := l1.at h
      exact .inl ⟨p, xs, _, v, rfl, rfl, .of h1, h2, q v H (Same.refl H) i2⟩
    · cases e
  · split at e
    · rename_i h
      cases e; cases hb.int
      obtain ⟨p, xs, rfl, h1, l1⟩ := ha.frz
      obtain ⟨v, h2, i2⟩ := l1.at h
      exact .inl ⟨p, xs, _, v, rfl, rfl, h1, h2, q v H (Same.refl H) i2⟩
    · cases e
  · split at e
    · rename_i h
      cases e; cases hb.int
      obtain ⟨rfl, k1⟩ := ha.str
      refine .inr (.inr ⟨_, _, _, rfl, rfl, by rw [len_S]; exact okS_len k1, by simpa using h, ?_⟩)
      exact q _ H (Same.refl H) (.str [_] (okS_of (by rw [sizeLine_eq]; exact (by decide : 1 ≤ 16777216)) fun d hd => by
        have : d = _ := List.mem_singleton.mp hd
        subst this
        exact okS_all k1 _ (atI_mem h)))
    · cases e
  · cases e
end M3
/-! M3, part d: slices, the way back, truth, tests, calls of built-ins. -/
namespace M3
open PySem PySem.Spec PyProof.Rows L2

/-! ### x[::-1] of lists, tuples, texts -/
theorem applied_rev {prog : Program} {w : World} {A : Around} {E : Value → Shared → Prop} {s : Shared} {sl : Addr} {vl vu vs : Value} {n : Nat} {Q : Int × Int × Nat → Shared → Prop} (hs : s.heap.IsSliceOf sl vl vu vs) (pl : IsPart vl none) (pu : IsPart vu none) (ps : IsPart vs (some (-1)))
    (h : Q (((n : Int) - 1), -1, n) s) : wpAny (model prog w) A (Builtin.Slice.sliceApplied (.ref sl) (pure (n : Int))) Q E s := by
  obtain ⟨os, hos, hcs, hds⟩ := id hs
  unfold Builtin.Slice.sliceApplied Builtin.Slice.sliceFields
  refine wpAny_bind (wpAny_bind (wpAny_field hos hds (x := vl) rfl (wpAny_bind (wpAny_field hos hds (x := vu) rfl (wpAny_bind (wpAny_field hos hds (x := vs) rfl (wpAny_pure ?_)))))))
  refine wpAny_bind (HT.slicePart_ ps ?_)
  show wpAny _ _ (if ((-1 : Int) == 0) = true then _ else _) _ _ s
  rw [if_neg (by decide)]
  refine wpAny_bind (HT.slicePart_ pl (wpAny_bind (HT.slicePart_ pu (wpAny_bind (wpAny_pure ?_)))))
  show wpAny _ _ (match Builtin.Slice.sliceAdjust none none (-1) (n : Int) with | (lo, hi) => pure (lo, (-1 : Int), Builtin.Slice.slicePlaces lo hi (-1))) _ _ s
  have e1 : Builtin.Slice.sliceAdjust none none (-1) (n : Int) = ((n : Int) - 1, -1) := by
    unfold Builtin.Slice.sliceAdjust
    have : ((-1 : Int) < 0) := by decide
    simp only [this, if_true]
  rw [e1]
  have e2 : Builtin.Slice.slicePlaces ((n : Int) - 1) (-1) (-1) = n := by
    unfold Builtin.Slice.slicePlaces
    have h1 : ¬ ((-1 : Int) > 0) := by decide
    have h2 : ((n : Int) - 1 - -1 - 1) / (- -1) = n - 1 := by rw [show (- -1 : Int) = 1 by decide, Int.ediv_one]; omega
    simp only [h1, if_false, h2]
    split <;> omega
  show wpAny _ _ (pure (((n : Int) - 1), (-1 : Int), Builtin.Slice.slicePlaces ((n : Int) - 1) (-1) (-1))) _ _ s
  rw [e2]
  exact wpAny_pure h
theorem fm_congr {α β : Type} {f g : α → Option β} : ∀ (l : List α), (∀ x ∈ l, f x = g x) → l.filterMap f = l.filterMap g
  | [], _ => rfl
  | x :: xs, h => by
    rw [List.filterMap_cons, List.filterMap_cons, h x List.mem_cons_self, fm_congr xs fun y hy => h y (List.mem_cons_of_mem _ hy)]
theorem pick_rev (xs : Array Value) (n : Nat) (hn : n = xs.size) : ((List.range n).filterMap fun (m : Nat) => xs[(((n : Int) - 1) + (m : Int) * (-1)).toNat]?).toArray = xs.toList.reverse.toArray := by
  subst hn
  congr 1
  rw [show ((List.range xs.size).filterMap fun (m : Nat) => xs[(((xs.size : Int) - 1) + (m : Int) * (-1)).toNat]?) = ((List.range xs.size).map fun k => xs.size - 1 - k).filterMap (xs[·]?) by
    rw [List.filterMap_map]
    refine fm_congr _ fun m hm => ?_
    have := List.mem_range.mp hm
    show xs[(((xs.size : Int) - 1) + (m : Int) * (-1)).toNat]? = xs[xs.size - 1 - m]?
    congr 1
    omega]
  rw [PySem.W.krv_range, List.filterMap_reverse, PySem.W.krv_all]
theorem getItem_tuple_rev {prog : Program} {w : World} {A : Around} {E : Value → Shared → Prop} {s : Shared} {t sl : Addr} {items : Array Value} {vl vu vs : Value} {Q : Value → Shared → Prop} (ht : IsTup s.heap t items) (hs : s.heap.IsSliceOf sl vl vu vs) (pl : IsPart vl none) (pu : IsPart vu none) (ps : IsPart vs (some (-1)))
    (h : Q (.ref s.heap.objs.size) { s with heap := s.heap.push { cls := .type "tuple", data := .seq items.toList.reverse.toArray } })
    (hsz : items.size ≤ sizeLine) : wpAny (model prog w) A (getItem (.ref t) (.ref sl)) Q E s := by
  have htake : sizeOk (.seq items.toList.reverse.toArray) := by
    show (items.toList.reverse.toArray).size ≤ sizeLine
    rw [List.size_toArray, List.length_reverse, Array.length_toList]; exact hsz
  obtain ⟨os, hos, hcs, hds⟩ := id hs
  have hTs : s.TypeIs (.ref sl) "slice" := ⟨os, hos, hcs⟩
  unfold getItem
  try with_reducible refine wpAny_holding ?_
  first | refine wpAny_bind (wpAny_pure ?_) | skip
  refine wpAny_bind (wpAny_sequenceKey ht.typeIs (by decide) ?_)
  refine wpAny_bind (wpAny_callSpecial?_slot (name := Str.ofString "__getitem__") ht.typeIs PyProof.Rows.slot_tuple_getitem
    (wpAny_call_entry PyProof.Rows.slot_tuple_getitem ht.typeIs entry_tuple_getitem ?_ (args_tuple_getitem _ _)))
  show wpAny _ _ (Builtin.Tuple.tupleItemsOf (.ref t) >>= _) _ _ s
  refine wpAny_bind (tupleItemsOf_ ht ?_)
  refine wpAny_bind (wpAny_typeOf hTs ?_)
  rw [if_pos (by decide)]
  refine wpAny_bind (applied_rev hs pl pu ps ?_)
  have hno : ¬ ((((items.size : Int) - 1 == 0) && ((-1 : Int) == 1) && (items.size == items.size)) = true) := by
    intro q
    rw [Bool.and_eq_true, Bool.and_eq_true] at q
    exact absurd (eq_of_beq q.1.2) (by decide)
  show wpAny _ _ (if (((items.size : Int) - 1 == 0) && ((-1 : Int) == 1) && (items.size == items.size)) = true then _ else _) _ _ s
  rw [if_neg hno, pick_rev items items.size rfl]
  first
    | exact wpAny_bind (m := Builtin.Tuple.tupleExact _) (wpAny_newObj_type (wpAny_pure ⟨_, rfl, wpAny_pure h⟩) htake)
    | exact wpAny_bind (m := Builtin.Tuple.tupleExact _) (wpAny_newObj_type (wpAny_bind (wpAny_pure (wpAny_pure ⟨_, rfl, wpAny_pure h⟩))) htake)
    | exact wpAny_bind (wpAny_bind (m := Builtin.Tuple.tupleExact _) (wpAny_newObj_type (wpAny_pure (wpAny_pure ⟨_, rfl, wpAny_pure h⟩)) htake))
    | exact wpAny_bind (wpAny_bind (m := Builtin.Tuple.tupleExact _) (wpAny_newObj_type (wpAny_pure ⟨_, rfl, wpAny_pure h⟩) htake))
theorem getItem_str_rev {prog : Program} {w : World} {A : Around} {E : Value → Shared → Prop} {s : Shared} {x : Str} {t : Tok} {sl : Addr} {k : Tok} {Q : Value → Shared → Prop} (hs : s.heap.IsSlice sl none none (some (-1, k))) (hz : x.length ≤ sizeLine)
    (h : ∀ t' tk, Q (.str ⟨x.cps.toList.reverse.toArray⟩ t') { s with toks := tk }) : wpAny (model prog w) A (getItem (.str x t) (.ref sl)) Q E s := by
  refine wpAny_getItem_str_slice (l := none) (u := none) (st := some (-1, k)) hs rfl ?_
  have e : ((slicePicked x none none (some (-1, k))).filterMap (x.cps[·]?)).toArray = x.cps.toList.reverse.toArray := by
    unfold slicePicked
    show ((sliceRange ((x.cps.size : Int) - 1) (-1) (-1)).filterMap (x.cps[·]?)).toArray = _
    rw [PySem.W.krv_sliceRange, PySem.W.krv_range, List.filterMap_reverse, PySem.W.krv_all]
  unfold sliceMade
  show Made.post (if (((-1 : Int) == 1) && _) = true then _ else _) Q s
  rw [if_neg (by intro z; rw [Bool.and_eq_true] at z; exact absurd (eq_of_beq z.1) (by decide)), e]
  refine ⟨?_, h _ _⟩
  show (x.cps.toList.reverse.toArray).size ≤ sizeLine
  rw [List.size_toArray, List.length_reverse, Array.length_toList]
  exact hz
def tRevA (K : PySem.W.Frag) (te : TE) : TE := fun σ H Q => te σ H fun x H1 => (∃ a xs, x = .ref a ∧ SqL K H1 a xs ∧ ∀ p, H1 p = none → Q (.ref p) (upd H1 p (.lst xs.reverse))) ∨
  (∃ a xs, x = .ref a ∧ SqT K H1 a xs ∧ ∀ p, H1 p = none → Q (.ref p) (upd H1 p (.tup xs.reverse))) ∨ ∃ z : Str, x = .str z ∧ z.length ≤ sizeLine ∧ Q (.str ⟨z.cps.toList.reverse.toArray⟩) H1
theorem pe_revAny {X : Cx} {e : Expr} {te : TE} {k : Nat} {p1 p2 p3 pos : Pos} (he : PE X e te) : PE X (.Subscript e (.Slice none none (some (.UnaryOp .USub (.Constant (.int 1) k p1) p2)) p3) pos) (tRevA X.K te) := by
  refine ⟨fun pins s σ H Q n I h => ?_⟩
  refine Subscript_ (he.go n I h fun v s1 x H1 n1 I1 r1 q1 => ?_)
  have hst : PO X (some (.UnaryOp .USub (.Constant (.int 1) k p1) p2)) (tPart (tUn (rU fun i => .int (-i)) (tC (.int 1)))) := po_some (pe_un un_neg pe_int)
  refine wpAny_Slice (po_none.go (Q := fun o H2 => o = none ∧ H2 = H1) n1 I1 ⟨rfl, rfl⟩ fun vl s2 l H2 n2 I2 pl ⟨el, e2⟩ => ?_)
  subst el e2
  refine po_none.go (Q := fun o H3 => o = none ∧ H3 = H2) n2 I2 ⟨rfl, rfl⟩ fun vu s3 u H3 n3 I3 pu ⟨eu, e3⟩ => ?_
  subst eu e3
  refine hst.go (Q := fun o H4 => o = some (-1) ∧ H4 = H3) n3 I3 ⟨1, rfl, -1, rfl, rfl, rfl⟩ fun vs s4 o H4 n4 I4 ps ⟨eo, e4⟩ => ?_
  subst eo e4
  have I5 : Inv X pins σ H4 { s4 with heap := s4.heap.push { cls := .type "slice", data := .fields #[vl, vu, vs] } } := I4.kept (t' := s4.toks) fun b ob q => Heap.get?_push_of_some _ q
  show wpAny (model X.prog X.w) X.A (subscriptTail e (.Slice none none (some (.UnaryOp .USub (.Constant (.int 1) k p1) p2)) p3) v (.ref s4.heap.objs.size)) (EP X pins σ Q) X.xe { s4 with heap := s4.heap.push { cls := .type "slice", data := .fields #[vl, vu, vs] } }
  rcases q1 with ⟨a, xs, ex, hx, q⟩ | ⟨a, xs, ex, hx, q⟩ | ⟨z, ex, hz, q⟩
  · subst ex
    cases r1
    obtain ⟨its, r, ht, hz⟩ := I5.list hx
    have hlen := r.length
    refine tail_any (ops := [.ref a, .ref s4.heap.objs.size]) ht.isList.typeIs (PySem.slot_list_getitem.lookup) ?_ (by with_unfolding_all rfl)
    refine wpAny_getItem_list_slice ht.isList (Heap.IsSliceOf.new _ vl vu vs) pl pu ps (by decide) ?_ (by rw [List.size_toArray]; omega)
    rw [PySem.W.krv_pick]
    refine ⟨.ref _, _, I5.laid (t' := s4.toks) (o := .lst xs.reverse) (fun b ob q => Heap.get?_push_of_some _ q) (Nat.le_refl _) ?_, rfl, q _ (I5.hok.fresh (Nat.le_refl _))⟩
    exact ⟨by rw [List.length_reverse]; exact hz, _, 0, r.reverse, Heap.get?_push_size _ rfl⟩
  · subst ex
    cases r1
    obtain ⟨its, r, ht, hz⟩ := I5.tuple hx
    have hlen := r.length
    refine tail_any (ops := [.ref a, .ref s4.heap.objs.size]) ht.typeIs (PyProof.Rows.slot_tuple_getitem.lookup) ?_ (by with_unfolding_all rfl)
    refine getItem_tuple_rev ht (Heap.IsSliceOf.new _ vl vu vs) pl pu ps ?_ (by rw [List.size_toArray]; omega)
    refine ⟨.ref _, _, I5.laid (t' := s4.toks) (o := .tup xs.reverse) (fun b ob q => Heap.get?_push_of_some _ q) (Nat.le_refl _) ?_, rfl, q _ (I5.hok.fresh (Nat.le_refl _))⟩
    refine ⟨by rw [List.length_reverse]; exact hz, _, r.reverse, ?_⟩
    have := IsTup.new { s4 with heap := s4.heap.push { cls := .type "slice", data := .fields #[vl, vu, vs] } }.heap its.toArray.toList.reverse.toArray
    simpa using this
  · subst ex
    obtain ⟨t, rfl⟩ := r1
    refine tail_any (T := "str") (ops := [.str z t, .ref s4.heap.objs.size]) (typeIs_str _ _ _) F.slot_str_getitem.lookup ?_ (by with_unfolding_all rfl)
    cases pl
    cases pu
    cases ps with
    | int _ tk =>
      exact getItem_str_rev (k := tk) ⟨_, Heap.get?_push_size _ rfl, rfl, rfl⟩ hz fun t' tk => ⟨.str _, H4, I5.tok _, ⟨_, rfl⟩, q⟩
end M3
/-! zip over any number of iterators, whatever the target: each turn hands out a new tuple. -/
namespace ZN
open PySem PySem.Spec PyProof.Rows L2
open PySem.Sem (wp)

structure Cell where
  it : Addr
  n : Nat
  fp : List Addr
  P : Nat → Value → Prop
  St : Nat → Heap → Prop
structure Sep (z TI TO : Addr) (cs : List Cell) : Prop where
  TIz : TI ≠ z
  TOz : TO ≠ z
  TITO : TI ≠ TO
  out : ∀ c ∈ cs, TI ≠ c.it ∧ c.it ∈ c.fp ∧ z ∉ c.fp ∧ TO ∉ c.fp
  apart : cs.Pairwise fun c d => c.it ∉ d.fp ∧ d.it ∉ c.fp
abbrev zipO (f0 f1 : Value) (TI TO : Addr) : Obj := { cls := .type "zip", data := .fields #[f0, f1, .bool false, .ref TI, .ref TO] }
abbrev tupO (vs : List Value) : Obj := { cls := .type "tuple", data := .seq vs.toArray }
def OkF (f0 : Value) : Prop := f0 = .none ∨ ∃ (a : Int) (t : Tok), f0 = .int a t

section
variable {prog : Program} {w : World} {A : Around} {E : Value → Shared → Prop}

theorem zne {z TI TO : Addr} {cs : List Cell} (S : Sep z TI TO cs) {c : Cell} (hc : c ∈ cs) : z ≠ c.it := fun e => by
  obtain ⟨_, m, h, _⟩ := S.out c hc; rw [e] at h; exact h m
theorem tne {z TI TO : Addr} {cs : List Cell} (S : Sep z TI TO cs) {c : Cell} (hc : c ∈ cs) : TO ≠ c.it := fun e => by
  obtain ⟨_, m, _, h⟩ := S.out c hc; rw [e] at h; exact h m

/-- the cells behind some draws: those done stand at i + 1, the others at i; what else was there is as it was -/
structure Mid (z TI TO : Addr) (cs dn rs : List Cell) (i : Nat) (h0 : Heap) (vals : List Value) (h : Heap) : Prop where
  cut : cs = dn ++ rs
  drawn : Paired (fun (c : Cell) v => c.P i v) dn vals
  at1 : ∀ c ∈ dn, c.St (i + 1) h
  at0 : ∀ c ∈ rs, c.St i h
  size : h.objs.size = h0.objs.size
  keep : ∀ b o, b ≠ z → b ≠ TO → (∀ c ∈ cs, b ≠ c.it) → h0.get? b = some o → h.get? b = some o

theorem Mid.over {z TI TO : Addr} {cs dn rs : List Cell} {i : Nat} {h0 h h' : Heap} {vals : List Value} {x : Addr} (M : Mid z TI TO cs dn rs i h0 vals h) (S : Sep z TI TO cs) (D : ∀ c ∈ cs, Draws prog w A c.it c.fp c.n c.P c.St)
    (hs : Heap.SameBut x h h') (hx : x = z ∨ x = TO) : Mid z TI TO cs dn rs i h0 vals h' where
  cut := M.cut
  drawn := M.drawn
  at1 := fun c hc => by
    have hm : c ∈ cs := by rw [M.cut]; exact List.mem_append_left _ hc
    refine (D c hm).over (M.at1 c hc) hs ?_
    obtain ⟨_, _, h1, h2⟩ := S.out c hm
    rcases hx with rfl | rfl
    · exact h1
    · exact h2
  at0 := fun c hc => by
    have hm : c ∈ cs := by rw [M.cut]; exact List.mem_append_right _ hc
    refine (D c hm).over (M.at0 c hc) hs ?_
    obtain ⟨_, _, h1, h2⟩ := S.out c hm
    rcases hx with rfl | rfl
    · exact h1
    · exact h2
  size := hs.1.trans M.size
  keep := fun b o b1 b2 b3 e => hs.extBut b o (by rcases hx with rfl | rfl <;> assumption) (M.keep b o b1 b2 b3 e)
theorem pairwise_split {α : Type} {R : α → α → Prop} {dn rs : List α} {c : α} (h : (dn ++ c :: rs).Pairwise R) : (∀ d ∈ dn, R d c) ∧ ∀ d ∈ rs, R c d := by
  obtain ⟨_, h2, h3⟩ := List.pairwise_append.mp h
  exact ⟨fun d hd => h3 d hd c List.mem_cons_self, fun d hd => (List.pairwise_cons.mp h2).1 d hd⟩
/-- one more draw -/
theorem Mid.next {z TI TO : Addr} {cs dn rs : List Cell} {c : Cell} {i : Nat} {h0 h h' : Heap} {vals : List Value} {x : Value} (M : Mid z TI TO cs dn (c :: rs) i h0 vals h) (S : Sep z TI TO cs) (D : ∀ c ∈ cs, Draws prog w A c.it c.fp c.n c.P c.St)
    (hx : c.P i x) (st : c.St (i + 1) h') (hs : Heap.SameBut c.it h h') : Mid z TI TO cs (dn ++ [c]) rs i h0 (vals ++ [x]) h' := by
  have ap : (dn ++ c :: rs).Pairwise fun c d => c.it ∉ d.fp ∧ d.it ∉ c.fp := by rw [← M.cut]; exact S.apart
  obtain ⟨a1, a2⟩ := pairwise_split ap
  have mc : ∀ d, d ∈ dn ∨ d ∈ rs → d ∈ cs := fun d hd => by
    rw [M.cut]
    rcases hd with hd | hd
    · exact List.mem_append_left _ hd
    · exact List.mem_append_right _ (List.mem_cons_of_mem _ hd)
  refine ⟨by rw [M.cut]; simp, ?_, fun d hd => ?_, fun d hd => ?_, hs.1.trans M.size, fun b o b1 b2 b3 e => hs.extBut b o (b3 c (by rw [M.cut]; simp)) (M.keep b o b1 b2 b3 e)⟩
  · have : ∀ {l : List Cell} {v : List Value}, Paired (fun (c : Cell) v => c.P i v) l v → Paired (fun (c : Cell) v => c.P i v) (l ++ [c]) (v ++ [x]) := by
      intro l v p
      induction p with
      | nil => exact .cons hx .nil
      | cons r _ ih => exact .cons r ih
    exact this M.drawn
  · rcases List.mem_append.mp hd with hd | hd
    · exact (D d (mc d (.inl hd))).over (M.at1 d hd) hs (a1 d hd).2
    · have : d = c := List.mem_singleton.mp hd
      subst this; exact st
  · exact (D d (mc d (.inr hd))).over (M.at0 d (List.mem_cons_of_mem _ hd)) hs (a2 d hd).1

theorem Paired.len {α β : Type} {R : α → β → Prop} {l : List α} {v : List β} (p : Paired R l v) : l.length = v.length := Paired.length p
theorem getD_toks {a : Value} : True := trivial

theorem set_mid {vs vals : List Value} {x : Value} {n : Nat} (hl : vs.length = n) (hv : vals.length < n) (e : vs.take vals.length = vals) :
    (vs.set vals.length x).take (vals.length + 1) = vals ++ [x] := by
  have h1 : vals.length < (vs.set vals.length x).length := by rw [List.length_set]; omega
  rw [List.take_add_one, List.take_set_of_le (Nat.le_refl _), e, List.getElem?_set_self (by omega)]
  rfl

theorem next_item {s : Shared} {z TI TO : Addr} {cs : List Cell} {i : Nat} {f0 f1 : Value} {ow : List Value} {Q : Value → Shared → Prop} (S : Sep z TI TO cs) (D : ∀ c ∈ cs, Draws prog w A c.it c.fp c.n c.P c.St) (hne : cs ≠ [])
    (hz : s.heap.get? z = some (zipO f0 f1 TI TO)) (hf : OkF f0) (hTI : s.heap.get? TI = some (tupO (cs.map fun c => .ref c.it))) (hTO : s.heap.get? TO = some (tupO ow)) (how : ow.length = cs.length) (hsz : cs.length ≤ sizeLine)
    (st : ∀ c ∈ cs, c.St i s.heap) (hlt : ∀ c ∈ cs, i < c.n)
    (hQ : ∀ vals h' tk f0' f1' ow', Paired (fun (c : Cell) v => c.P i v) cs vals → h'.get? z = some (zipO f0' f1' TI TO) → OkF f0' → h'.get? TO = some (tupO ow') → ow'.length = cs.length → (∀ c ∈ cs, c.St (i + 1) h') →
      h'.get? s.heap.objs.size = some (tupO vals) → h'.objs.size = s.heap.objs.size + 1 → (∀ b o, b ≠ z → b ≠ TO → (∀ c ∈ cs, b ≠ c.it) → s.heap.get? b = some o → h'.get? b = some o) → Q (.ref s.heap.objs.size) { s with heap := h', toks := tk }) :
    wpAny (model prog w) A (Builtin.«zip.__next__» ⟨[.ref z], []⟩) (fun fin s' => ∃ v, fin = .done (.ret v) ∧ Q v s') E s := by
  obtain ⟨hp, g, d, tk0, os⟩ := s
  replace hz : hp.get? z = some (zipO f0 f1 TI TO) := hz
  replace hTI : hp.get? TI = some (tupO (cs.map fun c => .ref c.it)) := hTI
  replace hTO : hp.get? TO = some (tupO ow) := hTO
  show wpAny _ _ (field (.ref z) 2 >>= _) _ _ _
  refine wpAny_bind (wpAny_field (s := ⟨hp, g, d, tk0, os⟩) hz rfl (x := .bool false) rfl ?_)
  show wpAny _ _ (field (.ref z) 3 >>= _) _ _ _
  refine wpAny_bind (wpAny_field (s := ⟨hp, g, d, tk0, os⟩) hz rfl (x := .ref TI) rfl ?_)
  refine wpAny_bind (wpAny_seqItems (s := ⟨hp, g, d, tk0, os⟩) hTI rfl ?_)
  have hemp : (cs.map fun c => Value.ref c.it).toArray.isEmpty = false := by
    cases cs with
    | nil => exact (hne rfl).elim
    | cons c r => simp
  have hlt0 : ∀ c ∈ cs, c.it < hp.objs.size := fun c hc => by
    obtain ⟨o, e⟩ := (D c hc).live _ _ (st c hc)
    exact Heap.lt_size e
  dsimp only
  rw [if_neg (by rw [hemp]; exact Bool.false_ne_true)]
  refine wpAny_bind (thn (Q := fun (b : Bool) s' => ∃ h1 f0' f1', s' = ⟨h1, g, d, tk0, os⟩ ∧ h1.get? z = some (zipO f0' f1' TI TO) ∧ OkF f0' ∧ Heap.SameBut z hp h1) ?_ fun b s' hb => ?_)
  · unfold Builtin.SmallTypes.ownedTupleIsFree
    refine wpAny_bind (wpAny_field (s := ⟨hp, g, d, tk0, os⟩) hz rfl (x := f0) rfl ?_)
    rcases hf with rfl | ⟨a, t, rfl⟩
    · exact wpAny_pure ⟨hp, _, _, rfl, hz, .inl rfl, Heap.SameBut.refl _ _⟩
    · refine wpAny_bind ?_
      have la : ∀ {Q : Option Obj → Shared → Prop}, Q (hp.get? a.toNat) ⟨hp, g, d, tk0, os⟩ → wpAny (model prog w) A (loadIfAlive a.toNat) Q E ⟨hp, g, d, tk0, os⟩ := fun h _ _ _ => h
      refine la ?_
      split
      · exact wpAny_pure ⟨hp, _, _, rfl, hz, .inr ⟨a, t, rfl⟩, Heap.SameBut.refl _ _⟩
      · refine wpAny_bind (wpAny_field (s := ⟨hp, g, d, tk0, os⟩) hz rfl (x := f1) rfl ?_)
        split
        · refine wpAny_bind (wpAny_setField_rec (s := ⟨hp, g, d, tk0, os⟩) hz (by simp) fun h1 hz1 hs1 => wpAny_pure ⟨h1, _, _, rfl, hz1, .inr ⟨a, t, rfl⟩, hs1⟩)
        · exact wpAny_pure ⟨hp, _, _, rfl, hz, .inr ⟨a, t, rfl⟩, Heap.SameBut.refl _ _⟩
  obtain ⟨h1, f0', f1', rfl, hz1, hf1, hs1⟩ := hb
  have M0 : Mid z TI TO cs [] cs i hp [] h1 := ⟨rfl, .nil, fun _ h => (nomatch h), fun c hc => (D c hc).over (st c hc) hs1 (S.out c hc).2.2.1, hs1.1, fun b o b1 _ _ e => hs1.extBut b o b1 e⟩
  have hTO1 : h1.get? TO = some (tupO ow) := hs1.extBut _ _ S.TOz hTO
  cases b with
  | true =>
    simp only [if_true]
    refine wpAny_bind (wpAny_rule (wpAny_bind (wpAny_field (s := ⟨h1, g, d, tk0, os⟩) hz1 rfl (x := .ref TO) rfl ?_)))
    refine wpAny_bind (wpAny_setField_rec (s := ⟨h1, g, d, tk0, os⟩) hz1 (by simp) fun h2 hz2 hs2 => ?_)
    replace hz2 : h2.get? z = some (zipO .ellipsis f1' TI TO) := hz2
    have M1 := M0.over S D hs2 (.inl rfl)
    have hTO2 : h2.get? TO = some (tupO ow) := hs2.extBut _ _ S.TOz hTO1
    refine wpAny_bind (wpAny_forIn_list _ (fun rest c s' => ∃ dn rs vals h tk ow', rest = (rs.map fun c => Value.ref c.it).zipIdx dn.length ∧ c = (none, ()) ∧ s' = ⟨h, g, d, tk, os⟩ ∧ Mid z TI TO cs dn rs i hp vals h ∧
        h.get? z = some (zipO .ellipsis f1' TI TO) ∧ h.get? TO = some (tupO ow') ∧ ow'.length = cs.length ∧ ow'.take vals.length = vals) _ ?_ ?_ _ _ ⟨[], cs, [], h2, tk0, ow, by simp, rfl, rfl, M1, hz2, hTO2, how, rfl⟩)
    · rintro x rest c s' ⟨dn, rs, vals, h, tk, ow', er, rfl, rfl, M, hzz, hTT, hlen, htk⟩
      cases rs with
      | nil => simp at er
      | cons c rs =>
        simp only [List.map_cons, List.zipIdx_cons, List.cons.injEq] at er
        obtain ⟨rfl, rfl⟩ := er
        have mc : c ∈ cs := by rw [M.cut]; simp
        refine wpAny_bind (wpAny_onRaise ?_)
        show wpAny _ _ (Builtin.SmallTypes.nextOf (.ref c.it) >>= _) _ _ ⟨h, g, d, tk, os⟩
        refine wpAny_bind ((D c mc).item i _ _ _ (hlt c mc) (M.at0 c List.mem_cons_self) fun x h3 tk3 hx st3 hs3 => wpAny_pure ?_)
        replace hs3 : Heap.SameBut c.it h h3 := hs3
        have M3 := M.next S D hx st3 hs3
        have hT3 : h3.get? TO = some (tupO ow') := hs3.extBut _ _ (tne S mc) hTT
        have hz3 : h3.get? z = some (zipO .ellipsis f1' TI TO) := hs3.extBut _ _ (zne S mc) hzz
        refine wpAny_bind (wpAny_seqItems (s := ⟨h3, g, d, tk3, os⟩) hT3 rfl ?_)
        refine wpAny_bind (wpAny_updateSeq (s := ⟨h3, g, d, tk3, os⟩) hT3 rfl ?_)
        refine wpAny_bind (wpAny_letGo (wpAny_pure ?_))
        have hs4 : Heap.SameBut TO h3 (h3.update TO (Obj.mapSeq (·.setIfInBounds dn.length x))) := Heap.SameBut.update ..
        have ld : dn.length = vals.length := Paired.length M.drawn
        have lt : vals.length < ow'.length := by rw [hlen, M.cut, List.length_append, List.length_cons]; omega
        refine ⟨dn ++ [c], rs, vals ++ [x], _, tk3, ow'.set dn.length x, by simp, rfl, rfl, M3.over S D hs4 (.inr rfl), hs4.extBut _ _ S.TOz.symm hz3, ?_, by rw [List.length_set]; exact hlen, ?_⟩
        · rw [Heap.get?_update_self _ hT3 rfl]
          simp [Obj.mapSeq]
        · rw [List.length_append, ld]
          exact set_mid rfl lt htk
    · rintro c s' ⟨dn, rs, vals, h, tk, ow', er, rfl, rfl, M, hzz, hTT, hlen, htk⟩
      cases rs with
      | cons c rs => simp at er
      | nil =>
        have hd : cs = dn := by rw [M.cut]; simp
        have ld : dn.length = vals.length := Paired.length M.drawn
        have hv : ow' = vals := by rw [← htk, List.take_of_length_le (by rw [hlen, hd, ld]; exact Nat.le_refl _)]
        subst hv
        dsimp only
        refine wpAny_bind (wpAny_seqItems (s := ⟨h, g, d, tk, os⟩) hTT rfl ?_)
        refine wpAny_bind (wpAny_newTuple ?_ (by rw [hlen]; exact hsz))
        show wpAny _ _ (Builtin.SmallTypes.ownedTupleHandOut (.ref z) (.ref h.objs.size) >>= _) _ _ ⟨h.push (tupO ow'), g, d, tk, os⟩
        refine wpAny_bind ?_
        unfold Builtin.SmallTypes.ownedTupleHandOut
        have hz₆ : (h.push (tupO ow')).get? z = some (zipO .ellipsis f1' TI TO) := Heap.get?_push_of_some _ hzz
        refine wpAny_bind (wpAny_setField_rec (s := ⟨h.push (tupO ow'), g, d, tk, os⟩) hz₆ (by simp) fun h₇ hz₇ hs₇ => ?_)
        replace hz₇ : h₇.get? z = some (zipO (rawInt h.objs.size) f1' TI TO) := hz₇
        refine wpAny_setField_rec (s := ⟨h₇, g, d, tk, os⟩) hz₇ (by simp) fun h₈ hz₈ hs₈ => ?_
        replace hz₈ : h₈.get? z = some (zipO (rawInt h.objs.size) (.bool false) TI TO) := hz₈
        replace hs₇ : Heap.SameBut z (h.push (tupO ow')) h₇ := hs₇
        replace hs₈ : Heap.SameBut z h₇ h₈ := hs₈
        have up : ∀ c o, c ≠ z → h.get? c = some o → h₈.get? c = some o := fun c o c1 e => hs₈.extBut _ _ c1 (hs₇.extBut _ _ c1 (Heap.get?_push_of_some _ e))
        have hzlt : z < h.objs.size := Heap.lt_size hzz
        have hT₈ : h₈.get? h.objs.size = some (tupO ow') := hs₈.extBut _ _ (Nat.ne_of_gt hzlt) (hs₇.extBut _ _ (Nat.ne_of_gt hzlt) (Heap.get?_push_size _ rfl))
        have hz8 : h₈.objs.size = h.objs.size + 1 := by rw [hs₈.1, hs₇.1, Heap.size_push]
        rw [M.size] at hT₈ hz8
        refine wpAny_pure ⟨_, rfl, ?_⟩
        show Q (.ref h.objs.size) ⟨h₈, g, d, tk, os⟩
        rw [M.size]
        exact hQ ow' h₈ tk _ _ ow' (by rw [hd]; exact M.drawn) hz₈ (.inr ⟨_, _, rfl⟩) (up _ _ S.TOz hTT) hlen (fun c hc => (D c hc).frame _ _ _ (M.at1 c (by rw [← hd]; exact hc)) fun b hb o e => up b o (fun q => (S.out c hc).2.2.1 (q ▸ hb)) e) hT₈ hz8 fun b o b1 b2 b3 e => up b o b1 (M.keep b o b1 b2 b3 e)
  | false =>
    simp only [Bool.false_eq_true, if_false]
    refine wpAny_bind (wpAny_forIn_array' _ (fun rest c s' => ∃ dn rs vals h tk, rest = (rs.map fun c => Value.ref c.it) ∧ c = (none, vals.toArray) ∧ s' = ⟨h, g, d, tk, os⟩ ∧ Mid z TI TO cs dn rs i hp vals h ∧
        h.get? z = some (zipO f0' f1' TI TO) ∧ h.get? TO = some (tupO ow)) _ ?_ ?_ _ _ ⟨[], cs, [], h1, tk0, by simp, rfl, rfl, M0, hz1, hTO1⟩)
    · rintro x rest c s' ⟨dn, rs, vals, h, tk, er, rfl, rfl, M, hzz, hTT⟩
      cases rs with
      | nil => simp at er
      | cons c rs =>
        simp only [List.map_cons, List.cons.injEq] at er
        obtain ⟨rfl, rfl⟩ := er
        have mc : c ∈ cs := by rw [M.cut]; simp
        refine wpAny_bind (wpAny_holding ?_)
        show wpAny _ _ (Builtin.SmallTypes.nextOf (.ref c.it) >>= _) _ _ ⟨h, g, d, tk, os⟩
        refine wpAny_bind ((D c mc).item i _ _ _ (hlt c mc) (M.at0 c List.mem_cons_self) fun x h3 tk3 hx st3 hs3 => wpAny_pure ?_)
        replace hs3 : Heap.SameBut c.it h h3 := hs3
        refine wpAny_pure ?_
        exact ⟨dn ++ [c], rs, vals ++ [x], h3, tk3, rfl, by simp, rfl, M.next S D hx st3 hs3, hs3.extBut _ _ (zne S mc) hzz, hs3.extBut _ _ (tne S mc) hTT⟩
    · rintro c s' ⟨dn, rs, vals, h, tk, er, rfl, rfl, M, hzz, hTT⟩
      cases rs with
      | cons c rs => simp at er
      | nil =>
        have hd : cs = dn := by rw [M.cut]; simp
        have ld : dn.length = vals.length := Paired.length M.drawn
        dsimp only
        refine wpAny_bind (wpAny_newTuple ?_ (by rw [← ld, ← hd]; exact hsz))
        refine wpAny_pure ⟨_, rfl, ?_⟩
        show Q (.ref h.objs.size) ⟨h.push (tupO vals.toArray.toList), g, d, tk, os⟩
        rw [List.toList_toArray, M.size]
        have hT : (h.push (tupO vals)).get? h.objs.size = some (tupO vals) := Heap.get?_push_size _ rfl
        have hz8 : (h.push (tupO vals)).objs.size = h.objs.size + 1 := Heap.size_push ..
        rw [M.size] at hT hz8
        exact hQ vals _ tk _ _ ow (by rw [hd]; exact M.drawn) (Heap.get?_push_of_some _ hzz) hf1 (Heap.get?_push_of_some _ hTT) how (fun c hc => (D c hc).frame _ _ _ (M.at1 c (by rw [← hd]; exact hc)) fun b hb o e => Heap.get?_push_of_some _ e) hT hz8 fun b o b1 b2 b3 e => Heap.get?_push_of_some _ (M.keep b o b1 b2 b3 e)

theorem next_end {s : Shared} {z TI TO : Addr} {cs : List Cell} {i : Nat} {f0 f1 : Value} {ow : List Value} {Q : Fin → Shared → Prop} (S : Sep z TI TO cs) (D : ∀ c ∈ cs, Draws prog w A c.it c.fp c.n c.P c.St) (hne : cs ≠ [])
    (hz : s.heap.get? z = some (zipO f0 f1 TI TO)) (hf : OkF f0) (hTI : s.heap.get? TI = some (tupO (cs.map fun c => .ref c.it))) (hTO : s.heap.get? TO = some (tupO ow))
    (how : ow.length = cs.length) (hsz : cs.length ≤ sizeLine) (st : ∀ c ∈ cs, c.St i s.heap) (hle : ∀ c ∈ cs, i ≤ c.n) (hend : ∃ c ∈ cs, c.n = i)
    (hE : ∀ h' tk e, (∀ b o, b ≠ z → b ≠ TO → (∀ c ∈ cs, b ≠ c.it) → s.heap.get? b = some o → h'.get? b = some o) → (∃ o, h'.get? e = some o ∧ o.cls = .type "StopIteration") → E (.ref e) { s with heap := h', toks := tk }) :
    wpAny (model prog w) A (Builtin.«zip.__next__» ⟨[.ref z], []⟩) Q E s := by
  obtain ⟨hp, g, d, tk0, os⟩ := s
  replace hz : hp.get? z = some (zipO f0 f1 TI TO) := hz
  replace hTI : hp.get? TI = some (tupO (cs.map fun c => .ref c.it)) := hTI
  replace hTO : hp.get? TO = some (tupO ow) := hTO
  show wpAny _ _ (field (.ref z) 2 >>= _) _ _ _
  refine wpAny_bind (wpAny_field (s := ⟨hp, g, d, tk0, os⟩) hz rfl (x := .bool false) rfl ?_)
  show wpAny _ _ (field (.ref z) 3 >>= _) _ _ _
  refine wpAny_bind (wpAny_field (s := ⟨hp, g, d, tk0, os⟩) hz rfl (x := .ref TI) rfl ?_)
  refine wpAny_bind (wpAny_seqItems (s := ⟨hp, g, d, tk0, os⟩) hTI rfl ?_)
  have hemp : (cs.map fun c => Value.ref c.it).toArray.isEmpty = false := by
    cases cs with
    | nil => exact (hne rfl).elim
    | cons c r => simp
  dsimp only
  rw [if_neg (by rw [hemp]; exact Bool.false_ne_true)]
  refine wpAny_bind (thn (Q := fun (b : Bool) s' => ∃ h1 f0' f1', s' = ⟨h1, g, d, tk0, os⟩ ∧ h1.get? z = some (zipO f0' f1' TI TO) ∧ OkF f0' ∧ Heap.SameBut z hp h1) ?_ fun b s' hb => ?_)
  · unfold Builtin.SmallTypes.ownedTupleIsFree
    refine wpAny_bind (wpAny_field (s := ⟨hp, g, d, tk0, os⟩) hz rfl (x := f0) rfl ?_)
    rcases hf with rfl | ⟨a, t, rfl⟩
    · exact wpAny_pure ⟨hp, _, _, rfl, hz, .inl rfl, Heap.SameBut.refl _ _⟩
    · refine wpAny_bind ?_
      have la : ∀ {Q : Option Obj → Shared → Prop}, Q (hp.get? a.toNat) ⟨hp, g, d, tk0, os⟩ → wpAny (model prog w) A (loadIfAlive a.toNat) Q E ⟨hp, g, d, tk0, os⟩ := fun h _ _ _ => h
      refine la ?_
      split
      · exact wpAny_pure ⟨hp, _, _, rfl, hz, .inr ⟨a, t, rfl⟩, Heap.SameBut.refl _ _⟩
      · refine wpAny_bind (wpAny_field (s := ⟨hp, g, d, tk0, os⟩) hz rfl (x := f1) rfl ?_)
        split
        · refine wpAny_bind (wpAny_setField_rec (s := ⟨hp, g, d, tk0, os⟩) hz (by simp) fun h1 hz1 hs1 => wpAny_pure ⟨h1, _, _, rfl, hz1, .inr ⟨a, t, rfl⟩, hs1⟩)
        · exact wpAny_pure ⟨hp, _, _, rfl, hz, .inr ⟨a, t, rfl⟩, Heap.SameBut.refl _ _⟩
  obtain ⟨h1, f0', f1', rfl, hz1, hf1, hs1⟩ := hb
  have M0 : Mid z TI TO cs [] cs i hp [] h1 := ⟨rfl, .nil, fun _ h => (nomatch h), fun c hc => (D c hc).over (st c hc) hs1 (S.out c hc).2.2.1, hs1.1, fun b o b1 _ _ e => hs1.extBut b o b1 e⟩
  have hTO1 : h1.get? TO = some (tupO ow) := hs1.extBut _ _ S.TOz hTO
  cases b with
  | true =>
    simp only [if_true]
    refine wpAny_bind (wpAny_rule (wpAny_bind (wpAny_field (s := ⟨h1, g, d, tk0, os⟩) hz1 rfl (x := .ref TO) rfl ?_)))
    refine wpAny_bind (wpAny_setField_rec (s := ⟨h1, g, d, tk0, os⟩) hz1 (by simp) fun h2 hz2 hs2 => ?_)
    replace hz2 : h2.get? z = some (zipO .ellipsis f1' TI TO) := hz2
    have M1 := M0.over S D hs2 (.inl rfl)
    have hTO2 : h2.get? TO = some (tupO ow) := hs2.extBut _ _ S.TOz hTO1
    refine wpAny_bind (wpAny_forIn_list _ (fun rest c s' => ∃ dn rs vals h tk ow', rest = (rs.map fun c => Value.ref c.it).zipIdx dn.length ∧ c = (none, ()) ∧ s' = ⟨h, g, d, tk, os⟩ ∧ Mid z TI TO cs dn rs i hp vals h ∧
        h.get? z = some (zipO .ellipsis f1' TI TO) ∧ h.get? TO = some (tupO ow') ∧ ow'.length = cs.length ∧ ∀ c ∈ dn, i < c.n) _ ?_ ?_ _ _ ⟨[], cs, [], h2, tk0, ow, by simp, rfl, rfl, M1, hz2, hTO2, how, fun _ h => (nomatch h)⟩)
    · rintro x rest c s' ⟨dn, rs, vals, h, tk, ow', er, rfl, rfl, M, hzz, hTT, hlen, hdn⟩
      cases rs with
      | nil => simp at er
      | cons c rs =>
        simp only [List.map_cons, List.zipIdx_cons, List.cons.injEq] at er
        obtain ⟨rfl, rfl⟩ := er
        have mc : c ∈ cs := by rw [M.cut]; simp
        refine wpAny_bind (wpAny_onRaise ?_)
        show wpAny _ _ (Builtin.SmallTypes.nextOf (.ref c.it) >>= _) _ _ ⟨h, g, d, tk, os⟩
        by_cases hlt : i < c.n
        · refine wpAny_bind ((D c mc).item i _ _ _ hlt (M.at0 c List.mem_cons_self) fun x h3 tk3 hx st3 hs3 => wpAny_pure ?_)
          replace hs3 : Heap.SameBut c.it h h3 := hs3
          have M3 := M.next S D hx st3 hs3
          have hT3 : h3.get? TO = some (tupO ow') := hs3.extBut _ _ (tne S mc) hTT
          have hz3 : h3.get? z = some (zipO .ellipsis f1' TI TO) := hs3.extBut _ _ (zne S mc) hzz
          refine wpAny_bind (wpAny_seqItems (s := ⟨h3, g, d, tk3, os⟩) hT3 rfl ?_)
          refine wpAny_bind (wpAny_updateSeq (s := ⟨h3, g, d, tk3, os⟩) hT3 rfl ?_)
          refine wpAny_bind (wpAny_letGo (wpAny_pure ?_))
          have hs4 : Heap.SameBut TO h3 (h3.update TO (Obj.mapSeq (·.setIfInBounds dn.length x))) := Heap.SameBut.update ..
          refine ⟨dn ++ [c], rs, vals ++ [x], _, tk3, ow'.set dn.length x, by simp, rfl, rfl, M3.over S D hs4 (.inr rfl), hs4.extBut _ _ S.TOz.symm hz3, ?_, by rw [List.length_set]; exact hlen, fun d hd => ?_⟩
          · rw [Heap.get?_update_self _ hT3 rfl]
            simp [Obj.mapSeq]
          · rcases List.mem_append.mp hd with q | q
            · exact hdn d q
            · rw [List.mem_singleton.mp q]; exact hlt
        · have hn : c.n = i := Nat.le_antisymm (Nat.le_of_not_lt hlt) (hle c mc)
          refine wpAny_bind ((D c mc).done ⟨h, g, d, tk, os⟩ _ _ (by rw [hn]; exact M.at0 c List.mem_cons_self) fun q e hq he => ?_)
          replace hq : Heap.ExtBut c.it h q := hq
          obtain ⟨oe, hoe, hce⟩ := he
          replace hoe : q.get? e = some oe := hoe
          have hzq : q.get? z = some (zipO .ellipsis f1' TI TO) := hq _ _ (zne S mc) hzz
          have hez : e ≠ z := fun x => by subst x; rw [hzq] at hoe; cases hoe; simp at hce
          refine wpAny_setField_rec (s := ⟨q, g, d, tk, os⟩) hzq (by simp) fun q' _ hq' => ?_
          replace hq' : Heap.SameBut z q q' := hq'
          exact hE q' tk e (fun b o b1 b2 b3 x => hq'.extBut _ _ b1 (hq _ _ (b3 c mc) (M.keep b o b1 b2 b3 x))) ⟨oe, hq'.extBut _ _ hez hoe, hce⟩
    · rintro c s' ⟨dn, rs, vals, h, tk, ow', er, rfl, rfl, M, hzz, hTT, hlen, hdn⟩
      cases rs with
      | cons c rs => simp at er
      | nil =>
        obtain ⟨c, hc, hn⟩ := hend
        rw [M.cut, List.append_nil] at hc
        exact absurd (hdn c hc) (by rw [hn]; exact Nat.lt_irrefl _)
  | false =>
    simp only [Bool.false_eq_true, if_false]
    refine wpAny_bind (wpAny_forIn_array' _ (fun rest c s' => ∃ dn rs vals h tk, rest = (rs.map fun c => Value.ref c.it) ∧ c = (none, vals.toArray) ∧ s' = ⟨h, g, d, tk, os⟩ ∧ Mid z TI TO cs dn rs i hp vals h ∧
        ∀ c ∈ dn, i < c.n) _ ?_ ?_ _ _ ⟨[], cs, [], h1, tk0, by simp, rfl, rfl, M0, fun _ h => (nomatch h)⟩)
    · rintro x rest c s' ⟨dn, rs, vals, h, tk, er, rfl, rfl, M, hdn⟩
      cases rs with
      | nil => simp at er
      | cons c rs =>
        simp only [List.map_cons, List.cons.injEq] at er
        obtain ⟨rfl, rfl⟩ := er
        have mc : c ∈ cs := by rw [M.cut]; simp
        refine wpAny_bind (wpAny_holding ?_)
        show wpAny _ _ (Builtin.SmallTypes.nextOf (.ref c.it) >>= _) _ _ ⟨h, g, d, tk, os⟩
        by_cases hlt : i < c.n
        · refine wpAny_bind ((D c mc).item i _ _ _ hlt (M.at0 c List.mem_cons_self) fun x h3 tk3 hx st3 hs3 => wpAny_pure ?_)
          replace hs3 : Heap.SameBut c.it h h3 := hs3
          refine wpAny_pure ?_
          refine ⟨dn ++ [c], rs, vals ++ [x], h3, tk3, rfl, by simp, rfl, M.next S D hx st3 hs3, fun d hd => ?_⟩
          rcases List.mem_append.mp hd with q | q
          · exact hdn d q
          · rw [List.mem_singleton.mp q]; exact hlt
        · have hn : c.n = i := Nat.le_antisymm (Nat.le_of_not_lt hlt) (hle c mc)
          refine wpAny_bind ((D c mc).done ⟨h, g, d, tk, os⟩ _ _ (by rw [hn]; exact M.at0 c List.mem_cons_self) fun q e hq he => ?_)
          replace hq : Heap.ExtBut c.it h q := hq
          exact hE q tk e (fun b o b1 b2 b3 x => hq _ _ (b3 c mc) (M.keep b o b1 b2 b3 x)) he
    · rintro c s' ⟨dn, rs, vals, h, tk, er, rfl, rfl, M, hdn⟩
      cases rs with
      | cons c rs => simp at er
      | nil =>
        obtain ⟨c, hc, hn⟩ := hend
        rw [M.cut, List.append_nil] at hc
        exact absurd (hdn c hc) (by rw [hn]; exact Nat.lt_irrefl _)
end
end ZN
/-! zip over any number of lists, tuples, texts: the turns, the making, the call with a star. -/
namespace ZN
open PySem PySem.Spec PyProof.Rows L2
open PySem.Sem (wp)

section
variable {prog : Program} {w : World} {A : Around} {E : Value → Shared → Prop}
theorem pyNext_item {s : Shared} {z TI TO : Addr} {cs : List Cell} {i : Nat} {f0 f1 : Value} {ow : List Value} {Q : Option Value → Shared → Prop} (S : Sep z TI TO cs) (D : ∀ c ∈ cs, Draws prog w A.in1 c.it c.fp c.n c.P c.St) (hne : cs ≠ [])
    (hz : s.heap.get? z = some (zipO f0 f1 TI TO)) (hf : OkF f0) (hTI : s.heap.get? TI = some (tupO (cs.map fun c => .ref c.it))) (hTO : s.heap.get? TO = some (tupO ow)) (how : ow.length = cs.length) (hsz : cs.length ≤ sizeLine)
    (st : ∀ c ∈ cs, c.St i s.heap) (hlt : ∀ c ∈ cs, i < c.n)
    (hQ : ∀ vals h' tk f0' f1' ow', Paired (fun (c : Cell) v => c.P i v) cs vals → h'.get? z = some (zipO f0' f1' TI TO) → OkF f0' → h'.get? TO = some (tupO ow') → ow'.length = cs.length → (∀ c ∈ cs, c.St (i + 1) h') →
      h'.get? s.heap.objs.size = some (tupO vals) → h'.objs.size = s.heap.objs.size + 1 → (∀ b o, b ≠ z → b ≠ TO → (∀ c ∈ cs, b ≠ c.it) → s.heap.get? b = some o → h'.get? b = some o) → Q (some (.ref s.heap.objs.size)) { s with heap := h', toks := tk }) :
    wpAny (model prog w) A (pyNext (.ref z)) Q E s := by
  have hT : s.TypeIs (.ref z) "zip" := ⟨_, hz, rfl⟩
  unfold pyNext
  exact wpAny_bind (wpAny_attempt (wpAny_callSpecial?_slot (name := Str.ofString "__next__") hT F.slot_zip_next
    (wpAny_call_entry F.slot_zip_next hT F.entry_zip_next
      (next_item S D hne hz hf hTI hTO how hsz st hlt fun vals h' tk f0' f1' ow' a1 a2 a3 a4 a5 a6 a7 a8 a9 => wpAny_pure (hQ vals h' tk f0' f1' ow' a1 a2 a3 a4 a5 a6 a7 a8 a9)) (F.args_zip_next_1 _))))
theorem pyNext_end {s : Shared} {z TI TO : Addr} {cs : List Cell} {i : Nat} {f0 f1 : Value} {ow : List Value} {Q : Option Value → Shared → Prop} (S : Sep z TI TO cs) (D : ∀ c ∈ cs, Draws prog w A.in1 c.it c.fp c.n c.P c.St) (hne : cs ≠ [])
    (hz : s.heap.get? z = some (zipO f0 f1 TI TO)) (hf : OkF f0) (hTI : s.heap.get? TI = some (tupO (cs.map fun c => .ref c.it))) (hTO : s.heap.get? TO = some (tupO ow)) (how : ow.length = cs.length) (hsz : cs.length ≤ sizeLine)
    (st : ∀ c ∈ cs, c.St i s.heap) (hle : ∀ c ∈ cs, i ≤ c.n) (hend : ∃ c ∈ cs, c.n = i)
    (hQ : ∀ h' tk, (∀ b o, b ≠ z → b ≠ TO → (∀ c ∈ cs, b ≠ c.it) → s.heap.get? b = some o → h'.get? b = some o) → Q none { s with heap := h', toks := tk }) :
    wpAny (model prog w) A (pyNext (.ref z)) Q E s := by
  have hT : s.TypeIs (.ref z) "zip" := ⟨_, hz, rfl⟩
  unfold pyNext
  refine wpAny_bind (wpAny_attempt (wpAny_callSpecial?_slot (name := Str.ofString "__next__") hT F.slot_zip_next
    (wpAny_call_entry F.slot_zip_next hT F.entry_zip_next (next_end S D hne hz hf hTI hTO how hsz st hle hend fun h' tk e hk he => ?_) (F.args_zip_next_1 _))))
  obtain ⟨o, ho, hc⟩ := he
  refine wpAny_bind (wpAny_isInstance (T := "StopIteration") (b := true) ⟨o, ho, hc⟩ isSubtype_stop ?_)
  exact wpAny_pure (hQ _ _ hk)
theorem letGo_zip {s : Shared} {tg : Expr} {z TI TO T : Addr} {f0 f1 : Value} {Q : Unit → Shared → Prop} (hz : s.heap.get? z = some (zipO f0 f1 TI TO)) (hf : OkF f0)
    (hQ : ∀ h' f0', h'.get? z = some (zipO f0' f1 TI TO) → OkF f0' → Heap.SameBut z s.heap h' → Q () { s with heap := h' }) :
    wpAny (model prog w) A (letOwnedTupleGo tg (.ref z) (.ref T)) Q E s := by
  have no : wpAny (model prog w) A (pure ()) Q E s := wpAny_pure (hQ _ _ hz hf (Heap.SameBut.refl _ _))
  have yes : wpAny (model prog w) A (do
      let o ← load z
      match o.cls, o.data with
      | .type n, .fields vs =>
        if ["enumerate", "zip", "dict_itemiterator", "dict_reverseitemiterator", "odict_iterator", "itertools.zip_longest", "itertools.pairwise"].contains n && vs[0]? == some (rawInt T) then
          rule "for.unpacks-the-owned-tuple"
          updateField z 0 .none
      | _, _ => pure ()) Q E s := by
    refine wpAny_bind (wpAny_load hz ?_)
    dsimp only
    split
    · refine wpAny_bind (wpAny_rule ?_)
      show wpAny _ _ (setField (.ref z) 0 .none) Q E s
      exact wpAny_setField_rec hz (by simp) fun h' hz' hs' => hQ h' _ hz' (.inl rfl) hs'
    · exact no
  unfold letOwnedTupleGo
  cases tg <;> first
    | exact no
    | exact yes
end

inductive ZS where
  | l (a : Addr) | t (a : Addr) | s (x : Str)
def ZS.v : ZS → V
  | .l a => .ref a
  | .t a => .ref a
  | .s x => .str x
def ZS.rd (K : PySem.W.Frag) (H : Hp) : ZS → List V → Prop
  | .l a, xs => SqL K H a xs
  | .t a, xs => SqT K H a xs
  | .s x, xs => xs = x.cps.toList.map fun c => V.str ⟨#[c]⟩
def ZS.below (N : Nat) : ZS → Prop
  | .l a => a < N
  | .t a => a < N
  | .s _ => True
def ZS.it : ZS → Addr → Nat → Heap → Prop
  | .l a, it, i, h => h.IsListIter it a i
  | .t a, it, i, h => h.IsTupleIter it a i
  | .s x, it, i, h => ∃ t, h.IsStrIter it (strIterType x) x t i
theorem ZS.it_keep {z : ZS} {it : Addr} {i : Nat} {h h' : Heap} (q : z.it it i h) (k : ∀ o, h.get? it = some o → h'.get? it = some o) : z.it it i h' := by
  cases z with
  | l a => exact q.at k
  | t a => exact q.at k
  | s x => obtain ⟨t, o, e, r⟩ := q; exact ⟨t, o, k o e, r⟩
theorem ZS.it_obj {z : ZS} {it : Addr} {i : Nat} {h : Heap} (q : z.it it i h) : ∃ o, h.get? it = some o ∧ ∀ v, o.data ≠ .cell v := by
  cases z with
  | l a => obtain ⟨o, e, _, d⟩ := q; exact ⟨o, e, fun v z => by rw [d] at z; cases z⟩
  | t a => obtain ⟨o, e, _, d⟩ := q; exact ⟨o, e, fun v z => by rw [d] at z; cases z⟩
  | s x => obtain ⟨t, o, e, _, d⟩ := q; exact ⟨o, e, fun v z => by rw [d] at z; cases z⟩
section
variable {X : Cx} {pins : List (Addr × Obj)} {σ : L2.St} {H : Hp} {s : Shared}
theorem ZS.inj (I : Inv X pins σ H s) {z : ZS} {xs ys : List V} (h : z.rd X.K H xs) (h' : z.rd X.K H ys) : xs = ys := by
  cases z with
  | l a => exact I.list_inj h h'
  | t a => exact I.tuple_inj h h'
  | s x => exact h.trans h'.symm
/-- an iterator as a cell: what it gives are the source's items -/
structure CellOf (P : Program) (w : World) (A : Around) (N : Nat) (z : ZS) (xs : List V) (i : Nat) (it : Addr) (h : Heap) (c : Cell) : Prop where
  itE : c.it = it
  nE : c.n = xs.length
  fpE : ∀ b ∈ c.fp, b = it ∨ b < N
  fpI : it ∈ c.fp
  dr : Draws P w A c.it c.fp c.n c.P c.St
  st : c.St i h
  p : ∀ j v, c.P j v → ∃ y, xs[j]? = some y ∧ RelV y v
  back : ∀ j h, c.St j h → z.it it j h
theorem cellOf (I : Inv X pins σ H s) (hh : X.A.handled = none) {z : ZS} {xs : List V} {N i : Nat} {it : Addr} (r : z.rd X.K H xs) (q : z.it it i s.heap) (lt : z.below N) (le : N ≤ it) : ∃ c, CellOf X.prog X.w X.A.in1 N z xs i it s.heap c := by
  cases z with
  | l a =>
    obtain ⟨its, rv, p, _⟩ := I.list r
    have ne : a ≠ it := Nat.ne_of_lt (Nat.lt_of_lt_of_le lt le)
    refine ⟨⟨it, its.toArray.size, [it, a], fun i v => its.toArray[i]? = some v, fun i h => h.IsListIter it a i ∧ h.IsList a its.toArray⟩, rfl, by rw [rv.length]; simp, fun b hb => ?_, by simp, Draws.list (show X.A.in1.handled = none from hh) it a ne its.toArray, ⟨q, p.isList⟩, fun j v e => ?_, fun j h e => e.1⟩
    · have : b = it ∨ b = a := by simpa using hb
      exact this.imp id fun e => by rw [e]; exact lt
    · have e' : its[j]? = some v := by simpa using e
      cases ex : xs[j]? with
      | none =>
        rw [List.getElem?_eq_none_iff] at ex
        rw [List.getElem?_eq_none (by rw [← rv.length]; exact ex)] at e'
        cases e'
      | some y =>
        obtain ⟨u, hu, ru⟩ := rv.get ex
        rw [hu] at e'; cases e'
        exact ⟨y, rfl, ru⟩
  | t a =>
    obtain ⟨its, rv, p, _⟩ := I.tuple r
    have ne : a ≠ it := Nat.ne_of_lt (Nat.lt_of_lt_of_le lt le)
    refine ⟨⟨it, its.toArray.size, [it, a], fun i v => its.toArray[i]? = some v, fun i h => h.IsTupleIter it a i ∧ h.IsTuple a its.toArray⟩, rfl, by rw [rv.length]; simp, fun b hb => ?_, by simp, Draws.tuple (show X.A.in1.handled = none from hh) it a ne its.toArray, ⟨q, p⟩, fun j v e => ?_, fun j h e => e.1⟩
    · have : b = it ∨ b = a := by simpa using hb
      exact this.imp id fun e => by rw [e]; exact lt
    · have e' : its[j]? = some v := by simpa using e
      cases ex : xs[j]? with
      | none =>
        rw [List.getElem?_eq_none_iff] at ex
        rw [List.getElem?_eq_none (by rw [← rv.length]; exact ex)] at e'
        cases e'
      | some y =>
        obtain ⟨u, hu, ru⟩ := rv.get ex
        rw [hu] at e'; cases e'
        exact ⟨y, rfl, ru⟩
  | s x =>
    obtain ⟨t, q⟩ := q
    have r' : xs = x.cps.toList.map fun c => V.str ⟨#[c]⟩ := r
    subst r'
    refine ⟨⟨it, x.cps.size, [it], fun i v => ∃ c u, x.cps[i]? = some c ∧ v = .str ⟨#[c]⟩ u, fun i h => h.IsStrIter it (strIterType x) x t i⟩, rfl, by simp, fun b hb => .inl (by simpa using hb), by simp, Draws.text (show X.A.in1.handled = none from hh) it x t, q, fun j v e => ?_, fun j h e => ⟨t, e⟩⟩
    obtain ⟨c, u, e1, rfl⟩ := e
    refine ⟨.str ⟨#[c]⟩, ?_, ⟨u, rfl⟩⟩
    rw [List.getElem?_map, Array.getElem?_toList, e1]
    rfl
/-- all the cells -/
inductive CellsOf (P : Program) (w : World) (A : Around) (N : Nat) (i : Nat) (h : Heap) : Nat → List ZS → List (List V) → List Cell → Prop
  | nil {k : Nat} : CellsOf P w A N i h k [] [] []
  | cons {k : Nat} {z : ZS} {zs : List ZS} {xs : List V} {xss : List (List V)} {c : Cell} {cs : List Cell} : CellOf P w A N z xs i k h c → CellsOf P w A N i h (k + 1) zs xss cs → CellsOf P w A N i h k (z :: zs) (xs :: xss) (c :: cs)
/-- the iterators at k, k + 1, .. -/
def ItsAt : List ZS → Nat → Nat → Heap → Prop
  | [], _, _, _ => True
  | z :: zs, k, i, h => z.it k i h ∧ ItsAt zs (k + 1) i h
theorem cellsOf (I : Inv X pins σ H s) (hh : X.A.handled = none) {N i : Nat} : ∀ {zs : List ZS} {xss : List (List V)} {k : Nat}, Paired (fun z xs => ZS.rd X.K H z xs) zs xss → ItsAt zs k i s.heap → (∀ z ∈ zs, z.below N) → N ≤ k → ∃ cs, CellsOf X.prog X.w X.A.in1 N i s.heap k zs xss cs
  | [], [], _, .nil, _, _, _ => ⟨[], .nil⟩
  | z :: zs, xs :: xss, k, .cons r rs, q, lt, le => by
    obtain ⟨c, hc⟩ := cellOf I hh r q.1 (lt z List.mem_cons_self) le
    obtain ⟨cs, hcs⟩ := cellsOf I hh rs q.2 (fun z hz => lt z (List.mem_cons_of_mem _ hz)) (Nat.le_succ_of_le le)
    exact ⟨c :: cs, .cons hc hcs⟩
variable {P : Program} {w : World} {A : Around} {N i : Nat} {h : Heap}
theorem CellsOf.len : ∀ {zs : List ZS} {xss : List (List V)} {k : Nat} {cs : List Cell}, CellsOf P w A N i h k zs xss cs → cs.length = zs.length
  | _, _, _, _, .nil => rfl
  | _, _, _, _, .cons _ r => congrArg (· + 1) (CellsOf.len r)
theorem CellsOf.mem : ∀ {zs : List ZS} {xss : List (List V)} {k : Nat} {cs : List Cell}, CellsOf P w A N i h k zs xss cs → ∀ c ∈ cs, ∃ z xs it, z ∈ zs ∧ xs ∈ xss ∧ k ≤ it ∧ it < k + zs.length ∧ CellOf P w A N z xs i it h c
  | _, _, _, _, .nil, c, hc => nomatch hc
  | z :: zs, xs :: xss, k, _, .cons q r, c, hc => by
    rcases List.mem_cons.mp hc with rfl | hc
    · exact ⟨z, xs, k, List.mem_cons_self, List.mem_cons_self, Nat.le_refl _, by simp, q⟩
    · obtain ⟨z', xs', it, h1, h2, h3, h4, h5⟩ := CellsOf.mem r c hc
      exact ⟨z', xs', it, List.mem_cons_of_mem _ h1, List.mem_cons_of_mem _ h2, by omega, by simp; omega, h5⟩
theorem CellsOf.memx : ∀ {zs : List ZS} {xss : List (List V)} {k : Nat} {cs : List Cell}, CellsOf P w A N i h k zs xss cs → ∀ xs ∈ xss, ∃ c ∈ cs, c.n = xs.length
  | _, _, _, _, .nil, c, hc => nomatch hc
  | z :: zs, xs :: xss, k, c :: cs, .cons q r, x, hx => by
    rcases List.mem_cons.mp hx with rfl | hx
    · exact ⟨c, List.mem_cons_self, q.nE⟩
    · obtain ⟨c', h1, h2⟩ := CellsOf.memx r x hx
      exact ⟨c', List.mem_cons_of_mem _ h1, h2⟩
/-- the iterators' addresses -/
def adrs : Nat → Nat → List Addr
  | _, 0 => []
  | k, n + 1 => k :: adrs (k + 1) n
theorem adrs_mem : ∀ {n k b : Nat}, b ∈ adrs k n ↔ k ≤ b ∧ b < k + n
  | 0, k, b => by simp [adrs]
  | n + 1, k, b => by
    simp only [adrs, List.mem_cons, adrs_mem (n := n) (k := k + 1)]
    omega
theorem CellsOf.adr : ∀ {zs : List ZS} {xss : List (List V)} {k : Nat} {cs : List Cell}, CellsOf P w A N i h k zs xss cs → (cs.map fun c => Value.ref c.it) = (adrs k zs.length).map Value.ref
  | _, _, _, _, .nil => rfl
  | _, _, _, _, .cons q r => by simp only [List.map_cons, List.length_cons, adrs, q.itE, CellsOf.adr r]
theorem CellsOf.apart : ∀ {zs : List ZS} {xss : List (List V)} {k : Nat} {cs : List Cell}, CellsOf P w A N i h k zs xss cs → N ≤ k → cs.Pairwise fun c d => c.it ∉ d.fp ∧ d.it ∉ c.fp
  | _, _, _, _, .nil, _ => .nil
  | _, _, k, _, .cons q r, le => by
    refine .cons (fun d hd => ?_) (CellsOf.apart r (Nat.le_succ_of_le le))
    obtain ⟨z', xs', it, h1, h2, h3, h4, h5⟩ := r.mem d hd
    refine ⟨fun m => ?_, fun m => ?_⟩
    · have := h5.fpE _ m
      rw [q.itE] at this
      rcases this with e | e
      · exact Nat.ne_of_lt h3 e
      · exact absurd e (Nat.not_lt.mpr le)
    · have := q.fpE _ m
      rw [h5.itE] at this
      rcases this with e | e
      · exact Nat.ne_of_gt h3 e
      · exact absurd e (Nat.not_lt.mpr (Nat.le_trans le (Nat.le_of_lt h3)))
theorem CellsOf.stat : ∀ {zs : List ZS} {xss : List (List V)} {k : Nat} {cs : List Cell}, CellsOf P w A N i h k zs xss cs → ∀ c ∈ cs, c.St i h := fun r c hc => by
  obtain ⟨_, _, _, _, _, _, _, q⟩ := r.mem c hc
  exact q.st
theorem CellsOf.back : ∀ {zs : List ZS} {xss : List (List V)} {k j : Nat} {cs : List Cell} {h' : Heap}, CellsOf P w A N i h k zs xss cs → (∀ c ∈ cs, c.St j h') → ItsAt zs k j h'
  | _, _, _, _, _, _, .nil, _ => trivial
  | _, _, k, j, _, h', .cons q r, st => ⟨q.back j h' (st _ List.mem_cons_self), CellsOf.back r fun c hc => st c (List.mem_cons_of_mem _ hc)⟩
theorem CellsOf.got : ∀ {zs : List ZS} {xss : List (List V)} {k j : Nat} {cs : List Cell} {vals : List Value}, CellsOf P w A N i h k zs xss cs → Paired (fun (c : Cell) v => c.P j v) cs vals → ∃ ys, Vals ys vals ∧ Paired (fun (xs : List V) y => xs[j]? = some y) xss ys
  | _, _, _, _, _, _, .nil, .nil => ⟨[], .nil, .nil⟩
  | _, _, _, j, _, _, .cons q r, .cons p ps => by
    obtain ⟨y, h1, h2⟩ := q.p _ _ p
    obtain ⟨ys, h3, h4⟩ := CellsOf.got r ps
    exact ⟨y :: ys, .cons h2 h3, .cons h1 h4⟩
theorem ItsAt.keep : ∀ {zs : List ZS} {k i : Nat} {h h' : Heap}, ItsAt zs k i h → (∀ b o, k ≤ b → b < k + zs.length → h.get? b = some o → h'.get? b = some o) → ItsAt zs k i h'
  | [], _, _, _, _, _, _ => trivial
  | z :: zs, k, i, h, h', q, kp => ⟨ZS.it_keep q.1 fun o e => kp k o (Nat.le_refl _) (by simp) e, ItsAt.keep q.2 fun b o h1 h2 e => kp b o (by omega) (by simp; omega) e⟩
theorem ItsAt.obj : ∀ {zs : List ZS} {k i b : Nat} {h : Heap}, ItsAt zs k i h → k ≤ b → b < k + zs.length → ∃ o, h.get? b = some o ∧ ∀ v, o.data ≠ .cell v
  | [], k, i, b, h, _, h1, h2 => by simp at h2; omega
  | z :: zs, k, i, b, h, q, h1, h2 => by
    by_cases e : b = k
    · subst e; exact ZS.it_obj q.1
    · exact ItsAt.obj q.2 (by omega) (by simp at h2; omega)
end

/-- the lists, tuples, texts as they stand at each turn -/
def ItzN (K : PySem.W.Frag) (zs : List ZS) : It :=
  ⟨fun i H => ∃ xss, Paired (fun z xs => ZS.rd K H z xs) zs xss ∧ ∀ xs ∈ xss, i < xs.length,
    fun i H v H' => ∃ T ys, v = .ref T ∧ H T = none ∧ H' = upd H T (.tup ys) ∧ ∀ xss, Paired (fun z xs => ZS.rd K H z xs) zs xss → Paired (fun (xs : List V) y => xs[i]? = some y) xss ys,
    fun i H => ∃ xss, Paired (fun z xs => ZS.rd K H z xs) zs xss ∧ (∀ xs ∈ xss, i ≤ xs.length) ∧ ∃ xs ∈ xss, xs.length = i⟩
theorem paired_inj {X : Cx} {pins : List (Addr × Obj)} {σ : L2.St} {H : Hp} {s : Shared} (I : Inv X pins σ H s) : ∀ {zs : List ZS} {a b : List (List V)}, Paired (fun z xs => ZS.rd X.K H z xs) zs a → Paired (fun z xs => ZS.rd X.K H z xs) zs b → a = b
  | [], _, _, .nil, .nil => rfl
  | z :: zs, _, _, .cons p ps, .cons q qs => by rw [ZS.inj I p q, paired_inj I ps qs]
/-- the zip's own state: iterators at N .., then the two tuples, then the record -/
def ZSt (zs : List ZS) (N : Nat) (i : Nat) (h : Heap) : Prop :=
  (∃ f0 f1, h.get? (N + zs.length + 2) = some (zipO f0 f1 (N + zs.length) (N + zs.length + 1)) ∧ OkF f0) ∧ h.get? (N + zs.length) = some (tupO ((adrs N zs.length).map Value.ref)) ∧
    (∃ ow, h.get? (N + zs.length + 1) = some (tupO ow) ∧ ow.length = zs.length) ∧ ItsAt zs N i h
theorem ZSt.keep {zs : List ZS} {N i : Nat} {h h' : Heap} (q : ZSt zs N i h) (k : ∀ b ∈ adrs N (zs.length + 3), ∀ o, h.get? b = some o → h'.get? b = some o) : ZSt zs N i h' := by
  obtain ⟨⟨f0, f1, h1, o1⟩, h2, ⟨ow, h3, o3⟩, h4⟩ := q
  have kk : ∀ b, N ≤ b → b < N + (zs.length + 3) → ∀ o, h.get? b = some o → h'.get? b = some o := fun b b1 b2 => k b (adrs_mem.mpr ⟨b1, b2⟩)
  exact ⟨⟨f0, f1, kk _ (by omega) (by omega) _ h1, o1⟩, kk _ (by omega) (by omega) _ h2, ⟨ow, kk _ (by omega) (by omega) _ h3, o3⟩, h4.keep fun b o b1 b2 e => kk b b1 (by omega) o e⟩
theorem CellsOf.sep {P : Program} {w : World} {A : Around} {N i : Nat} {h : Heap} {zs : List ZS} {xss : List (List V)} {cs : List Cell} (c : CellsOf P w A N i h N zs xss cs) : Sep (N + zs.length + 2) (N + zs.length) (N + zs.length + 1) cs where
  TIz := Nat.ne_of_lt (by omega)
  TOz := Nat.ne_of_lt (by omega)
  TITO := Nat.ne_of_lt (by omega)
  out := fun d hd => by
    obtain ⟨z', xs', it, h1, h2, h3, h4, h5⟩ := c.mem d hd
    refine ⟨by rw [h5.itE]; exact Nat.ne_of_gt h4, by rw [h5.itE]; exact h5.fpI, fun m => ?_, fun m => ?_⟩
    · rcases h5.fpE _ m with e | e
      · exact Nat.ne_of_gt (Nat.lt_trans h4 (by omega)) e
      · exact Nat.lt_irrefl _ (Nat.lt_of_lt_of_le e (by omega))
    · rcases h5.fpE _ m with e | e
      · exact Nat.ne_of_gt (Nat.lt_trans h4 (by omega)) e
      · exact Nat.lt_irrefl _ (Nat.lt_of_lt_of_le e (by omega))
  apart := c.apart (Nat.le_refl _)
theorem three {N0 m n b : Nat} (h1 : m ≤ b) (h2 : b < N0 + (n + 3)) (e : m = N0 + n := by rfl) : (b : Addr) = N0 + n + 2 ∨ (b : Addr) = N0 + n ∨ (b : Addr) = N0 + n + 1 := by
  have : b = N0 + n + 2 ∨ b = N0 + n ∨ b = N0 + n + 1 := by omega
  exact this
theorem nin {P : Program} {w : World} {A : Around} {N i : Nat} {h : Heap} {zs : List ZS} {xss : List (List V)} {cs : List Cell} (hcs : CellsOf P w A N i h N zs xss cs) {b : Addr} (hb : b ∉ adrs N (zs.length + 3)) : b ≠ N + zs.length + 2 ∧ b ≠ N + zs.length + 1 ∧ ∀ c ∈ cs, b ≠ c.it := by
  refine ⟨fun e => hb (by subst e; exact adrs_mem.mpr ⟨by omega, by omega⟩), fun e => hb (by subst e; exact adrs_mem.mpr ⟨by omega, by omega⟩), fun c hc e => ?_⟩
  obtain ⟨z', xs', it, q1, q2, q3, q4, q5⟩ := hcs.mem c hc
  rw [q5.itE] at e
  subst e
  exact hb (adrs_mem.mpr ⟨q3, Nat.lt_trans q4 (by omega)⟩)
theorem ntop {P : Program} {w : World} {A : Around} {N i : Nat} {h : Heap} {zs : List ZS} {xss : List (List V)} {cs : List Cell} (hcs : CellsOf P w A N i h N zs xss cs) {j : Nat} : ∀ c ∈ cs, (N + zs.length + j : Addr) ≠ c.it := fun c hc e => by
  obtain ⟨z', xs', it, q1, q2, q3, q4, q5⟩ := hcs.mem c hc
  rw [q5.itE] at e
  exact Nat.ne_of_lt (Nat.lt_of_lt_of_le q4 (Nat.le_add_right (N + zs.length) j)) e.symm
theorem turn_zipN {P : Program} {w : World} {K : PySem.W.Frag} {tg : Expr} {zs : List ZS} {N : Nat} (hne : zs ≠ []) (hsz : zs.length ≤ sizeLine) (lt : ∀ z ∈ zs, z.below N) :
    Turn P w K tg (ItzN K zs) (adrs N (zs.length + 3)) (N + zs.length + 2) (ZSt zs N) where
  mem := adrs_mem.mpr ⟨by omega, by omega⟩
  obj := fun i h st b hb => by
    obtain ⟨b1, b2⟩ := adrs_mem.mp hb
    obtain ⟨⟨f0, f1, h1, o1⟩, h2, ⟨ow, h3, o3⟩, h4⟩ := st
    by_cases e : b < N + zs.length
    · exact h4.obj b1 e
    · have e' : b = N + zs.length + 2 ∨ b = N + zs.length ∨ b = N + zs.length + 1 := three (Nat.le_of_not_lt e) b2
      rcases e' with rfl | rfl | rfl
      · exact ⟨_, h1, fun v q => nomatch q⟩
      · exact ⟨_, h2, fun v q => nomatch q⟩
      · exact ⟨_, h3, fun v q => nomatch q⟩
  keep := fun i h h' st k => st.keep k
  item := by
    intro X hP hw hK hc i pins s σ H E I hf st hg
    subst hP hw hK
    obtain ⟨⟨f0, f1, h1, o1⟩, h2, ⟨ow, h3, o3⟩, h4⟩ := st
    obtain ⟨xss, hr, hlt⟩ := hg
    obtain ⟨cs, hcs⟩ := cellsOf I (I.ok.hd hc) hr h4 lt (Nat.le_refl _)
    have hl := hcs.len
    have S := hcs.sep
    have inA : ∀ c ∈ cs, ∃ z xs, xs ∈ xss ∧ N ≤ c.it ∧ c.it < N + zs.length ∧ CellOf X.prog X.w X.A.in1 N z xs i c.it s.heap c := fun c hc => by
      obtain ⟨z', xs', it, q1, q2, q3, q4, q5⟩ := hcs.mem c hc
      have := q5.itE
      subst this
      exact ⟨z', xs', q2, q3, q4, q5⟩
    have hzl : N + zs.length + 2 < s.heap.objs.size := Heap.lt_size h1
    refine pyNext_item S (fun c hc => by obtain ⟨_, _, _, _, _, q⟩ := inA c hc; exact q.dr) (fun e => hne (List.length_eq_zero_iff.mp (by rw [← hl, e]; rfl))) h1 o1 (by rw [hcs.adr]; exact h2) h3 (by rw [o3, hl]) (by rw [hl]; exact hsz) hcs.stat
      (fun c hc => by obtain ⟨_, xs, q1, _, _, q⟩ := inA c hc; rw [q.nE]; exact hlt xs q1) fun vals h' tk f0' f1' ow' a1 a2 a3 a4 a5 a6 a7 a8 a9 => ?_
    refine ⟨_, rfl, letGo_zip (s := { s with heap := h', toks := tk }) a2 a3 fun h'' f0'' z'' o'' sb => ?_⟩
    replace sb : Heap.SameBut (N + zs.length + 2) h' h'' := sb
    obtain ⟨ys, rv, hp⟩ := hcs.got a1
    have hT2 : h''.get? s.heap.objs.size = some (tupO vals) := (sb.2 _ (Nat.ne_of_gt hzl)).trans a7
    have vl : ys.length ≤ sizeLine := by
      have e1 := rv.length
      have e2 := Paired.length a1
      rw [e1, ← e2, hl]; exact hsz
    have new : ObjOk X.prog X.w (upd H s.heap.objs.size (.tup ys)) h'' s.heap.objs.size (.tup ys) := ⟨vl, vals, rv, ⟨_, hT2, rfl, _, rfl⟩⟩
    have I1 : Inv X pins σ (upd H s.heap.objs.size (.tup ys)) { s with heap := h'', toks := tk } :=
      I.turnedNew (t' := tk) (ch := adrs N (zs.length + 3)) (fun c o hb q => (sb.2 c (nin hcs hb).1).trans (a9 c o (nin hcs hb).1 (nin hcs hb).2.1 (nin hcs hb).2.2 q)) hf (Nat.le_refl _) new
    refine ⟨.ref s.heap.objs.size, _, I1, rfl, ⟨_, ys, rfl, I.hok.fresh (Nat.le_refl _), rfl, fun xss' hr' => by rw [paired_inj I hr' hr]; exact hp⟩, ⟨⟨_, _, z'', o''⟩, ?_, ⟨ow', ?_, by rw [a5, hl]⟩, ?_⟩, fun c hcm => ?_⟩
    · exact (sb.2 _ (Nat.ne_of_lt (by omega))).trans (a9 _ _ (Nat.ne_of_lt (by omega)) (Nat.ne_of_lt (by omega)) (ntop hcs (j := 0)) h2)
    · exact (sb.2 _ (Nat.ne_of_lt (by omega))).trans a4
    · exact (hcs.back a6).keep fun b o b1 b2 e => (sb.2 b (Nat.ne_of_lt (by omega))).trans e
    · have hlt : c < s.heap.objs.size := Nat.lt_of_le_of_lt (Nat.le_of_lt_succ (adrs_mem.mp hcm).2) hzl
      rw [upd_ne (Nat.ne_of_lt hlt)]
      exact (hf c hcm).1
  done := by
    intro X hP hw hK hc i pins s σ H E I hf st hg
    subst hP hw hK
    obtain ⟨⟨f0, f1, h1, o1⟩, h2, ⟨ow, h3, o3⟩, h4⟩ := st
    obtain ⟨xss, hr, hle, xe, hxe, hend⟩ := hg
    obtain ⟨cs, hcs⟩ := cellsOf I (I.ok.hd hc) hr h4 lt (Nat.le_refl _)
    have hl := hcs.len
    have S := hcs.sep
    have inA : ∀ c ∈ cs, ∃ z xs, xs ∈ xss ∧ N ≤ c.it ∧ c.it < N + zs.length ∧ CellOf X.prog X.w X.A.in1 N z xs i c.it s.heap c := fun c hc => by
      obtain ⟨z', xs', it, q1, q2, q3, q4, q5⟩ := hcs.mem c hc
      have := q5.itE
      subst this
      exact ⟨z', xs', q2, q3, q4, q5⟩
    refine pyNext_end S (fun c hc => by obtain ⟨_, _, _, _, _, q⟩ := inA c hc; exact q.dr) (fun e => hne (List.length_eq_zero_iff.mp (by rw [← hl, e]; rfl))) h1 o1 (by rw [hcs.adr]; exact h2) h3 (by rw [o3, hl]) (by rw [hl]; exact hsz) hcs.stat
      (fun c hc => by obtain ⟨_, xs, q1, _, _, q⟩ := inA c hc; rw [q.nE]; exact hle xs q1) (by obtain ⟨c, q1, q2⟩ := hcs.memx xe hxe; exact ⟨c, q1, q2.trans hend⟩) fun h' tk hk => ⟨rfl, I.turnedL (t' := tk) (ch := adrs N (zs.length + 3)) (fun b o hb q => hk b o (nin hcs hb).1 (nin hcs hb).2.1 (nin hcs hb).2.2 q) hf⟩
  self := fun A i s Q E st h => by
    obtain ⟨⟨f0, f1, h1, o1⟩, _⟩ := st
    have hT : s.TypeIs (.ref (N + zs.length + 2)) "zip" := ⟨_, h1, rfl⟩
    refine wpAny_pyIter_slot hT F.slot_zip_iter (wpAny_call_entry F.slot_zip_iter hT F.entry_zip_iter ?_ (F.args_zip_iter_1 _))
    show wpAny _ _ (ret (.ref (N + zs.length + 2))) _ _ s
    exact wpAny_pure ⟨_, rfl, "zip", _, hT, F.slot_zip_next.lookup, h⟩
/-! ### zip(..) made -/
def ZV (h : Heap) : ZS → Value → Prop
  | .l a, v => v = .ref a ∧ ∃ its, h.IsList a its
  | .t a, v => v = .ref a ∧ ∃ its, h.IsTuple a its
  | .s x, v => ∃ t, v = .str x t
theorem ZV.keep {h h' : Heap} {z : ZS} {v : Value} (q : ZV h z v) (k : ∀ b o, h.get? b = some o → h'.get? b = some o) : ZV h' z v := by
  cases z with
  | l a => obtain ⟨e, its, o, ho, r⟩ := q; exact ⟨e, its, o, k _ _ ho, r⟩
  | t a => obtain ⟨e, its, o, ho, r⟩ := q; exact ⟨e, its, o, k _ _ ho, r⟩
  | s x => exact q
section
variable {prog : Program} {w : World} {A : Around} {E : Value → Shared → Prop}
theorem pyIter_z {s : Shared} {z : ZS} {v : Value} {Q : Value → Shared → Prop} (q : ZV s.heap z v)
    (hQ : ∀ h', z.it s.heap.objs.size 0 h' → h'.objs.size = s.heap.objs.size + 1 → (∀ b o, s.heap.get? b = some o → h'.get? b = some o) → Q (.ref s.heap.objs.size) { s with heap := h' }) : wpAny (model prog w) A (pyIter v) Q E s := by
  cases z with
  | l a =>
    obtain ⟨rfl, its, hl⟩ := q
    exact wpAny_pyIter_list hl (hQ _ ⟨_, Heap.get?_push_size _ rfl, rfl, rfl⟩ (Heap.size_push ..) fun b o e => Heap.get?_push_of_some _ e)
  | t a =>
    obtain ⟨rfl, its, hl⟩ := q
    exact wpAny_pyIter_tuple hl (hQ _ ⟨_, Heap.get?_push_size _ rfl, rfl, rfl⟩ (Heap.size_push ..) fun b o e => Heap.get?_push_of_some _ e)
  | s x =>
    obtain ⟨t, rfl⟩ := q
    exact wpAny_pyIter_strU (hQ _ ⟨t, _, Heap.get?_push_size _ rfl, rfl, rfl⟩ (Heap.size_push ..) fun b o e => Heap.get?_push_of_some _ e)
theorem adrs_snoc : ∀ {n k : Nat}, adrs k (n + 1) = adrs k n ++ [k + n]
  | 0, k => rfl
  | n + 1, k => by
    show k :: adrs (k + 1) (n + 1) = k :: (adrs (k + 1) n ++ [k + (n + 1)])
    rw [adrs_snoc (n := n) (k := k + 1), Nat.add_right_comm k 1 n, Nat.add_assoc k n 1]
theorem ItsAt.snoc : ∀ {zs : List ZS} {z : ZS} {k i : Nat} {h : Heap}, ItsAt zs k i h → z.it (k + zs.length) i h → ItsAt (zs ++ [z]) k i h
  | [], z, k, i, h, _, q => ⟨q, trivial⟩
  | y :: zs, z, k, i, h, p, q => ⟨p.1, ItsAt.snoc p.2 (by rw [show k + 1 + zs.length = k + (y :: zs).length by simp; omega]; exact q)⟩
theorem iterAll_z {s : Shared} {zs : List ZS} {us : List Value} {Q : List Value → Shared → Prop} (p : Paired (ZV s.heap) zs us)
    (hQ : ∀ h', ItsAt zs s.heap.objs.size 0 h' → h'.objs.size = s.heap.objs.size + zs.length → (∀ b o, s.heap.get? b = some o → h'.get? b = some o) → Q ((adrs s.heap.objs.size zs.length).map Value.ref) { s with heap := h' }) :
    wpAny (model prog w) A (Builtin.SmallTypes.iterAll us) Q E s := by
  unfold Builtin.SmallTypes.iterAll
  refine wpAny_bind (wpAny_forIn_list _ (fun rest c s' => ∃ dn rs h, zs = dn ++ rs ∧ Paired (ZV s.heap) rs rest ∧ c = ((adrs s.heap.objs.size dn.length).map Value.ref).toArray ∧ s' = { s with heap := h } ∧ ItsAt dn s.heap.objs.size 0 h ∧ h.objs.size = s.heap.objs.size + dn.length ∧
      ∀ b o, s.heap.get? b = some o → h.get? b = some o) _ ?_ ?_ _ _ ⟨[], zs, s.heap, rfl, p, rfl, rfl, trivial, rfl, fun _ _ e => e⟩)
  · rintro x rest c s' ⟨dn, rs, h, ez, pr, rfl, rfl, it, sz, k⟩
    cases pr with
    | cons q pr =>
      rename_i z rs
      refine wpAny_bind (wpAny_holding (pyIter_z (s := { s with heap := h }) (q.keep k) fun h' q1 q2 q3 => wpAny_pure ?_))
      replace q1 : z.it h.objs.size 0 h' := q1
      replace q2 : h'.objs.size = h.objs.size + 1 := q2
      replace q3 : ∀ b o, h.get? b = some o → h'.get? b = some o := q3
      rw [sz] at q1
      refine ⟨dn ++ [z], rs, h', by rw [ez]; simp, pr, ?_, rfl, (it.keep fun b o _ _ e => q3 b o e).snoc q1, by rw [q2, sz]; simp; omega, fun b o e => q3 b o (k b o e)⟩
      show ((adrs s.heap.objs.size dn.length).map Value.ref).toArray.push (.ref h.objs.size) = _
      rw [sz, List.length_append, List.length_singleton, adrs_snoc]
      simp
  · rintro c s' ⟨dn, rs, h, ez, pr, rfl, rfl, it, sz, k⟩
    cases pr
    rw [List.append_nil] at ez
    subst ez
    refine wpAny_pure ?_
    rw [List.toList_toArray]
    exact hQ h it sz k
end
theorem meets_new {us : List Value} (hl : us.length ≤ 7) : Meets (Builtin.«zip.__new__» ⟨.type "zip" :: us, []⟩) (fun _ R s => ∃ zs, Paired (ZV s.heap) zs us ∧
    ∀ h', ZSt zs s.heap.objs.size 0 h' → (∀ b o, s.heap.get? b = some o → h'.get? b = some o) → R (.ok (.ret (.ref (s.heap.objs.size + zs.length + 2)))) { s with heap := h' }) :=
  .of_wp fun prog w A R s h => by
    obtain ⟨zs, p, h⟩ := h
    obtain ⟨hp, g, d, tk, os⟩ := s
    have hsub := sub_zip
    have ll := Paired.length p
    have al : ∀ {k n : Nat}, (adrs k n).length = n := fun {k n} => by
      induction n generalizing k with
      | zero => rfl
      | succ n ih => exact congrArg (· + 1) ih
    have sl : 7 ≤ sizeLine := by rw [sizeLine_eq]; decide
    have key : ∀ {Q : List Value → Shared → Prop} {E : Value → Shared → Prop}, (∀ h', ItsAt zs hp.objs.size 0 h' → h'.objs.size = hp.objs.size + zs.length → (∀ b o, hp.get? b = some o → h'.get? b = some o) → Q ((adrs hp.objs.size zs.length).map Value.ref) ⟨h', g, d, tk, os⟩) →
      wpAny (model prog w) A.in1 (Builtin.SmallTypes.iterAll us) Q E ⟨hp, g, d, tk, os⟩ := fun h => iterAll_z (s := ⟨hp, g, d, tk, os⟩) p h
    wp_walk using key
    intro h1 it sz k
    have lz : zs.length ≤ sizeLine := by rw [ll]; exact Nat.le_trans hl sl
    refine wpAny_bind (wpAny_newTuple ?_ (by rw [List.length_map, al]; exact lz))
    refine wpAny_bind (wpAny_newTuple ?_ (by rw [List.length_map, List.length_map, al]; exact lz))
    refine wpAny_bind ?_
    unfold Builtin.SmallTypes.newRecord
    refine wpAny_newObj_type ?_ (Nat.le_trans (show 5 ≤ 7 by decide) (Nat.le_trans sl (Nat.le_add_right _ 2)) : (5 : Nat) ≤ sizeLine + 2)
    refine wpAny_pure ⟨_, rfl, ?_⟩
    generalize hM : List.map Value.ref (adrs hp.objs.size zs.length) = M
    have ML : M.length = zs.length := by rw [← hM, List.length_map, al]
    have z1 : (h1.push (tupO M)).objs.size = hp.objs.size + zs.length + 1 := by rw [Heap.size_push, sz]
    have z2 : ((h1.push (tupO M)).push (tupO (M.map fun _ => Value.none))).objs.size = hp.objs.size + zs.length + 2 := by rw [Heap.size_push, z1]
    have e0 := sz
    have g0 : (h1.push (tupO M)).get? h1.objs.size = some (tupO M) := Heap.get?_push_size _ rfl
    have g1 : ((h1.push (tupO M)).push (tupO (M.map fun _ => Value.none))).get? (h1.push (tupO M)).objs.size = some (tupO (M.map fun _ => Value.none)) := Heap.get?_push_size _ rfl
    have g2 : (((h1.push (tupO M)).push (tupO (M.map fun _ => Value.none))).push (zipO .none (.bool false) h1.objs.size (h1.push (tupO M)).objs.size)).get? ((h1.push (tupO M)).push (tupO (M.map fun _ => Value.none))).objs.size = some (zipO .none (.bool false) h1.objs.size (h1.push (tupO M)).objs.size) := Heap.get?_push_size _ rfl
    have kk : ∀ b o, h1.get? b = some o → (((h1.push (tupO M)).push (tupO (M.map fun _ => Value.none))).push (zipO .none (.bool false) h1.objs.size (h1.push (tupO M)).objs.size)).get? b = some o := fun b o e => Heap.get?_push_of_some _ (Heap.get?_push_of_some _ (Heap.get?_push_of_some _ e))
    have f0 : (((h1.push (tupO M)).push (tupO (M.map fun _ => Value.none))).push (zipO .none (.bool false) h1.objs.size (h1.push (tupO M)).objs.size)).get? h1.objs.size = some (tupO M) := Heap.get?_push_of_some _ (Heap.get?_push_of_some _ g0)
    have f1 : (((h1.push (tupO M)).push (tupO (M.map fun _ => Value.none))).push (zipO .none (.bool false) h1.objs.size (h1.push (tupO M)).objs.size)).get? (h1.push (tupO M)).objs.size = some (tupO (M.map fun _ => Value.none)) := Heap.get?_push_of_some _ g1
    show R (.ok (.ret (.ref ((h1.push (tupO M)).push (tupO (M.map fun _ => Value.none))).objs.size))) ⟨((h1.push (tupO M)).push (tupO (M.map fun _ => Value.none))).push (zipO .none (.bool false) h1.objs.size (h1.push (tupO M)).objs.size), g, d, tk, os⟩
    generalize hB : ((h1.push (tupO M)).push (tupO (M.map fun _ => Value.none))).push (zipO .none (.bool false) h1.objs.size (h1.push (tupO M)).objs.size) = B at g2 kk f0 f1 ⊢
    rw [z1] at g2 f1
    rw [z2] at g2 ⊢
    rw [e0] at g2 f0
    refine h B ⟨⟨_, _, g2, .inl rfl⟩, ?_, ⟨_, f1, by rw [List.length_map, ML]⟩, it.keep fun b o _ _ e => kk b o e⟩ fun b o e => kk b o (k b o e)
    rw [← hM] at f0
    exact f0
theorem tc : ∀ {us : List Value}, us.length ≤ 7 → checkTypeCall "zip" ⟨us, []⟩ = pure ()
  | [], _ => by kernel_rfl
  | [a], _ => by kernel_rfl
  | [a, b], _ => by kernel_rfl
  | [a, b, c], _ => by kernel_rfl
  | [a, b, c, d], _ => by kernel_rfl
  | [a, b, c, d, e], _ => by kernel_rfl
  | [a, b, c, d, e, f], _ => by kernel_rfl
  | [a, b, c, d, e, f, g], _ => by kernel_rfl
  | a :: b :: c :: d :: e :: f :: g :: h :: r, hl => by simp at hl
theorem nc : ∀ {us : List Value}, us.length ≤ 7 → checkBuiltinCall "zip.__new__" ⟨.type "zip" :: us, []⟩ = pure ()
  | [], _ => by kernel_rfl
  | [a], _ => by kernel_rfl
  | [a, b], _ => by kernel_rfl
  | [a, b, c], _ => by kernel_rfl
  | [a, b, c, d], _ => by kernel_rfl
  | [a, b, c, d, e], _ => by kernel_rfl
  | [a, b, c, d, e, f], _ => by kernel_rfl
  | [a, b, c, d, e, f, g], _ => by kernel_rfl
  | a :: b :: c :: d :: e :: f :: g :: h :: r, hl => by simp at hl
theorem oi : ∀ {us : List Value}, us.length ≤ 7 → ∀ obj, argsOk "object.__init__" ⟨obj :: us, []⟩ := by
  intro us hl obj
  unfold argsOk
  rw [signature?_of (id := "object.__init__") (n := ['_', '_', 't', 'i', 'n', 'i', '_', '_']) (o := ['t', 'c', 'e', 'j', 'b', 'o']) (by kernel_rfl) F.owner_object]
  rcases us with _ | ⟨a, _ | ⟨b, _ | ⟨c, _ | ⟨d, _ | ⟨e, _ | ⟨f, _ | ⟨g, _ | ⟨h, r⟩⟩⟩⟩⟩⟩⟩⟩ <;> first
    | kernel_rfl
    | (simp at hl; omega)
section
variable {prog : Program} {w : World} {A : Around} {E : Value → Shared → Prop} {s : Shared}
theorem call_zipN {zs : List ZS} {us : List Value} {Q : Value → Shared → Prop} (p : Paired (ZV s.heap) zs us) (hl : zs.length ≤ 7)
    (h : ∀ h', ZSt zs s.heap.objs.size 0 h' → (∀ b o, s.heap.get? b = some o → h'.get? b = some o) → Q (.ref (s.heap.objs.size + zs.length + 2)) { s with heap := h' }) :
    wpAny (model prog w) A (call (.type "zip") us) Q E s := by
  have hl' : us.length ≤ 7 := by rw [← Paired.length p]; exact hl
  refine callType_new F.called_zip (by decide) (tc hl') (nc hl') (oi hl') F.entry_zip_new (meets_new hl') ⟨zs, p, fun h' st k => ?_⟩
  obtain ⟨⟨f0, f1, h1, _⟩, _⟩ := id st
  exact ⟨⟨_, h1, rfl⟩, h h' st k⟩
/-- the call's node where the callee is a type and an argument is starred -/
theorem callT_star {M : Model} {A : Around} {E : Value → Shared → Prop} {s : Shared} {pos : Pos} {T : String} {args : List (Bool × Sem Value)} {Q : Value → Shared → Prop} (hst : args.any (·.1) = true)
    (h : wpAny M A (evalArgs (.type T) true args []) (fun a s₁ => wpAny M A (call (.type T) ([] ++ a.pos) a.kw) Q E s₁) E s) : wpAny M A (callWith pos (.type T) [] args []) Q E s := by
  unfold callWith
  refine wpAny_bind (wpAny_holding (wpAny_mono h (fun a s₁ h₁ => wpAny_bind (wpAny_standAt ?_)) fun _ _ x => x))
  simp only [hst, Bool.true_or]
  refine wpAny_bind (wpAny_pure ?_)
  exact wpAny_bind (wpAny_mono (wpAny_operating h₁) (fun r s₂ hr => wpAny_bind (wpAny_holding (wpAny_point (wpAny_pure hr)))) fun _ _ x => x)
end
/-- what the arguments are -/
inductive Srcs (K : PySem.W.Frag) (H : Hp) : List V → List ZS → Prop
  | nil : Srcs K H [] []
  | l {a : Addr} {xs : List V} {vs : List V} {zs : List ZS} : SqL K H a xs → Srcs K H vs zs → Srcs K H (.ref a :: vs) (.l a :: zs)
  | t {a : Addr} {xs : List V} {vs : List V} {zs : List ZS} : SqT K H a xs → Srcs K H vs zs → Srcs K H (.ref a :: vs) (.t a :: zs)
  | s {x : Str} {vs : List V} {zs : List ZS} : Srcs K H vs zs → Srcs K H (.str x :: vs) (.s x :: zs)
theorem Srcs.zv {X : Cx} {pins : List (Addr × Obj)} {σ : L2.St} {H : Hp} {s : Shared} (I : Inv X pins σ H s) : ∀ {vs : List V} {zs : List ZS} {us : List Value}, Srcs X.K H vs zs → Vals vs us → Paired (ZV s.heap) zs us ∧ ∀ z ∈ zs, z.below s.heap.objs.size
  | _, _, _, .nil, .nil => ⟨.nil, fun _ h => nomatch h⟩
  | _, _, _, .l hx r, .cons rv rs => by
    obtain ⟨h1, h2⟩ := Srcs.zv I r rs
    cases rv
    obtain ⟨its, _, p, _⟩ := I.list hx
    exact ⟨.cons ⟨rfl, _, p.isList⟩ h1, fun z hz => by
      rcases List.mem_cons.mp hz with rfl | hz
      · exact p.lt
      · exact h2 z hz⟩
  | _, _, _, .t hx r, .cons rv rs => by
    obtain ⟨h1, h2⟩ := Srcs.zv I r rs
    cases rv
    obtain ⟨its, _, p, _⟩ := I.tuple hx
    exact ⟨.cons ⟨rfl, _, p⟩ h1, fun z hz => by
      rcases List.mem_cons.mp hz with rfl | hz
      · obtain ⟨o, e, _⟩ := p; exact Heap.lt_size e
      · exact h2 z hz⟩
  | _, _, _, .s r, .cons rv rs => by
    obtain ⟨h1, h2⟩ := Srcs.zv I r rs
    obtain ⟨t, rfl⟩ := rv
    exact ⟨.cons ⟨t, rfl⟩ h1, fun z hz => by
      rcases List.mem_cons.mp hz with rfl | hz
      · trivial
      · exact h2 z hz⟩
theorem Srcs.len {K : PySem.W.Frag} {H : Hp} : ∀ {vs : List V} {zs : List ZS}, Srcs K H vs zs → vs.length = zs.length
  | _, _, .nil => rfl
  | _, _, .l _ r => congrArg (· + 1) (Srcs.len r)
  | _, _, .t _ r => congrArg (· + 1) (Srcs.len r)
  | _, _, .s r => congrArg (· + 1) (Srcs.len r)
section
variable {X : Cx} {pins : List (Addr × Obj)} {σ : L2.St} {H : Hp} {s : Shared}
theorem zip_it {tg : Expr} {vs : List V} {us : List Value} {zs : List ZS} {R : It → Hp → Prop} {E : Value → Shared → Prop} (I : Inv X pins σ H s) (hS : Srcs X.K H vs zs) (r : Vals vs us) (hne : zs ≠ []) (hl : zs.length ≤ 7) (q : R (ItzN X.K zs) H) :
    wpAny (model X.prog X.w) X.A (call (.type "zip") us) (fun v s1 => wpAny (model X.prog X.w) X.A (pyIter v) (PIE X pins σ tg R) E s1) E s := by
  obtain ⟨p, lt⟩ := hS.zv I r
  have sz : zs.length ≤ sizeLine := Nat.le_trans hl (by rw [sizeLine_eq]; decide)
  have T : Turn X.prog X.w X.K tg (ItzN X.K zs) (adrs s.heap.objs.size (zs.length + 3)) (s.heap.objs.size + zs.length + 2) (ZSt zs s.heap.objs.size) := turn_zipN hne sz lt
  refine call_zipN p hl fun h' st k => T.self _ 0 _ _ _ st ?_
  exact ⟨_, _, _, _, H, rfl, I.kept (t' := s.toks) k, T, st, fun b hb => I.fpOk (adrs_mem.mp hb).1 (I.hok.fresh (adrs_mem.mp hb).1), q⟩
def iZipN (K : PySem.W.Frag) (ta : TA) : TI := fun σ H R => ta σ H fun vs H1 => ∃ zs, Srcs K H1 vs zs ∧ zs ≠ [] ∧ zs.length ≤ 7 ∧ R (ItzN K zs) H1
theorem pi_zipN {tg : Expr} {e : Expr} {es : List Expr} {ta : TA} {p pos : Pos} (hg : Gl X "zip") (hm : X.mg "zip" = none) (ha : M3.PA X (e :: es) ta)
    (hs : starEach (e :: es) X.env = (false, eval e X.env) :: starEach es X.env := by rfl) (hpl : (backTo pos (starEach es X.env)).any (·.1) = false := by rfl) :
    M3.PI X tg (.Call (.Name "zip" p) (e :: es) [] pos) (iZipN X.K ta) := by
  refine ⟨fun pins s σ H R n I h => ?_⟩
  refine Call_ (ld_blt I hg hm PyProof.Rows.boot_zip (PyProof.Rows.callWith_type1 (ha.go n I h fun us s1 vs H1 n1 I1 r1 ⟨zs, h1, h2, h3, q⟩ => ?_) hs hpl))
  exact zip_it I1 h1 r1 h2 h3 q
/-- zip(*e) -/
def iZipS (K : PySem.W.Frag) (te : TE) : TI := fun σ H R => te σ H fun x H1 => ∃ a vs zs, x = .ref a ∧ (SqT K H1 a vs ∨ SqL K H1 a vs) ∧ Srcs K H1 vs zs ∧ zs ≠ [] ∧ zs.length ≤ 7 ∧ R (ItzN K zs) H1
theorem pi_zipS {tg : Expr} {e : Expr} {te : TE} {p sp pos : Pos} (hg : Gl X "zip") (hm : X.mg "zip" = none) (he : M3.PE X e te) (hst : starEach [.Starred e sp] X.env = [(true, eval e X.env)] := by rfl) :
    M3.PI X tg (.Call (.Name "zip" p) [.Starred e sp] [] pos) (iZipS X.K te) := by
  refine ⟨fun pins s σ H R n I h => ?_⟩
  refine Call_ (ld_blt I hg hm PyProof.Rows.boot_zip ?_)
  rw [hst]
  refine callT_star rfl (PySem.W.ks_lone (he.go n I h fun v s1 y H1 n1 I1 ry ⟨a, vs, zs, ey, hx, h1, h2, h3, q⟩ => ?_))
  subst ey
  obtain rfl : v = Value.ref a := ry
  exact StX.star_any I1 hx fun us s2 I2 rv => zip_it I2 h1 rv h2 h3 q
end
end ZN
/-! M3, part e: truth, tests, and/or/not, chains, if-expressions, slices. -/
namespace M3
open PySem PySem.Spec PyProof.Rows L2

/-! ### truth -/
@[simp] def T.tru : T → Bool
  | .non => false
  | .bl b => b
  | .int i => i != 0
  | .str cs => !cs.isEmpty
  | .tup ts => !ts.isEmpty
  | .lst ts => !ts.isEmpty
  | .frz ts => !ts.isEmpty
  | .dct _ ks _ => !ks.isEmpty
theorem IsL.emp {K : PySem.W.Frag} {W : Addr → Prop} {H : Hp} {xs : List V} {ts : List T} (l : IsL K W H xs ts) : xs.isEmpty = ts.isEmpty := by cases l <;> rfl
theorem str_tru {cs : List Nat} : ((({ cps := cs.toArray } : Str).length : Int) != 0) = !cs.isEmpty := by
  rw [len_S]
  cases cs with
  | nil => rfl
  | cons c r => simp; omega
theorem IsB.tru {K : PySem.W.Frag} {W : Addr → Prop} {H : Hp} {v : V} {t : T} (h : IsB K W H v t) : TruX K v H t.tru := by
  rcases h with h | ⟨a, rfl, h⟩
  · cases h with
    | non => exact .inl rfl
    | bl b => exact .inl rfl
    | int i => exact .inl rfl
    | str cs hk => exact .inl ⟨by rw [len_S]; exact okS_len hk, str_tru.symm⟩
    | tup q l => exact .inl (.inr (.inl ⟨_, q, by rw [l.emp]; rfl⟩))
    | lst _ q l => exact .inl (.inl ⟨_, .of q, by rw [l.emp]; rfl⟩)
    | frz q l => exact .inl (.inl ⟨_, q.seq, by rw [l.emp]; rfl⟩)
    | dct _ q d l => cases d with
      | of d => cases d with
        | k kvs _ => exact .inr (.inl ⟨_, _, rfl, .inl q, by simp [T.tru]⟩)
        | t kvs _ => exact .inr (.inr ⟨_, _, rfl, .inl q, by simp [T.tru]⟩)
      | z d => cases d with
        | k kvs _ => exact .inr (.inl ⟨_, _, rfl, .inr ⟨_, q⟩, by simp [T.tru]⟩)
        | t kvs _ => exact .inr (.inr ⟨_, _, rfl, .inr ⟨_, q⟩, by simp [T.tru]⟩)
  · cases t with
    | lst ts => obtain ⟨xs, q, l⟩ := h; exact .inl (.inl ⟨_, .of q, by rw [l.emp]; rfl⟩)
    | dct b ks vs =>
      obtain ⟨o, ws, q, d, l⟩ := h
      cases d with
      | k kvs _ => exact .inr (.inl ⟨_, _, rfl, .inl q, by simp [T.tru]⟩)
      | t kvs _ => exact .inr (.inr ⟨_, _, rfl, .inl q, by simp [T.tru]⟩)
    | _ => exact h.elim

section
variable {D : Dat} {e a b c : Expr} {m ma mb mc : XM} {tm ta' tb' : TM} {pos : Pos}
@[simp] def tTru (m : XM) : TM := fun env => (m env).bind fun (t, env1) => .ok (t.tru, env1)
/-- how a plain expression is tested: its value's truth -/
def Plain (e : Expr) : Prop := ∀ env whole, isTrue e env whole = (do let v ← whole; standAt e.pos; holding [v] (truthy v))
theorem mt_tru (h : MB D e m) (he : Plain e := by exact fun _ _ => rfl) : MT D e (tTru m) := by
  obtain ⟨te, hp, hk⟩ := h
  refine ⟨fun σ H Q => te σ H fun x H' => ∃ k, TruX D.K x H' k ∧ Q k H', fun v g => pt_truth (hp v g) (he _), fun G W M σ H env re Q q => ?_⟩
  refine pstB_bind (P := PstT D G W M σ H Q) hk re (fun c t h => h) (fun h => h) q fun t e1 x H1 ev1 re1 i1 q1 => ?_
  exact ⟨_, i1.tru, q1 H1 ev1 re1⟩
/-- a comparison's value as a bool -/
@[simp] def tBl (m : XM) : TM := fun env => (m env).bind fun (t, env1) => match t with
  | .bl b => .ok (b, env1)
  | _ => .no
theorem tbl_ok {te : TE} (h : TEok D m te) : TTok D (tBl m) (tTest te) := by
  intro G W M σ H env re Q q
  refine pst_bind (P := PstT D G W M σ H Q) h re (fun c t h => h) (fun h => h) q fun t e1 x H1 ev1 re1 i1 q1 => ?_
  dsimp only at q1
  split at q1
  · cases i1; exact ⟨_, rfl, q1 H1 ev1 re1⟩
  · exact (q1 : False).elim
theorem mt_cmp {op : CmpOp} {r : R2} {f : T → T → R T} (ho : ∀ v, OpR (D.cx v) (compareOp op) r) (hf : OpOK D.K r f) (ht : Tame f) (ha : ME D a ma) (hb : MB D b mb) (hm : behindInMarks op b = false) : MT D (.Compare a [op] [b] pos) (tBl (x2 f ma mb)) := by
  obtain ⟨ta, pa, ka⟩ := ha
  obtain ⟨tb, pb, kb⟩ := hb
  exact ⟨_, fun v g => pt_cmpR (ho v) (pa v g) (pb v g) hm, tbl_ok (top_ok hf ht ka kb)⟩
theorem mt_cmpo {op : CmpOp} {r : R2} {f : T → T → R T} {x : Str} {p : Pos} (i : Nat) (ho : ∀ v, OpR (D.cx v) (compareOp op) r) (hf : OpOK D.K r f) (ht : Tame f) (hN : D.N[i]? = some x) (hv : Vis D.sc x) (hb : MB D b mb) (hm : behindInMarks op b = false)
    (hd : (x == ("__debug__" : Str)) = false := by decide) (hcd : (x == ("__classdict__" : Str)) = false := by decide) : MT D (.Compare (.Name x p) [op] [b] pos) (tBl (x2o f i mb)) := by
  obtain ⟨tb, pb, kb⟩ := hb
  exact ⟨_, fun v g => pt_cmpR (ho v) (pe_var (X := D.cx v) hN hv hd hcd) (pb v g) hm, tbl_ok (topo_ok hf ht kb)⟩
/-- a op b op' c -/
@[simp] def xChain (f f' : T → T → R T) (ma mb mc : XM) : XM := fun env => (ma env).bind fun (a, e1) => (mb e1).bind fun (b, e2) => (f a b).bind fun t => match t with
  | .bl true => (mc e2).bind fun (c, e3) => (f' b c).bind fun u => .ok (u, e3)
  | .bl false => .ok (.bl false, e2)
  | _ => .no
theorem chain_ok {te ta tb tc : TE} {r r' : R2} {f f' : T → T → R T} (hf : OpOK D.K r f) (hf' : OpOK D.K r' f') (ht : Tame f) (ht' : Tame f') (ha : TEok D ma ta) (hb : TEok D mb tb) (hc : TBok D mc tc) : TEok D (xChain f f' ma mb mc) (tChain r r' ta tb tc) := by
  intro G W M σ H env re Q q
  refine pst_bind (P := Pst D G W M σ H Q) ha re (fun c t h => h) (fun h => h) q fun a e1 x H1 ev1 re1 i1 q1 => ?_
  refine pst_bind (P := Pst D G W M σ H Q) hb re1 (fun c t h => ExW.ev ev1 h) (fun h => h) q1 fun b e2 y H2 ev2 re2 i2 q2 => ?_
  simp only at q2
  cases e : f a b with
  | ex c t => exact (ht a b c t e).elim
  | no => rw [e] at q2; exact (q2 : False).elim
  | ok t =>
    rw [e] at q2
    refine hf W H2 x y a b t _ re2.muts (.inl (i1.ev ev2 re1)) (.inl i2) e fun v H3 s i => ?_
    have ev3 : Ev M H H3 := (ev1.trans ev2).trans (.same s)
    have re3 := re2.same s
    dsimp only [R.bind] at q2
    split at q2
    · cases i
      refine ⟨true, rfl, ?_⟩
      rw [if_pos rfl]
      refine pstB_bind (P := Pst D G W M σ H Q) hc re3 (fun c t h => ExW.ev ev3 h) (fun h => h) q2 fun c e3 z H4 ev4 re4 i4 q4 => ?_
      simp only at q4
      cases e' : f' b c with
      | ex c2 t2 => exact (ht' b c c2 t2 e').elim
      | no => rw [e'] at q4; exact (q4 : False).elim
      | ok u =>
        rw [e'] at q4
        exact hf' W H4 y z b c u Q re4.muts (.inl ((i2.same s re2.muts).ev ev4 re3)) i4 e' fun v H5 s5 i5 => q4 v H5 ((ev3.trans ev4).trans (.same s5)) (re4.same s5) i5
    · cases i
      refine ⟨false, rfl, ?_⟩
      rw [if_neg Bool.false_ne_true]
      exact q2 _ H3 ev3 re3 (.bl false)
    · exact (q2 : False).elim
theorem me_chain {op op' : CmpOp} {r r' : R2} {f f' : T → T → R T} (ho : ∀ v, OpR (D.cx v) (compareOp op) r) (hf : OpOK D.K r f) (ht : Tame f) (ho' : ∀ v, OpR (D.cx v) (compareOp op') r') (hf' : OpOK D.K r' f') (ht' : Tame f') (ha : ME D a ma) (hb : ME D b mb) (hc : MB D c mc)
    (hm : lastMarks [op, op'] [b, c] = false := by with_unfolding_all rfl) : ME D (.Compare a [op, op'] [b, c] pos) (xChain f f' ma mb mc) := by
  obtain ⟨ta, pa, ka⟩ := ha
  obtain ⟨tb, pb, kb⟩ := hb
  obtain ⟨tc, pc, kc⟩ := hc
  exact ⟨_, fun v g => pe_chain (ho v) (ho' v) (pa v g) (pb v g) (pc v g) hm, chain_ok (te := ta) hf hf' ht ht' ka kb kc⟩
theorem mt_chain {op op' : CmpOp} {r r' : R2} {f f' : T → T → R T} (ho : ∀ v, OpR (D.cx v) (compareOp op) r) (hf : OpOK D.K r f) (ht : Tame f) (ho' : ∀ v, OpR (D.cx v) (compareOp op') r') (hf' : OpOK D.K r' f') (ht' : Tame f') (ha : ME D a ma) (hb : ME D b mb) (hc : MB D c mc)
    (hm : lastMarks [op, op'] [b, c] = false := by with_unfolding_all rfl) : MT D (.Compare a [op, op'] [b, c] pos) (tBl (xChain f f' ma mb mc)) := by
  obtain ⟨ta, pa, ka⟩ := ha
  obtain ⟨tb, pb, kb⟩ := hb
  obtain ⟨tc, pc, kc⟩ := hc
  exact ⟨_, fun v g => pt_chain (ho v) (ho' v) (pa v g) (pb v g) (pc v g) hm, tbl_ok (chain_ok (te := ta) hf hf' ht ht' ka kb kc)⟩

/-! ### not, and, or -/
@[simp] def tNotM (m : TM) : TM := fun env => (m env).bind fun (b, e1) => .ok (!b, e1)
@[simp] def tAndM (m r : TM) : TM := fun env => (m env).bind fun (b, e1) => if b then r e1 else .ok (false, e1)
@[simp] def tOrM (m r : TM) : TM := fun env => (m env).bind fun (b, e1) => if b then .ok (true, e1) else r e1
theorem mt_w (h : MW D e tm) : MT D e tm := by
  obtain ⟨t, p, k⟩ := h
  exact ⟨t, fun v g => (p v g).pt, k⟩
theorem mt_not (h : MT D a tm) : MT D (.UnaryOp .Not a pos) (tNotM tm) := by
  obtain ⟨t, p, k⟩ := h
  refine ⟨_, fun v g => pt_not (p v g), fun G W M σ H env re Q q => ?_⟩
  exact pstT_bind (P := PstT D G W M σ H Q) k re (fun c t h => h) (fun h => h) q fun b e1 H1 ev1 re1 q1 => q1 H1 ev1 re1
theorem mw_and1 (h : MT D a tm) : MW D (.BoolOp .And [a] pos) tm := by
  obtain ⟨t, p, k⟩ := h
  exact ⟨t, fun v g => pw_and1 (p v g), k⟩
theorem mw_or1 (h : MT D a tm) : MW D (.BoolOp .Or [a] pos) tm := by
  obtain ⟨t, p, k⟩ := h
  exact ⟨t, fun v g => pw_or1 (p v g), k⟩
theorem mw_and {rest : List Expr} (h : MT D a ta') (hr : MW D (.BoolOp .And (b :: rest) pos) tb') : MW D (.BoolOp .And (a :: b :: rest) pos) (tAndM ta' tb') := by
  obtain ⟨t, p, k⟩ := h
  obtain ⟨t2, p2, k2⟩ := hr
  refine ⟨_, fun v g => pw_and (p v g) (p2 v g), fun G W M σ H env re Q q => ?_⟩
  refine pstT_bind (P := PstT D G W M σ H Q) k re (fun c t h => h) (fun h => h) q fun b e1 H1 ev1 re1 q1 => ?_
  cases b with
  | false => simp only [Bool.false_eq_true, if_false] at q1 ⊢; exact q1 H1 ev1 re1
  | true =>
    simp only [if_true] at q1 ⊢
    refine k2 G W M σ H1 e1 re1 Q ?_
    cases z : tb' e1 with
    | ok w => obtain ⟨b2, e2⟩ := w; rw [z] at q1; exact fun H2 ev2 re2 => q1 H2 (ev1.trans ev2) re2
    | ex c t => rw [z] at q1; exact ExW.ev ev1 q1
    | no => rw [z] at q1; exact q1
theorem mw_or {rest : List Expr} (h : MT D a ta') (hr : MW D (.BoolOp .Or (b :: rest) pos) tb') : MW D (.BoolOp .Or (a :: b :: rest) pos) (tOrM ta' tb') := by
  obtain ⟨t, p, k⟩ := h
  obtain ⟨t2, p2, k2⟩ := hr
  refine ⟨_, fun v g => pw_or (p v g) (p2 v g), fun G W M σ H env re Q q => ?_⟩
  refine pstT_bind (P := PstT D G W M σ H Q) k re (fun c t h => h) (fun h => h) q fun b e1 H1 ev1 re1 q1 => ?_
  cases b with
  | true => simp only [if_true] at q1 ⊢; exact q1 H1 ev1 re1
  | false =>
    simp only [Bool.false_eq_true, if_false] at q1 ⊢
    refine k2 G W M σ H1 e1 re1 Q ?_
    cases z : tb' e1 with
    | ok w => obtain ⟨b2, e2⟩ := w; rw [z] at q1; exact fun H2 ev2 re2 => q1 H2 (ev1.trans ev2) re2
    | ex c t => rw [z] at q1; exact ExW.ev ev1 q1
    | no => rw [z] at q1; exact q1
/-- on from a later heap -/
theorem Pst.ev {G : Gh} {W M : Addr → Prop} {σ : L2.St} {H H1 : Hp} {Q : VK} (ev : Ev M H H1) {r : R (T × EnvM)} (q : Pst D G W M σ H Q r) : Pst D G W M σ H1 Q r := by
  cases r with
  | ok w => obtain ⟨t, e2⟩ := w; exact fun v H2 ev2 re2 i => q v H2 (ev.trans ev2) re2 i
  | ex c t => exact ExW.ev ev q
  | no => exact q
theorem PstB.ev {G : Gh} {W M : Addr → Prop} {σ : L2.St} {H H1 : Hp} {Q : VK} (ev : Ev M H H1) {r : R (T × EnvM)} (q : PstB D G W M σ H Q r) : PstB D G W M σ H1 Q r := by
  cases r with
  | ok w => obtain ⟨t, e2⟩ := w; exact fun v H2 ev2 re2 i => q v H2 (ev.trans ev2) re2 i
  | ex c t => exact ExW.ev ev q
  | no => exact q
theorem PstT.ev {G : Gh} {W M : Addr → Prop} {σ : L2.St} {H H1 : Hp} {Q : Bool → Hp → Prop} (ev : Ev M H H1) {r : R (Bool × EnvM)} (q : PstT D G W M σ H Q r) : PstT D G W M σ H1 Q r := by
  cases r with
  | ok w => obtain ⟨t, e2⟩ := w; exact fun H2 ev2 re2 => q H2 (ev.trans ev2) re2
  | ex c t => exact ExW.ev ev q
  | no => exact q
/-! as values -/
@[simp] def xNot (m : XM) : XM := fun env => (m env).bind fun (t, e1) => .ok (.bl (!t.tru), e1)
@[simp] def xAnd (m r : XM) : XM := fun env => (m env).bind fun (t, e1) => if t.tru then r e1 else .ok (t, e1)
@[simp] def xOr (m r : XM) : XM := fun env => (m env).bind fun (t, e1) => if t.tru then .ok (t, e1) else r e1
theorem me_not (h : MB D a m) : ME D (.UnaryOp .Not a pos) (xNot m) := by
  obtain ⟨t, p, k⟩ := h
  refine ⟨tNotT D.K t, fun v g => pe_notT (p v g), fun G W M σ H env re Q q => ?_⟩
  exact pstB_bind (P := Pst D G W M σ H Q) k re (fun c t h => h) (fun h => h) q fun b e1 x H1 ev1 re1 i1 q1 => ⟨_, i1.tru, q1 _ H1 ev1 re1 (.bl _)⟩
theorem me_one {op : BoolOp} (h : ME D a m) : ME D (.BoolOp op [a] pos) m := by
  obtain ⟨t, p, k⟩ := h
  exact ⟨t, fun v g => pe_one (p v g), k⟩
theorem me_and {rest : List Expr} (h : ME D a ma) (hr : ME D (.BoolOp .And (b :: rest) pos) mb) : ME D (.BoolOp .And (a :: b :: rest) pos) (xAnd ma mb) := by
  obtain ⟨t, p, k⟩ := h
  obtain ⟨t2, p2, k2⟩ := hr
  refine ⟨tAndT D.K t t2, fun v g => pe_andT (p v g) (p2 v g), fun G W M σ H env re Q q => ?_⟩
  refine pst_bind (P := Pst D G W M σ H Q) k re (fun c t h => h) (fun h => h) q fun b e1 x H1 ev1 re1 i1 q1 => ⟨_, IsB.tru (.inl i1), ?_⟩
  dsimp only at q1
  split at q1
  · rename_i hb
    rw [if_pos hb]
    exact k2 G W M σ H1 e1 re1 Q (q1.ev ev1)
  · rename_i hb
    rw [if_neg hb]
    exact q1 x H1 ev1 re1 i1
theorem me_or {rest : List Expr} (h : ME D a ma) (hr : ME D (.BoolOp .Or (b :: rest) pos) mb) : ME D (.BoolOp .Or (a :: b :: rest) pos) (xOr ma mb) := by
  obtain ⟨t, p, k⟩ := h
  obtain ⟨t2, p2, k2⟩ := hr
  refine ⟨tOrT D.K t t2, fun v g => pe_orT (p v g) (p2 v g), fun G W M σ H env re Q q => ?_⟩
  refine pst_bind (P := Pst D G W M σ H Q) k re (fun c t h => h) (fun h => h) q fun b e1 x H1 ev1 re1 i1 q1 => ⟨_, IsB.tru (.inl i1), ?_⟩
  dsimp only at q1
  split at q1
  · rename_i hb
    rw [if_pos hb]
    exact q1 x H1 ev1 re1 i1
  · rename_i hb
    rw [if_neg hb]
    exact k2 G W M σ H1 e1 re1 Q (q1.ev ev1)
/-! a if c else b -/
@[simp] def xIf (mc : TM) (ma mb : XM) : XM := fun env => (mc env).bind fun (t, e1) => if t then ma e1 else mb e1
theorem me_if (hc : MT D c tm) (ha : ME D a ma) (hb : ME D b mb) : ME D (.IfExp c a b pos) (xIf tm ma mb) := by
  obtain ⟨t, p, k⟩ := hc
  obtain ⟨t1, p1, k1⟩ := ha
  obtain ⟨t2, p2, k2⟩ := hb
  refine ⟨_, fun v g => pe_ifExp (p v g) (p1 v g) (p2 v g), fun G W M σ H env re Q q => ?_⟩
  refine pstT_bind (P := Pst D G W M σ H Q) k re (fun c t h => h) (fun h => h) q fun b e1 H1 ev1 re1 q1 => ?_
  cases b with
  | true => simp only [if_true] at q1 ⊢; exact k1 G W M σ H1 e1 re1 Q (q1.ev ev1)
  | false => simp only [Bool.false_eq_true, if_false] at q1 ⊢; exact k2 G W M σ H1 e1 re1 Q (q1.ev ev1)
theorem mb_if (hc : MT D c tm) (ha : MB D a ma) (hb : MB D b mb) : MB D (.IfExp c a b pos) (xIf tm ma mb) := by
  obtain ⟨t, p, k⟩ := hc
  obtain ⟨t1, p1, k1⟩ := ha
  obtain ⟨t2, p2, k2⟩ := hb
  refine ⟨_, fun v g => pe_ifExp (p v g) (p1 v g) (p2 v g), fun G W M σ H env re Q q => ?_⟩
  refine pstT_bind (P := PstB D G W M σ H Q) k re (fun c t h => h) (fun h => h) q fun b e1 H1 ev1 re1 q1 => ?_
  cases b with
  | true => simp only [if_true] at q1 ⊢; exact k1 G W M σ H1 e1 re1 Q (PstB.ev ev1 q1)
  | false => simp only [Bool.false_eq_true, if_false] at q1 ⊢; exact k2 G W M σ H1 e1 re1 Q (PstB.ev ev1 q1)
theorem mt_if {t1 t2 : TM} (hc : MT D c tm) (ha : ME D a ma) (hb : ME D b mb) (he : Plain (.IfExp c a b pos) := by exact fun _ _ => rfl) : MT D (.IfExp c a b pos) (tTru (xIf tm ma mb)) := mt_tru (mb_of (me_if hc ha hb)) he

/-! ### slices -/
abbrev OM := EnvM → R (Option Int × EnvM)
def PstO (D : Dat) (G : Gh) (W M : Addr → Prop) (σ : L2.St) (H : Hp) (Q : Option Int → Hp → Prop) : R (Option Int × EnvM) → Prop
  | .ok (t, env') => ∀ H', Ev M H H' → RE D.K G W M σ H' env' → Q t H'
  | .ex c t => ExW D W M H c t
  | .no => False
def TOok (D : Dat) (m : OM) (to : TO) : Prop := ∀ G W M σ H env, RE D.K G W M σ H env → ∀ Q, PstO D G W M σ H Q (m env) → to σ H Q
def MO (D : Dat) (e : Option Expr) (m : OM) : Prop := ∃ t, (∀ v, D.Good v → PO (D.cx v) e t) ∧ TOok D m t
@[simp] def oNone : OM := fun env => .ok (none, env)
@[simp] def oSome (m : XM) : OM := fun env => (m env).bind fun (t, e1) => match t with
  | .int i => .ok (some i, e1)
  | _ => .no
theorem mo_none : MO D none oNone := ⟨_, fun v _ => po_none, fun G W M σ H env re Q q => q H Ev.refl re⟩
theorem mo_some (h : ME D e m) : MO D (some e) (oSome m) := by
  obtain ⟨t, p, k⟩ := h
  refine ⟨_, fun v g => po_some (p v g), fun G W M σ H env re Q q => ?_⟩
  refine pst_bind (P := PstO D G W M σ H Q) k re (fun c t h => h) (fun h => h) q fun b e1 x H1 ev1 re1 i1 q1 => ?_
  dsimp only at q1
  split at q1
  · cases i1; exact ⟨_, rfl, q1 H1 ev1 re1⟩
  · exact (q1 : False).elim
theorem pstO_bind {G : Gh} {W M : Addr → Prop} {σ : L2.St} {H : Hp} {env : EnvM} {m : OM} {te : TO} (ok : TOok D m te) (r : RE D.K G W M σ H env) {α : Type} {f : Option Int × EnvM → R α} {P : R α → Prop} {Q : Option Int → Hp → Prop}
    (hx : ∀ c t, P (.ex c t) → ExW D W M H c t) (hn : ¬ P .no) (q : P ((m env).bind f)) (h : ∀ t env1 H1, Ev M H H1 → RE D.K G W M σ H1 env1 → P (f (t, env1)) → Q t H1) : te σ H Q := by
  refine ok G W M σ H env r Q ?_
  cases e : m env with
  | ok p =>
    obtain ⟨t, env1⟩ := p
    rw [e] at q
    exact fun H1 ev r1 => h t env1 H1 ev r1 q
  | ex c t => rw [e] at q; exact hx c t q
  | no => rw [e] at q; exact (hn q).elim
def cutG {α : Type} (xs : List α) (lo hi : Option Int) : List α := (xs.drop (HT.sIx xs.length 0 lo)).take (HT.sIx xs.length xs.length hi - HT.sIx xs.length 0 lo)
def slT (t : T) (lo hi : Option Int) : R T := match t with
  | .tup ts => .ok (.tup (cutG ts lo hi))
  | .lst ts => .ok (.lst (cutG ts lo hi))
  | .frz ts => .ok (.lst (cutG ts lo hi))
  | .str cs => .ok (.str (cutG cs lo hi))
  | _ => .no
theorem IsL.cut {K : PySem.W.Frag} {W : Addr → Prop} {H : Hp} {xs : List V} {ts : List T} (l : IsL K W H xs ts) (lo hi : Option Int) : IsL K W H (cutV xs lo hi) (cutG ts lo hi) := by
  unfold cutV cutG
  rw [l.length]
  exact (l.drop _).take _
theorem cutG_sub {α : Type} {xs : List α} {lo hi : Option Int} {x : α} (h : x ∈ cutG xs lo hi) : x ∈ xs := List.mem_of_mem_drop (List.mem_of_mem_take h)
theorem cutG_len {α : Type} {xs : List α} {lo hi : Option Int} : (cutG xs lo hi).length ≤ xs.length := by
  unfold cutG; rw [List.length_take, List.length_drop]; omega
def rSlAny (K : PySem.W.Frag) : V → Option Int → Option Int → Hp → VK → Prop := fun x lo hi H Q => (rSlL K x lo hi H Q ∨ rSlA K x lo hi H Q) ∨ rSlS x lo hi H Q
theorem sl_any {X : Cx} : SlR X (rSlAny X.K) := (sl_list.or sl_tupA).or sl_str
theorem sl_core {K : PySem.W.Frag} {W : Addr → Prop} {H : Hp} {v : V} {t u : T} {lo hi : Option Int} {Q : VK} (hm : Muts W H) (i : IsB K W H v t) (e : slT t lo hi = .ok u) (q : ∀ v H', Same H H' → Is K W H' v u → Q v H') : rSlAny K v lo hi H Q := by
  have nw : ∀ {p}, H p = none → ¬ W p := fun {p} h w => by have := hm p w; rw [h] at this; exact this
  unfold slT at e
  split at e
  · cases e
    obtain ⟨a, xs, rfl, hx, l⟩ := i.tup
    refine .inl (.inr ⟨a, xs, rfl, hx, fun h => ?_, fun _ p hp => q _ _ (same_upd hp) (.tup (.of upd_same) ((l.cut lo hi).same (same_upd hp) hm))⟩)
    refine q _ H (Same.refl H) (.tup hx ?_)
    have e : cutV xs lo hi = xs := by
      unfold cutV
      rw [h.1, h.2, List.drop_zero, Nat.sub_zero, List.take_length]
    have := l.cut lo hi
    rw [e] at this
    exact this
  · cases e
    obtain ⟨a, xs, rfl, hx, l⟩ := i.lst
    exact .inl (.inl ⟨a, xs, rfl, .of hx, fun p hp => q _ _ (same_upd hp) (.lst (nw hp) upd_same ((l.cut lo hi).same (same_upd hp) hm))⟩)
  · cases e
    obtain ⟨a, xs, rfl, hx, l⟩ := i.frz
    exact .inl (.inl ⟨a, xs, rfl, hx, fun p hp => q _ _ (same_upd hp) (.lst (nw hp) upd_same ((l.cut lo hi).same (same_upd hp) hm))⟩)
  · cases e
    obtain ⟨rfl, k⟩ := i.str
    refine .inr ⟨_, rfl, by rw [len_S]; exact okS_len k, ?_⟩
    rename_i cs
    have : cutS ⟨cs.toArray⟩ lo hi = ⟨(cutG cs lo hi).toArray⟩ := by
      unfold cutS cutG
      rw [len_S]
    rw [this]
    exact q _ H (Same.refl H) (.str _ (okS_of (Nat.le_trans cutG_len (okS_len k)) fun c hc => okS_all k c (cutG_sub hc)))
  · cases e
theorem sl_tame {t : T} {lo hi : Option Int} {c : String} {x : T} : slT t lo hi ≠ .ex c x := by unfold slT; split <;> intro h <;> cases h
@[simp] def xSl (m : XM) (l u : OM) : XM := fun env => (m env).bind fun (t, e1) => (l e1).bind fun (lo, e2) => (u e2).bind fun (hi, e3) => (slT t lo hi).bind fun r => .ok (r, e3)
theorem me_sl {lo hi : Option Expr} {ml mu : OM} {p2 : Pos} (h : ME D e m) (hl : MO D lo ml) (hu : MO D hi mu) : ME D (.Subscript e (.Slice lo hi none p2) pos) (xSl m ml mu) := by
  obtain ⟨t, p, k⟩ := h
  obtain ⟨t1, p1, k1⟩ := hl
  obtain ⟨t2, p2, k2⟩ := hu
  refine ⟨tSl (rSlAny D.K) t t1 t2, fun v g => pe_slice sl_any (p v g) (p1 v g) (p2 v g), fun G W M σ H env re Q q => ?_⟩
  refine pst_bind (P := Pst D G W M σ H Q) k re (fun c t h => h) (fun h => h) q fun b e1 x H1 ev1 re1 i1 q1 => ?_
  refine pstO_bind (P := Pst D G W M σ H Q) k1 re1 (fun c t h => ExW.ev ev1 h) (fun h => h) q1 fun lo e2 H2 ev2 re2 q2 => ?_
  refine pstO_bind (P := Pst D G W M σ H Q) k2 re2 (fun c t h => ExW.ev (ev1.trans ev2) h) (fun h => h) q2 fun hi e3 H3 ev3 re3 q3 => ?_
  simp only at q3
  cases z : slT b lo hi with
  | ok u => rw [z] at q3; exact sl_core re3.muts (.inl ((i1.ev ev2 re1).ev ev3 re2)) z fun v H4 s i => q3 v H4 (((ev1.trans ev2).trans ev3).trans (.same s)) (re3.same s) i
  | ex c t => exact (sl_tame z).elim
  | no => rw [z] at q3; exact (q3 : False).elim
@[simp] def xSlo (i : Nat) (l u : OM) : XM := fun env => match env[i]? with
  | some (.own _ _) => (l env).bind fun (lo, e2) => (u e2).bind fun (hi, e3) => match e3[i]? with
    | some (.own _ t) => (slT t lo hi).bind fun r => .ok (r, e3)
    | _ => .no
  | _ => .no
theorem me_slo {lo hi : Option Expr} {ml mu : OM} {p2 p : Pos} {x : Str} (i : Nat) (hN : D.N[i]? = some x) (hv : Vis D.sc x) (hl : MO D lo ml) (hu : MO D hi mu)
    (hd : (x == ("__debug__" : Str)) = false := by decide) (hcd : (x == ("__classdict__" : Str)) = false := by decide) : ME D (.Subscript (.Name x p) (.Slice lo hi none p2) pos) (xSlo i ml mu) := by
  obtain ⟨t1, p1, k1⟩ := hl
  obtain ⟨t2, p2, k2⟩ := hu
  refine ⟨tSl (rSlAny D.K) (tVar i) t1 t2, fun v g => pe_slice sl_any (pe_var (X := D.cx v) hN hv hd hcd) (p1 v g) (p2 v g), fun G W M σ H env re Q q => ?_⟩
  unfold xSlo at q
  split at q
  · rename_i b0 t0 e0
    obtain ⟨a0, h0, _⟩ := re.own i b0 t0 e0
    refine ⟨.ref a0, h0, ?_⟩
    refine pstO_bind (P := Pst D G W M σ H Q) k1 re (fun c t h => h) (fun h => h) q fun lo e2 H2 ev2 re2 q2 => ?_
    refine pstO_bind (P := Pst D G W M σ H Q) k2 re2 (fun c t h => ExW.ev ev2 h) (fun h => h) q2 fun hi e3 H3 ev3 re3 q3 => ?_
    simp only at q3
    split at q3
    · rename_i b1 t1 e1
      obtain ⟨a1, h1, _, h3, _⟩ := re3.own i b1 t1 e1
      rw [h0] at h1
      cases h1
      cases z : slT t1 lo hi with
      | ok u => rw [z] at q3; exact sl_core re3.muts (.inr ⟨_, rfl, h3⟩) z fun v H4 s i => q3 v H4 ((ev2.trans ev3).trans (.same s)) (re3.same s) i
      | ex c t => exact (sl_tame z).elim
      | no => rw [z] at q3; exact (q3 : False).elim
    · exact (q3 : False).elim
  · exact q.elim
/-! x[::-1] -/
def revT : T → R T
  | .tup ts => .ok (.tup ts.reverse)
  | .lst ts => .ok (.lst ts.reverse)
  | .frz ts => .ok (.lst ts.reverse)
  | .str cs => .ok (.str cs.reverse)
  | _ => .no
@[simp] def xRev (m : XM) : XM := fun env => (m env).bind fun (t, e1) => (revT t).bind fun r => .ok (r, e1)
theorem me_rev {k : Nat} {p1 p2 p3 : Pos} (h : MB D e m) : ME D (.Subscript e (.Slice none none (some (.UnaryOp .USub (.Constant (.int 1) k p1) p2)) p3) pos) (xRev m) := by
  obtain ⟨t, p, k⟩ := h
  refine ⟨tRevA D.K t, fun v g => pe_revAny (p v g), fun G W M σ H env re Q q => ?_⟩
  refine pstB_bind (P := Pst D G W M σ H Q) k re (fun c t h => h) (fun h => h) q fun b e1 x H1 ev1 re1 i1 q1 => ?_
  have nw : ∀ {p}, H1 p = none → ¬ W p := fun {p} h => re1.unheld h
  simp only at q1
  unfold revT at q1
  split at q1
  · obtain ⟨a, xs, rfl, hx, l⟩ := i1.tup
    exact .inr (.inl ⟨a, xs, rfl, hx, fun p hp => q1 _ _ (ev1.trans (.same (same_upd hp))) (re1.same (same_upd hp)) (.tup (.of upd_same) (l.reverse.same (same_upd hp) re1.muts))⟩)
  · obtain ⟨a, xs, rfl, hx, l⟩ := i1.lst
    exact .inl ⟨a, xs, rfl, .of hx, fun p hp => q1 _ _ (ev1.trans (.same (same_upd hp))) (re1.same (same_upd hp)) (.lst (nw hp) upd_same (l.reverse.same (same_upd hp) re1.muts))⟩
  · obtain ⟨a, xs, rfl, hx, l⟩ := i1.frz
    exact .inl ⟨a, xs, rfl, hx, fun p hp => q1 _ _ (ev1.trans (.same (same_upd hp))) (re1.same (same_upd hp)) (.lst (nw hp) upd_same (l.reverse.same (same_upd hp) re1.muts))⟩
  · obtain ⟨rfl, k⟩ := i1.str
    refine .inr (.inr ⟨_, rfl, by rw [len_S]; exact okS_len k, ?_⟩)
    exact q1 _ H1 ev1 re1 (.str _ (okS_of (by rw [List.length_reverse]; exact okS_len k) fun c hc => okS_all k c (List.mem_reverse.mp hc)))
  · exact (q1 : False).elim
/-! -x -/
def negT : T → R T
  | .int i => .ok (.int (-i))
  | .bl b => .no
  | _ => .no
@[simp] def xNeg (m : XM) : XM := fun env => (m env).bind fun (t, e1) => (negT t).bind fun r => .ok (r, e1)
theorem me_neg (h : ME D e m) : ME D (.UnaryOp .USub e pos) (xNeg m) := by
  obtain ⟨t, p, k⟩ := h
  refine ⟨_, fun v g => pe_un un_neg (p v g), fun G W M σ H env re Q q => ?_⟩
  refine pst_bind (P := Pst D G W M σ H Q) k re (fun c t h => h) (fun h => h) q fun b e1 x H1 ev1 re1 i1 q1 => ?_
  simp only at q1
  unfold negT at q1
  split at q1
  · cases i1; exact ⟨_, rfl, q1 _ H1 ev1 re1 (.int _)⟩
  · exact (q1 : False).elim
  · exact (q1 : False).elim
end
end M3
/-! M3, part f: targets, statements, loops. -/
namespace M3
open PySem PySem.Spec PyProof.Rows L2

section
variable {K : PySem.W.Frag} {G : Gh} {W W' M M' : Addr → Prop} {σ : L2.St} {H H' H2 : Hp} {env : EnvM}
theorem set_get {α : Type} {l : List α} {i j : Nat} {x y : α} (h : (l.set i x)[j]? = some y) : (i = j ∧ y = x ∧ i < l.length) ∨ (i ≠ j ∧ l[j]? = some y) := by
  by_cases e : i = j
  · subst e
    by_cases hl : i < l.length
    · rw [List.getElem?_set_self hl] at h; cases h; exact .inl ⟨rfl, rfl, hl⟩
    · rw [List.getElem?_eq_none (by simpa using hl)] at h; cases h
  · rw [List.getElem?_set_ne e] at h; exact .inr ⟨e, h⟩
theorem RE.set (r : RE K G W M σ H env) {i : Nat} {v : V} {t : T} (h : Is K W H v t) : RE K G W M (σ.set i (some v)) H (env.set i (.val t)) where
  len := by rw [List.length_set, List.length_set]; exact r.len
  val := fun j u e => by
    rcases set_get e with ⟨rfl, e1, hl⟩ | ⟨ne, e⟩
    · cases e1; exact ⟨v, by rw [List.getElem?_set_self (by rw [r.len]; exact hl)], h⟩
    · rw [List.getElem?_set_ne ne]; exact r.val j u e
  own := fun j b u e => by
    rcases set_get e with ⟨rfl, e1, hl⟩ | ⟨ne, e⟩
    · cases e1
    · rw [List.getElem?_set_ne ne]; exact r.own j b u e
  inj := fun j k b t b' t' e e' q => by
    rcases set_get e with ⟨rfl, e1, hl⟩ | ⟨ne, e⟩
    · cases e1
    · rcases set_get e' with ⟨rfl, e1', hl⟩ | ⟨ne', e'⟩
      · cases e1'
      · rw [List.getElem?_set_ne ne, List.getElem?_set_ne ne'] at q
        exact r.inj j k _ _ _ _ e e' q
  sub := r.sub
  muts := r.muts
  old := r.old
  ent := r.ent
  trk := r.trk
/-- a slot forgotten -/
theorem RE.drop (r : RE K G W M σ H env) {i : Nat} {x : Option V} : RE K G W M (σ.set i x) H (env.set i .no) where
  len := by rw [List.length_set, List.length_set]; exact r.len
  val := fun j u e => by
    rcases set_get e with ⟨rfl, e1, hl⟩ | ⟨ne, e⟩
    · cases e1
    · rw [List.getElem?_set_ne ne]; exact r.val j u e
  own := fun j b u e => by
    rcases set_get e with ⟨rfl, e1, hl⟩ | ⟨ne, e⟩
    · cases e1
    · rw [List.getElem?_set_ne ne]; exact r.own j b u e
  inj := fun j k b t b' t' e e' q => by
    rcases set_get e with ⟨rfl, e1, hl⟩ | ⟨ne, e⟩
    · cases e1
    · rcases set_get e' with ⟨rfl, e1', hl⟩ | ⟨ne', e'⟩
      · cases e1'
      · rw [List.getElem?_set_ne ne, List.getElem?_set_ne ne'] at q
        exact r.inj j k _ _ _ _ e e' q
  sub := r.sub
  muts := r.muts
  old := r.old
  ent := r.ent
  trk := r.trk
/-- a new thing of the frame's own -/
theorem RE.setOwn (r : RE K G W M σ H env) {i : Nat} {p : Addr} {t : T} (hM : ∀ a, M a → M' a) (hp : M' p) (hs : ∀ a, M' a → W a) (hn : ∀ j : Nat, σ[j]? = some (some (V.ref p)) → ∀ b t, env[j]? ≠ some (.own b t)) (h : IsO K W H p t) (hg : G.H0 p = none) : RE K G W M' (σ.set i (some (.ref p))) H (env.set i (.own false t)) where
  len := by rw [List.length_set, List.length_set]; exact r.len
  val := fun j u e => by
    rcases set_get e with ⟨rfl, e1, hl⟩ | ⟨ne, e⟩
    · cases e1
    · rw [List.getElem?_set_ne ne]; exact r.val j u e
  own := fun j b u e => by
    rcases set_get e with ⟨rfl, e1, hl⟩ | ⟨ne, e⟩
    · cases e1
      exact ⟨p, by rw [List.getElem?_set_self (by rw [r.len]; exact hl)], hp, h, by rw [if_neg Bool.false_ne_true]; exact hg⟩
    · rw [List.getElem?_set_ne ne]
      obtain ⟨a, h1, h2, h3, h4⟩ := r.own j b u e
      exact ⟨a, h1, hM a h2, h3, h4⟩
  inj := fun j k b t b' t' e e' q => by
    rcases set_get e with ⟨rfl, e1, hl⟩ | ⟨ne, e⟩
    · rcases set_get e' with ⟨rfl, e1', hl'⟩ | ⟨ne', e'⟩
      · rfl
      · rw [List.getElem?_set_self (by rw [r.len]; exact hl), List.getElem?_set_ne ne'] at q
        exact (hn k q.symm _ _ e').elim
    · rcases set_get e' with ⟨rfl, e1', hl'⟩ | ⟨ne', e'⟩
      · rw [List.getElem?_set_self (by rw [r.len]; exact hl'), List.getElem?_set_ne ne] at q
        exact (hn j q _ _ e).elim
      · rw [List.getElem?_set_ne ne, List.getElem?_set_ne ne'] at q
        exact r.inj j k _ _ _ _ e e' q
  sub := hs
  muts := r.muts
  old := r.old
  ent := r.ent
  trk := r.trk
/-- a thing of the frame's own written -/
theorem RE.write (r : RE K G W M σ H env) {i : Nat} {b : Bool} {a : Addr} {t t1 : T} (e : env[i]? = some (.own b t)) (ha : σ[i]? = some (some (.ref a))) (hk : ∀ c o, H c = some o → c ≠ a → H' c = some o) (ht : ∀ c, H c ≠ none → H' c ≠ none) (mu : Mut (H' a)) (h : IsO K W H' a t1) : RE K G W M σ H' (env.set i (.own b t1)) := by
  have ma : M a := by
    obtain ⟨a', h1, h2, _⟩ := r.own i b t e
    rw [ha] at h1; cases h1; exact h2
  have f : Fut W H W H' := ⟨fun c o q n => hk c o q fun z => n (by rw [z]; exact r.sub _ ma), fun _ w _ => w, ht⟩
  exact {
    len := by rw [List.length_set]; exact r.len
    val := fun j u e' => by
      rcases set_get e' with ⟨rfl, e1, hl⟩ | ⟨ne, e'⟩
      · cases e1
      · obtain ⟨v, h1, h2⟩ := r.val j u e'; exact ⟨v, h1, h2.fut f r.muts⟩
    own := fun j c u e' => by
      rcases set_get e' with ⟨rfl, e1, hl⟩ | ⟨ne, e'⟩
      · cases e1
        obtain ⟨a', h1, h2, _, h4⟩ := r.own i b t e
        rw [ha] at h1; cases h1
        exact ⟨a, ha, h2, h, h4⟩
      · obtain ⟨a', h1, h2, h3, h4⟩ := r.own j c u e'
        have na : a' ≠ a := fun z => ne (r.inj i j _ _ _ _ e e' (by rw [ha, h1, z]))
        refine ⟨a', h1, h2, h3.fut f r.muts ?_, h4⟩
        cases z : H a' with
        | none => have := r.muts a' (r.sub _ h2); rw [z] at this; exact this.elim
        | some o => exact hk a' o z na
    inj := fun j k b1 t b' t' e1 e2 q => by
      have g : ∀ {k : Nat} {c : Bool} {u : T}, (env.set i (.own b t1))[k]? = some (.own c u) → ∃ c' u', env[k]? = some (.own c' u') := fun {k c u} z => by
        rcases set_get z with ⟨rfl, e1, hl⟩ | ⟨ne, z⟩
        · exact ⟨_, _, e⟩
        · exact ⟨_, _, z⟩
      obtain ⟨_, _, g1⟩ := g e1
      obtain ⟨_, _, g2⟩ := g e2
      exact r.inj j k _ _ _ _ g1 g2 q
    sub := r.sub
    muts := fun c w => by
      by_cases z : c = a
      · subst z; exact mu
      · have := r.muts c w
        cases y : H c with
        | none => rw [y] at this; exact this.elim
        | some o => rw [hk c o y z]; rw [y] at this; exact this
    old := r.old
    ent := r.ent
    trk := fun c h => ht c (r.trk c h) }
/-- a thing of the frame's own, made here, becomes a value -/
theorem RE.freeze (r : RE K G W M σ H env) {i : Nat} {a : Addr} {t : T} (e : env[i]? = some (.own false t)) (ha : σ[i]? = some (some (.ref a))) : RE K G (fun b => W b ∧ b ≠ a) (fun b => M b ∧ b ≠ a) σ H (env.set i (.val t)) := by
  have wk : ∀ b, (W b ∧ b ≠ a) → W b := fun b w => w.1
  exact {
    len := by rw [List.length_set]; exact r.len
    val := fun j u e' => by
      rcases set_get e' with ⟨rfl, e1, hl⟩ | ⟨ne, e'⟩
      · cases e1
        obtain ⟨a', h1, h2, h3, h4⟩ := r.own i _ t e
        rw [ha] at h1; cases h1
        refine ⟨_, ha, ?_⟩
        cases t with
        | lst ts => obtain ⟨xs, q, l⟩ := h3; exact .lst (fun w => w.2 rfl) q (l.weak wk)
        | dct b ks vs => obtain ⟨o, ws, q, z, l⟩ := h3; exact .dct (fun w => w.2 rfl) q (.of z) (l.weak wk)
        | _ => exact h3.elim
      · obtain ⟨v, h1, h2⟩ := r.val j u e'; exact ⟨v, h1, h2.weak wk⟩
    own := fun j c u e' => by
      rcases set_get e' with ⟨rfl, e1, hl⟩ | ⟨ne, e'⟩
      · cases e1
      · obtain ⟨a', h1, h2, h3, h4⟩ := r.own j c u e'
        have na : a' ≠ a := fun z => ne (r.inj i j _ _ _ _ e e' (by rw [ha, h1, z]))
        refine ⟨a', h1, ⟨h2, na⟩, ?_, h4⟩
        cases u with
        | lst ts => obtain ⟨xs, q, l⟩ := h3; exact ⟨xs, q, l.weak wk⟩
        | dct b ks vs => obtain ⟨o, ws, q, z, l⟩ := h3; exact ⟨o, ws, q, z, l.weak wk⟩
        | _ => exact h3.elim
    inj := fun j k b1 t b' t' e1 e2 q => by
      rcases set_get e1 with ⟨rfl, e3, hl⟩ | ⟨ne, e1⟩
      · cases e3
      · rcases set_get e2 with ⟨rfl, e3, hl⟩ | ⟨ne, e2⟩
        · cases e3
        · exact r.inj j k _ _ _ _ e1 e2 q
    sub := fun b w => ⟨r.sub b w.1, w.2⟩
    muts := fun b w => r.muts b w.1
    old := fun b w => ⟨r.old b w, fun z => by
      obtain ⟨a', h1, h2, h3, h4⟩ := r.own i _ t e
      rw [ha] at h1; cases h1
      rw [if_neg Bool.false_ne_true] at h4
      subst z
      exact r.ent _ w h4⟩
    ent := r.ent
    trk := r.trk }
end

/-! ### targets -/
abbrev GM := T → EnvM → R EnvM
def PstG (D : Dat) (G : Gh) (W M : Addr → Prop) (js : List Nat) (σ : L2.St) (H : Hp) (Q : L2.St → Hp → Prop) : R EnvM → Prop
  | .ok env' => ∀ σ' H', Ev M H H' → RE D.K G W M σ' H' env' → (σ'.length = σ.length ∧ ∀ j, j ∉ js → σ'[j]? = σ[j]?) → Q σ' H'
  | _ => False
def TGok (D : Dat) (js : List Nat) (g : GM) (gt : TG) : Prop := ∀ G W M σ H env, RE D.K G W M σ H env → ∀ v t, Is D.K W H v t → ∀ Q, PstG D G W M js σ H Q (g t env) → gt v σ H Q
def MG (D : Dat) (tg : Expr) (js : List Nat) (g : GM) : Prop := ∃ gt, (∀ v, D.Good v → PG (D.cx v) tg gt) ∧ TGok D js g gt
abbrev GsM := List T → EnvM → R EnvM
def TGsok (D : Dat) (js : List Nat) (g : GsM) (gt : TGs) : Prop := ∀ G W M σ H env, RE D.K G W M σ H env → ∀ vs ts, IsL D.K W H vs ts → ∀ Q, PstG D G W M js σ H Q (g ts env) → gt vs σ H Q
def MGs (D : Dat) (es : List Expr) (js : List Nat) (g : GsM) : Prop := ∃ gt, (∀ v, D.Good v → PGs (D.cx v) es gt) ∧ TGsok D js g gt ∧ ∀ ts env e, g ts env = .ok e → ts.length = es.length
section
variable {D : Dat} {e a b c : Expr} {m ma mb mc mk : XM} {tm ta' tb' : TM} {pos : Pos}
@[simp] def gNm (i : Nat) : GM := fun t env => .ok (env.set i (.val t))
theorem mg_name (i : Nat) {x : Str} (hN : D.N.Nodup) (hi : D.N[i]? = some x) (hx : Loc D.sc x) (hf : D.fn x = true ∨ D.sc.names.lookup x = some .local := by first | exact .inl rfl | exact .inr rfl | assumption) : MG D (.Name x pos) [i] (gNm i) := by
  refine ⟨gName i, fun v _ => pg_name (X := D.cx v) hN hi hx hf, fun G W M σ H env re v t iv Q q => ?_⟩
  exact q _ H Ev.refl (re.set iv) ⟨List.length_set, fun j hj => List.getElem?_set_ne (fun z => hj (by simp [z]))⟩
@[simp] def gsN : GsM := fun ts env => match ts with
  | [] => .ok env
  | _ => .no
@[simp] def gsC (g : GM) (r : GsM) : GsM := fun ts env => match ts with
  | t :: ts => (g t env).bind fun e1 => r ts e1
  | _ => .no
theorem mgs_nil : MGs D [] [] gsN := by
  refine ⟨gNil, fun v _ => pgs_nil, fun G W M σ H env re vs ts il Q q => ?_, fun ts env e h => ?_⟩
  · cases il with
    | nil => exact ⟨rfl, q σ H Ev.refl re ⟨rfl, fun _ _ => rfl⟩⟩
    | cons _ _ => exact q.elim
  · cases ts with
    | nil => rfl
    | cons _ _ => cases h
theorem mgs_cons {es : List Expr} {js ks : List Nat} {g : GM} {r : GsM} (h1 : MG D e js g) (h2 : MGs D es ks r) (hs : ∀ env, (assignEach (e :: es) env).map (·.2) = assign e env :: (assignEach es env).map (·.2) := by exact fun _ => rfl) : MGs D (e :: es) (js ++ ks) (gsC g r) := by
  obtain ⟨t1, p1, k1⟩ := h1
  obtain ⟨t2, p2, k2, n2⟩ := h2
  refine ⟨gCons t1 t2, fun v gd => pgs_cons (p1 v gd) (p2 v gd) (hs _), fun G W M σ H env re vs ts il Q q => ?_, fun ts env e h => ?_⟩
  · cases il with
    | nil => exact q.elim
    | cons i1 il =>
      rename_i v vs t ts
      refine ⟨v, vs, rfl, k1 G W M σ H env re v t i1 _ ?_⟩
      simp only [gsC] at q
      cases z : g t env with
      | ok e1 =>
        rw [z] at q
        refine fun σ1 H1 ev1 re1 f1 => k2 G W M σ1 H1 e1 re1 vs ts (il.ev ev1 re) Q ?_
        simp only [R.bind] at q
        cases z2 : r ts e1 with
        | ok e2 =>
          rw [z2] at q
          exact fun σ2 H2 ev2 re2 f2 => q σ2 H2 (ev1.trans ev2) re2 ⟨f2.1.trans f1.1, fun j hj => (f2.2 j fun m => hj (List.mem_append_right _ m)).trans (f1.2 j fun m => hj (List.mem_append_left _ m))⟩
        | ex c t => rw [z2] at q; exact q
        | no => rw [z2] at q; exact q
      | ex c t => rw [z] at q; exact q
      | no => rw [z] at q; exact q
  · cases ts with
    | nil => cases h
    | cons t ts =>
      simp only [gsC] at h
      cases z : g t env with
      | ok e1 => rw [z] at h; exact congrArg (· + 1) (n2 ts e1 e h)
      | ex c t => rw [z] at h; cases h
      | no => rw [z] at h; cases h
@[simp] def gTp (g : GsM) : GM := fun t env => match t with
  | .tup ts => g ts env
  | .lst ts => g ts env
  | _ => .no
/-- a, b, .. = a tuple or a list of that length -/
def gSeq (K : PySem.W.Frag) (n : Nat) (t : TGs) : TG := fun v σ H Q => ∃ a xs, v = .ref a ∧ (SqT K H a xs ∨ SqL K H a xs) ∧ xs.length = n ∧ t xs σ H Q
theorem pg_seq {X : Cx} {es : List Expr} {k : Nat} {gs : TGs} {m : Nat} (hc : X.calm = true) (h : PGs X es gs)
    (hn : (assignEach es X.env).length = m := by rfl) (hst : (assignEach es X.env).findIdx? (·.1) = none := by rfl) : PG X (.Tuple es k pos) (gSeq X.K m gs) := by
  refine ⟨fun pins s σ H v u Q n I r hw => ?_⟩
  obtain ⟨a, xs, rfl, hq, hl, hw⟩ := hw
  rcases hq with hq | hq
  · exact (pg_tup hc h hn hst).run pins s σ H _ _ Q n I r ⟨a, xs, rfl, hq, hl, hw⟩
  · cases r
    obtain ⟨its, rv, pl, hz⟩ := I.list hq
    have hsz : (assignEach es X.env).length = its.toArray.size := by simp [hn, ← hl, rv.length]
    rw [PyProof.Rows.assign_Tuple]
    refine wpAny_bind (wpAny_standAt ?_)
    unfold unpack
    rw [hsz, hst]
    refine wpAny_bind (wpAny_holding (PySem.W.kun_itemsOf (I.ok.hd hc) pl.isList fun h' hx => ?_))
    have I1 : Inv X pins σ H { s with heap := h' } := I.kept (t' := s.toks) fun b o e => hx b o (Nat.ne_of_lt (Heap.lt_size e)) e
    exact h.run pins { s with heap := h' } σ H xs _ Q n I1 (by simpa using rv) hw
theorem mg_tup {es : List Expr} {k : Nat} {js : List Nat} {g : GsM} (h : MGs D es js g) (hn : ∀ env, (assignEach es env).length = es.length := by exact fun _ => rfl) (hst : ∀ env, (assignEach es env).findIdx? (·.1) = none := by exact fun _ => rfl) : MG D (.Tuple es k pos) js (gTp g) := by
  obtain ⟨t, p, kk, n⟩ := h
  refine ⟨gSeq D.K es.length t, fun v gd => pg_seq rfl (p v gd) (hn _) (hst _), fun G W M σ H env re v t iv Q q => ?_⟩
  have len : ∀ ts, PstG D G W M js σ H Q (g ts env) → ts.length = es.length := fun ts q => by
    cases z : g ts env with
    | ok e => exact n _ _ _ z
    | ex c t => rw [z] at q; exact q.elim
    | no => rw [z] at q; exact q.elim
  unfold gTp at q
  cases iv with
  | tup hx l => exact ⟨_, _, rfl, .inl hx, by rw [l.length]; exact len _ q, kk G W M σ H env re _ _ l Q q⟩
  | lst hw hx l => exact ⟨_, _, rfl, .inr (.inl (.inl hx)), by rw [l.length]; exact len _ q, kk G W M σ H env re _ _ l Q q⟩
  | _ => exact q.elim
/-- o[k] = .., o a list of the frame's own -/
def gSb (i : Nat) (mk : XM) : GM := fun t env => match env[i]? with
  | some (.own _ _) => (mk env).bind fun (k, e1) => match k, e1[i]? with
    | .int k, some (.own b (.lst ts)) => match ixN ts.length k with
      | some j => .ok (e1.set i (.own b (.lst (ts.set j t))))
      | none => .no
    | _, _ => .no
  | _ => .no
theorem ev_upd {M : Addr → Prop} {H : Hp} {a : Addr} {o : HO} (m : M a) : Ev M H (upd H a o) := by
  refine ⟨fun b x e n => by rw [upd_ne (fun z => n (by rw [z]; exact m))]; exact e, fun b h => ?_⟩
  by_cases z : b = a
  · subst z; rw [upd_same]; exact fun y => nomatch y
  · rw [upd_ne z]; exact h
theorem mg_sub {x : Str} {p1 : Pos} {k : Expr} (i : Nat) (hN : D.N[i]? = some x) (hv : Vis D.sc x) (hk : ME D k mk)
    (ha : ∀ env v, assign (.Subscript (.Name x p1) k pos) env v = (do
      let ov ← holding [v] (eval (.Name x p1) env)
      let iv ← holding [v, ov] (eval k env)
      standAt pos
      holding [v, ov, iv] (setItem ov iv v)
      release [v, ov, iv] []) := by exact fun _ _ => rfl)
    (hd : (x == ("__debug__" : Str)) = false := by decide) (hcd : (x == ("__classdict__" : Str)) = false := by decide) : MG D (.Subscript (.Name x p1) k pos) [] (gSb i mk) := by
  obtain ⟨t, p, kk⟩ := hk
  refine ⟨gSub (tVar i) t rSetL, fun v gd => pg_sub (pe_var (X := D.cx v) hN hv hd hcd) (p v gd) set_list (ha _), fun G W M σ H env re v t0 iv Q q => ?_⟩
  unfold gSb at q
  split at q
  · rename_i b0 t1 e0
    obtain ⟨a0, h0, _⟩ := re.own i b0 t1 e0
    refine ⟨.ref a0, h0, ?_⟩
    refine kk G W M σ H env re _ ?_
    cases z : mk env with
    | ex c t => rw [z] at q; exact q.elim
    | no => rw [z] at q; exact q.elim
    | ok w =>
      obtain ⟨kt, e1⟩ := w
      rw [z] at q
      intro kv H1 ev1 re1 i1
      dsimp only [R.bind] at q
      split at q
      · rename_i k' b ts e2
        split at q
        · rename_i j hj
          cases i1
          obtain ⟨a1, h1, hm, ⟨xs, hx, l⟩, _⟩ := re1.own i b _ e2
          rw [h0] at h1; cases h1
          refine ⟨a0, xs, k', j, rfl, rfl, hx, by rw [l.length]; exact hj, ?_⟩
          refine q σ _ (ev1.trans (ev_upd hm)) (re1.write e2 h0 (fun c o e n => by rw [upd_ne n]; exact e) (fun c h => (ev_upd (M := M) hm).trk c h) (by rw [upd_same]; trivial) ⟨_, upd_same, ?_⟩) ⟨rfl, fun _ _ => rfl⟩
          have f : Fut W H1 W (upd H1 a0 (.lst (xs.set j v))) := (ev_upd (M := M) hm).fut re.sub
          exact (l.fut f re1.muts).set j ((iv.ev ev1 re).fut f re1.muts)
        · exact q.elim
      · exact q.elim
  · exact q.elim
end

/-! ### statements -/
section
variable {D : Dat} {e a b c : Expr} {m ma mb mc : XM} {tm : TM} {pos : Pos} {st : Stmt} {sts sts2 : List Stmt} {ms ms2 : SM}
theorem EvS.of {G : Gh} {W M : Addr → Prop} {H H' : Hp} (e : Ev M H H') : EvS G W M H W M H' := ⟨e.keep, e.trk, fun _ w _ => w, fun _ w _ => w⟩
theorem EvS.trans {G : Gh} {W W1 W2 M M1 M2 : Addr → Prop} {H H1 H2 : Hp} (a : EvS G W M H W1 M1 H1) (b : EvS G W1 M1 H1 W2 M2 H2) : EvS G W M H W2 M2 H2 :=
  ⟨fun c o h n => b.keep c o (a.keep c o h n) fun m => n (a.hM c m (by rw [h]; exact fun z => nomatch z)), fun c h => b.trk c (a.trk c h), fun c w h => a.hW c (b.hW c w (a.trk c h)) h, fun c w h => a.hM c (b.hM c w (a.trk c h)) h⟩
theorem EvS.fut {G : Gh} {W W' M M' : Addr → Prop} {H H' : Hp} (e : EvS G W M H W' M' H') (h : ∀ a, M a → W a) : Fut W H W' H' := ⟨fun c o q n => e.keep c o q fun m => n (h c m), e.hW, e.trk⟩
theorem PstS.evs {G : Gh} {W W' M M' : Addr → Prop} {H H' : Hp} {Dn : Ends} {r : R (Fl × EnvM)} (e : EvS G W M H W' M' H') (q : PstS D G W M H Dn r) : PstS D G W' M' H' Dn r := by
  cases r with
  | ok w => obtain ⟨f, env⟩ := w; exact fun W2 M2 σ2 H2 e2 re => q W2 M2 σ2 H2 (e.trans e2) re
  | ex c t => exact fun W2 M2 H2 e2 o2 => q W2 M2 H2 (e.trans e2) o2
  | no => exact q
theorem PstS.exw {G : Gh} {W M : Addr → Prop} {H : Hp} {Dn : Ends} {c : String} {t : T} (q : PstS D G W M H Dn (.ex c t)) (o : ∀ a, G.W0 a → W a) : ExW D W M H c t := q W M H (EvS.of Ev.refl) o
@[simp] def sNil : SM := fun env => .ok (.nx, env)
@[simp] def sSeq (m r : SM) : SM := fun env => (m env).bind fun (f, e1) => match f with
  | .nx => r e1
  | f => .ok (f, e1)
theorem mss_nil : MSs D [] sNil := ⟨tNext, fun v _ => pss_nil, fun G W M σ H env re Dn q => q W M σ H (EvS.of Ev.refl) re⟩
theorem mss_cons (h1 : MS D st ms) (h2 : MSs D sts ms2) : MSs D (st :: sts) (sSeq ms ms2) := by
  obtain ⟨t1, p1, k1⟩ := h1
  obtain ⟨t2, p2, k2⟩ := h2
  refine ⟨tSeq t1 t2, fun v g => pss_cons (p1 v g) (p2 v g), fun G W M σ H env re Dn q => k1 G W M σ H env re _ ?_⟩
  unfold sSeq at q
  cases z : ms env with
  | ok w =>
    obtain ⟨f, e1⟩ := w
    rw [z] at q
    cases f with
    | nx => exact fun W1 M1 σ1 H1 ev1 re1 => k2 G W1 M1 σ1 H1 e1 re1 Dn (PstS.evs ev1 q)
    | rt t => exact q
    | rn t => exact q
    | bk => exact q
    | ct => exact q
  | ex c t => rw [z] at q; exact q
  | no => rw [z] at q; exact q
theorem mss_one (h1 : MS D st ms) : MSs D [st] ms := by
  obtain ⟨t1, p1, k1⟩ := h1
  exact ⟨t1, fun v g => pss_one (p1 v g), k1⟩
@[simp] def sFl (f : Fl) : SM := fun env => .ok (f, env)
theorem ms_pass : MS D (.Pass pos) (sFl .nx) := ⟨tNext, fun v _ => ps_pass, fun G W M σ H env re Dn q => q W M σ H (EvS.of Ev.refl) re⟩
theorem ms_break : MS D (.Break pos) (sFl .bk) := ⟨tBreak, fun v _ => ps_break, fun G W M σ H env re Dn q => q W M σ H (EvS.of Ev.refl) re⟩
theorem ms_continue : MS D (.Continue pos) (sFl .ct) := ⟨tCont, fun v _ => ps_continue, fun G W M σ H env re Dn q => q W M σ H (EvS.of Ev.refl) re⟩
/-- an expression's end, behind it a statement's -/
theorem pst_s {G : Gh} {W M : Addr → Prop} {σ : L2.St} {H : Hp} {env : EnvM} {te : TE} {Dn : Ends} (ok : TEok D m te) (r : RE D.K G W M σ H env) {f : T × EnvM → R (Fl × EnvM)} {Q : VK}
    (q : PstS D G W M H Dn ((m env).bind f)) (h : ∀ t env1 v H1, Ev M H H1 → RE D.K G W M σ H1 env1 → Is D.K W H1 v t → PstS D G W M H1 Dn (f (t, env1)) → Q v H1) : te σ H Q :=
  pst_bind (P := PstS D G W M H Dn) ok r (fun c t h => h.exw r.old) (fun h => h) q fun t e1 v H1 ev1 re1 i1 q1 => h t e1 v H1 ev1 re1 i1 (q1.evs (EvS.of ev1))
theorem pstT_s {G : Gh} {W M : Addr → Prop} {σ : L2.St} {H : Hp} {env : EnvM} {m : TM} {te : TT} {Dn : Ends} (ok : TTok D m te) (r : RE D.K G W M σ H env) {f : Bool × EnvM → R (Fl × EnvM)} {Q : Bool → Hp → Prop}
    (q : PstS D G W M H Dn ((m env).bind f)) (h : ∀ t env1 H1, Ev M H H1 → RE D.K G W M σ H1 env1 → PstS D G W M H1 Dn (f (t, env1)) → Q t H1) : te σ H Q :=
  pstT_bind (P := PstS D G W M H Dn) ok r (fun c t h => h.exw r.old) (fun h => h) q fun t e1 H1 ev1 re1 q1 => h t e1 H1 ev1 re1 (q1.evs (EvS.of ev1))
@[simp] def sExpr (m : XM) : SM := fun env => (m env).bind fun (_, e1) => .ok (.nx, e1)
theorem ms_expr (h : ME D e m) (hs : ∀ v : Vr, swapsWith e none pos.line (D.cx v).env = pure false := by exact fun _ => rfl) : MS D (.Expr e pos) (sExpr m) := by
  obtain ⟨t, p, k⟩ := h
  exact ⟨tDrop t, fun v g => ps_expr (p v g) (hs v), fun G W M σ H env re Dn q => pst_s k re q fun t e1 v H1 ev1 re1 i1 q1 => q1 W M σ H1 (EvS.of Ev.refl) re1⟩
@[simp] def sRet (m : XM) : SM := fun env => (m env).bind fun (t, e1) => .ok (.rt t, e1)
theorem ms_ret (h : ME D e m) : MS D (.Return (some e) pos) (sRet m) := by
  obtain ⟨t, p, k⟩ := h
  exact ⟨tRet t, fun v g => ps_ret (p v g), fun G W M σ H env re Dn q => pst_s k re q fun t e1 v H1 ev1 re1 i1 q1 => q1 W M σ H1 (EvS.of Ev.refl) re1 v i1⟩
/-- a fresh thing is given back -/
@[simp] def sRetF (m : XM) : SM := fun env => (m env).bind fun (t, e1) => .ok (.rn t, e1)
theorem ms_retF (h : MN D e m) : MS D (.Return (some e) pos) (sRetF m) := by
  obtain ⟨t, p, k⟩ := h
  refine ⟨tRet t, fun v g => ps_ret (p v g), fun G W M σ H env re Dn q => k G W M σ H env re _ ?_⟩
  unfold sRetF at q
  cases z : m env with
  | ex c t => rw [z] at q; exact q.exw re.old
  | no => rw [z] at q; exact q
  | ok w =>
    obtain ⟨u, e1⟩ := w
    rw [z] at q
    intro p H' ev hp rr oo ht
    refine q W M σ H' (EvS.of ev) (rr W (fun _ w => w) fun _ w => .inl w) p ?_ (oo _ fun a w => w)
    cases z : G.H0 p with
    | none => rfl
    | some o => exact (re.trk p (by rw [z]; exact fun y => nomatch y) hp).elim
theorem ms_retN : MS D (.Return none pos) (sFl (.rt .non)) := ⟨tRetN, fun v _ => ps_retN, fun G W M σ H env re Dn q => q W M σ H (EvS.of Ev.refl) re .non .non⟩
@[simp] def sIf (c : TM) (a b : SM) : SM := fun env => (c env).bind fun (t, e1) => if t then a e1 else b e1
theorem ms_if (hc : MT D c tm) (ha : MSs D sts ms) (hb : MSs D sts2 ms2) : MS D (.If c sts sts2 pos) (sIf tm ms ms2) := by
  obtain ⟨t, p, k⟩ := hc
  obtain ⟨t1, p1, k1⟩ := ha
  obtain ⟨t2, p2, k2⟩ := hb
  refine ⟨tIfS t t1 t2, fun v g => ps_if (p v g) (p1 v g) (p2 v g), fun G W M σ H env re Dn q => pstT_s k re q fun b e1 H1 ev1 re1 q1 => ?_⟩
  cases b with
  | true => simp only [if_true] at q1 ⊢; exact k1 G W M σ H1 e1 re1 Dn q1
  | false => simp only [Bool.false_eq_true, if_false] at q1 ⊢; exact k2 G W M σ H1 e1 re1 Dn q1
@[simp] def sSet (i : Nat) (m : XM) : SM := fun env => (m env).bind fun (t, e1) => .ok (.nx, e1.set i (.val t))
theorem ms_set {x : Str} {p' : Pos} (i : Nat) (hN : D.N.Nodup) (hi : D.N[i]? = some x) (hx : Loc D.sc x) (h : ME D e m) (hs : ∀ v : Vr, swapsWith e (some (.Name x p')) pos.line (D.cx v).env = pure false := by exact fun _ => rfl)
    (hf : D.fn x = true ∨ D.sc.names.lookup x = some .local := by first | exact .inl rfl | exact .inr rfl | assumption) : MS D (.Assign [.Name x p'] e pos) (sSet i m) := by
  obtain ⟨t, p, k⟩ := h
  exact ⟨tAsg t (gName i), fun v g => ps_set (X := D.cx v) hN hi hx (p v g) (hs v) hf, fun G W M σ H env re Dn q => pst_s k re q fun t e1 v H1 ev1 re1 i1 q1 => q1 W M _ H1 (EvS.of Ev.refl) (re1.set i1)⟩
/-- target = value -/
@[simp] def sAsg (g : GM) (m : XM) : SM := fun env => (m env).bind fun (t, e1) => match g t e1 with
  | .ok e2 => .ok (.nx, e2)
  | _ => .no
theorem ms_asg {tg : Expr} {js : List Nat} {g : GM} (hg : MG D tg js g) (h : ME D e m) (hs : ∀ v : Vr, swapsWithSole [tg] e pos.line (D.cx v).env = pure false := by exact fun _ => rfl) (hw : ∀ v : Vr, swappedStores [tg] e (D.cx v).env = pure none := by exact fun _ => rfl)
    (h1 : ∀ env, (assignEach [tg] env).map (·.2) = [assign tg env] := by exact fun _ => rfl) : MS D (.Assign [tg] e pos) (sAsg g m) := by
  obtain ⟨t, p, k⟩ := h
  obtain ⟨t2, p2, k2⟩ := hg
  refine ⟨tAsg t t2, fun v g => ps_asg (p v g) (p2 v g) (hs v) (hw v) (h1 _), fun G W M σ H env re Dn q => pst_s k re q fun t e1 v H1 ev1 re1 i1 q1 => ?_⟩
  refine k2 G W M σ H1 e1 re1 v t i1 _ ?_
  dsimp only at q1
  cases z : g t e1 with
  | ok e2 => rw [z] at q1; exact fun σ2 H2 ev2 re2 _ => q1 W M σ2 H2 (EvS.of ev2) re2
  | ex c t => rw [z] at q1; exact (q1 : False).elim
  | no => rw [z] at q1; exact q1
end
end M3
/-! enumerate over a list, a tuple, a text, from 0 or a start. -/
namespace ZN
open PySem PySem.Spec PyProof.Rows L2
open PySem.Sem (wp)
/-- the items of z in new pairs with their numbers from k0 -/
def IteN (K : PySem.W.Frag) (z : ZS) (k0 : Int) : It :=
  ⟨fun i H => ∃ xs, z.rd K H xs ∧ i < xs.length,
    fun i H v H' => ∃ T x, v = .ref T ∧ H T = none ∧ H' = upd H T (.tup [.int (k0 + (i : Nat)), x]) ∧ ∀ xs, z.rd K H xs → xs[i]? = some x,
    fun i H => ∃ xs, z.rd K H xs ∧ xs.length = i⟩
theorem turn_enumN {P : Program} {w : World} {K : PySem.W.Frag} {elts : List Expr} {kk : Nat} {tpos : Pos} {z : ZS} {k0 : Int} {N : Nat} (lt : z.below N) :
    Turn P w K (.Tuple elts kk tpos) (IteN K z k0) [N + 1, N] (N + 1) (fun i h => (∃ old, IsEnum h (N + 1) N (k0 + (i : Nat)) old) ∧ z.it N i h) where
  mem := by simp
  obj := fun i h st b hb => by
    obtain ⟨⟨old, he⟩, hi⟩ := st
    have e' : b = N + 1 ∨ b = N := by simpa using hb
    rcases e' with q | q
    · rw [q]; exact ⟨_, he, fun v q => nomatch q⟩
    · rw [q]; exact ZS.it_obj hi
  keep := fun i h h' st k => by
    obtain ⟨⟨old, he⟩, hi⟩ := st
    exact ⟨⟨old, k _ (by simp) _ he⟩, ZS.it_keep hi fun o q => k _ (by simp) o q⟩
  item := by
    intro X hP hw hK hc i pins s σ H E I hf st hg
    subst hP hw hK
    obtain ⟨⟨old, he⟩, hit⟩ := st
    obtain ⟨xs, hr, hlt⟩ := hg
    obtain ⟨c, hcl⟩ := cellOf I (I.ok.hd hc) hr hit lt (Nat.le_refl _)
    have D := hcl.dr
    have e1 := hcl.itE
    have stc := hcl.st
    rw [e1] at D
    have hel : N + 1 < s.heap.objs.size := Heap.lt_size he
    refine wpAny_pyNext_enum_itemC D he stc (by rw [hcl.nE]; exact hlt) (Nat.succ_ne_self N) (fun m => by rcases hcl.fpE _ m with e | e; exact Nat.succ_ne_self N e; exact Nat.lt_irrefl _ (Nat.lt_trans (Nat.lt_succ_self N) e)) fun x h' tk hP ho hs' hT hsz hk => ?_
    refine ⟨_, rfl, wpAny_letOwnedTupleGo_enum (s := { s with heap := h', toks := tk + 1 }) ho fun h'' he' sb => ?_⟩
    replace sb : Heap.SameBut (N + 1) h' h'' := sb
    obtain ⟨y, hy, ry⟩ := hcl.p _ _ hP
    have hT2 : h''.get? s.heap.objs.size = some { cls := .type "tuple", data := .seq #[.int (k0 + (i : Nat)) tk, x] } := (sb.2 _ (Nat.ne_of_gt hel)).trans hT
    have new : ObjOk X.prog X.w (upd H s.heap.objs.size (.tup [.int (k0 + (i : Nat)), y])) h'' s.heap.objs.size (.tup [.int (k0 + (i : Nat)), y]) :=
      ⟨by show 2 ≤ sizeLine; decide, [.int (k0 + (i : Nat)) tk, x], .cons ⟨_, rfl⟩ (.cons ry .nil), ⟨_, hT2, rfl, _, rfl⟩⟩
    have I1 : Inv X pins σ (upd H s.heap.objs.size (.tup [.int (k0 + (i : Nat)), y])) { s with heap := h'', toks := tk + 1 } :=
      I.turnedNew (ch := [N + 1, N]) (fun b ob hb q => (sb.2 b (fun z => hb (by simp [z]))).trans (hk b ob (fun z => hb (by simp [z])) (fun z => hb (by simp [z])) q)) hf (Nat.le_refl _) new
    refine ⟨.ref s.heap.objs.size, _, I1, rfl, ⟨_, y, rfl, I.hok.fresh (Nat.le_refl _), rfl, fun ys hy' => by rw [ZS.inj I hy' hr]; exact hy⟩, ⟨⟨x, ?_⟩, ZS.it_keep (hcl.back _ _ hs') fun o q => (sb.2 N (Nat.ne_of_lt (Nat.lt_succ_self N))).trans q⟩, fun b hb => ?_⟩
    · have e1 : k0 + ((i + 1 : Nat) : Int) = k0 + (i : Int) + 1 := by omega
      rw [e1]; exact he'
    · have hb' : b < s.heap.objs.size := by
        have e' : b = N + 1 ∨ b = N := by simpa using hb
        rcases e' with z | z
        · rw [z]; exact hel
        · rw [z]; exact Nat.lt_trans (Nat.lt_succ_self N) hel
      rw [upd_ne (Nat.ne_of_lt hb')]
      exact (hf b hb).1
  done := by
    intro X hP hw hK hc i pins s σ H E I hf st hg
    subst hP hw hK
    obtain ⟨⟨old, he⟩, hit⟩ := st
    obtain ⟨xs, hr, hend⟩ := hg
    obtain ⟨c, hcl⟩ := cellOf I (I.ok.hd hc) hr hit lt (Nat.le_refl _)
    have D := hcl.dr
    have e1 := hcl.itE
    have stc := hcl.st
    have en : c.n = i := hcl.nE.trans hend
    rw [e1, en] at D
    obtain ⟨f0, f1, f2, f3, f4, f5⟩ := hf N (by simp)
    exact wpAny_pyNext_enum_endD D he stc fun h' eb => ⟨rfl, I.turned (t' := s.toks) (fun b o hb q => eb b o hb q) f0 f1 f3 f4 f5⟩
  self := fun A i s Q E st h => by
    obtain ⟨⟨_, he⟩, _⟩ := st
    exact wpAny_pyIter_enum he h

/-- what an iterator over z is, just laid -/
def ZS.ob : ZS → Value → Obj
  | .l a, _ => { cls := .type "list_iterator", data := .fields #[.ref a, .int 0 0] }
  | .t a, _ => { cls := .type "tuple_iterator", data := .fields #[.ref a, .int 0 0] }
  | .s x, v => { cls := .type (strIterType x), data := .fields #[v, .int 0 0] }
theorem begins_z {h : Heap} {z : ZS} {v : Value} (q : ZV h z v) : ∃ B : Heap → Prop, B h ∧ Begins v (z.ob v) B := by
  cases z with
  | l a => obtain ⟨rfl, its, p⟩ := q; exact ⟨_, p, begins_list a its⟩
  | t a => obtain ⟨rfl, its, p⟩ := q; exact ⟨_, p, begins_tuple a its⟩
  | s x => obtain ⟨t, rfl⟩ := q; exact ⟨_, trivial, begins_text x t⟩
theorem ob_it {h : Heap} {z : ZS} {v : Value} {a : Addr} (q : ZV h z v) {h' : Heap} (e : h'.get? a = some (z.ob v)) : z.it a 0 h' := by
  cases z with
  | l a => exact ⟨_, e, rfl, rfl⟩
  | t a => exact ⟨_, e, rfl, rfl⟩
  | s x => obtain ⟨t, rfl⟩ := q; exact ⟨t, _, e, rfl, rfl⟩
theorem meets_enum1 {v : Value} {o : Obj} {H : Heap → Prop} (B : Begins v o H) :
    Meets (Builtin.«enumerate.__new__» ⟨[.type "enumerate", v], []⟩) (fun _ R s => H s.heap ∧
      R (.ok (.ret (.ref (s.heap.push o).objs.size))) { s with heap := (s.heap.push o).push { cls := .type "enumerate", data := .fields #[.none, .bool false, .ref s.heap.objs.size, rawInt 0, .none, .none] } }) :=
  .of_wp fun prog w A R s h => by
    obtain ⟨hp, g, d, tk, os⟩ := s; obtain ⟨h1, h⟩ := h
    have hsub := sub_enumerate
    have q1 : ∀ {A' : Around} {E : Value → Shared → Prop} {Q : Value → Shared → Prop}, Q (.ref hp.objs.size) ⟨hp.push o, g, d, tk, os⟩ → wpAny (model prog w) A' (pyIter v) Q E ⟨hp, g, d, tk, os⟩ :=
      fun q => B.iter prog w _ _ ⟨hp, g, d, tk, os⟩ _ h1 q
    wp_walk using q1
    refine wpAny_stack_any fun st => wpAny_pure ?_
    split
    · rename_i c _ _ _ _ _
      cases (c == Value.type "enumerate")
      · wp_walk using q1
        exact ⟨_, rfl, h⟩
      · wp_walk using q1
        exact ⟨_, rfl, h⟩
    · wp_walk using q1
      exact ⟨_, rfl, h⟩
section
variable {prog : Program} {w : World} {A : Around} {E : Value → Shared → Prop} {s : Shared}
theorem enum1_begins {v : Value} {o : Obj} {H : Heap → Prop} {Q : Value → Shared → Prop} (B : Begins v o H) (h1 : H s.heap)
    (h : ∀ h', IsEnum h' (s.heap.objs.size + 1) s.heap.objs.size 0 .none → h'.get? s.heap.objs.size = some o → h'.objs.size = s.heap.objs.size + 2 →
      (∀ b o, s.heap.get? b = some o → h'.get? b = some o) → Q (.ref (s.heap.objs.size + 1)) { s with heap := h' }) :
    wpAny (model prog w) A (call (.type "enumerate") [v]) Q E s := by
  refine callType_new F.called_enumerate (by decide) (F.typeCall_enumerate_1 _) (F.newCall_enumerate_1 _) (fun obj => F.args_object_init_2 obj _) F.entry_enumerate_new
    (meets_enum1 B) ⟨h1, ?_⟩
  have hz : (s.heap.push o).objs.size = s.heap.objs.size + 1 := Heap.size_push ..
  show _ ∧ _
  rw [hz]
  have he : IsEnum ((s.heap.push o).push { cls := .type "enumerate", data := .fields #[.none, .bool false, .ref s.heap.objs.size, rawInt 0, .none, .none] }) (s.heap.objs.size + 1) s.heap.objs.size 0 .none := by
    have := Heap.get?_push_size (s.heap.push o) (o := { cls := .type "enumerate", data := .fields #[.none, .bool false, .ref s.heap.objs.size, rawInt 0, .none, .none] }) rfl
    rw [hz] at this; exact this
  refine ⟨⟨_, he, rfl⟩, h _ he (Heap.get?_push_of_some _ (Heap.get?_push_size _ B.free)) (by rw [Heap.size_push, hz]) fun b o x => Heap.get?_push_of_some _ (Heap.get?_push_of_some _ x)⟩
end
section
variable {X : Cx} {pins : List (Addr × Obj)} {σ : L2.St} {H : Hp} {s : Shared}
theorem enum_pie {elts : List Expr} {kk : Nat} {tpos : Pos} {z : ZS} {v : Value} {k0 : Int} {h' : Heap} {R : It → Hp → Prop} {E : Value → Shared → Prop} (I : Inv X pins σ H s) (zv : ZV s.heap z v) (lt : z.below s.heap.objs.size)
    (he : IsEnum h' (s.heap.objs.size + 1) s.heap.objs.size k0 .none) (ho : h'.get? s.heap.objs.size = some (z.ob v)) (k : ∀ b o, s.heap.get? b = some o → h'.get? b = some o) (q : R (IteN X.K z k0) H) :
    wpAny (model X.prog X.w) X.A (pyIter (.ref (s.heap.objs.size + 1))) (PIE X pins σ (.Tuple elts kk tpos) R) E { s with heap := h' } := by
  refine wpAny_pyIter_enum he ?_
  refine ⟨s.heap.objs.size + 1, [s.heap.objs.size + 1, s.heap.objs.size], _, _, H, rfl, I.kept (t' := s.toks) k, turn_enumN lt, ⟨⟨.none, ?_⟩, ob_it zv ho⟩, fun b hb => ?_, q⟩
  · have : k0 + ((0 : Nat) : Int) = k0 := by simp
    rw [this]; exact he
  · have e' : b = s.heap.objs.size + 1 ∨ b = s.heap.objs.size := by simpa using hb
    have hle : s.heap.objs.size ≤ b := by
      rcases e' with z | z
      · rw [z]; exact Nat.le_add_right _ _
      · rw [z]; exact Nat.le_refl _
    exact I.fpOk hle (I.hok.fresh hle)
def iEnumN (K : PySem.W.Frag) (ta : TA) : TI := fun σ H R => ta σ H fun vs H1 => ∃ v z, vs = [v] ∧ Srcs K H1 [v] [z] ∧ R (IteN K z 0) H1
theorem pi_enumN {e : Expr} {ta : TA} {p pos tpos : Pos} {elts : List Expr} {kk : Nat} (hg : Gl X "enumerate") (hm : X.mg "enumerate" = none) (ha : M3.PA X [e] ta) (hs : starEach [e] X.env = [(false, eval e X.env)] := by rfl) :
    M3.PI X (.Tuple elts kk tpos) (.Call (.Name "enumerate" p) [e] [] pos) (iEnumN X.K ta) := by
  refine ⟨fun pins s σ H R n I h => ?_⟩
  refine Call_ (ld_blt I hg hm boot_enumerate (PyProof.Rows.callWith_type1 (ha.go n I h fun us s1 vs H1 n1 I1 r1 ⟨v, z, ev, hS, q⟩ => ?_) hs rfl))
  subst ev
  obtain ⟨p, lt⟩ := hS.zv I1 r1
  cases p with
  | cons zv r =>
    cases r
    obtain ⟨B, b1, b2⟩ := begins_z zv
    exact enum1_begins b2 b1 fun h' he ho hz k => enum_pie I1 zv (lt z List.mem_cons_self) he ho k q
def iEnumK (K : PySem.W.Frag) (ta : TA) : TI := fun σ H R => ta σ H fun vs H1 => ∃ v z k, vs = [v, .int k] ∧ Srcs K H1 [v] [z] ∧ -(2 ^ 63) ≤ k ∧ k < 2 ^ 63 ∧ R (IteN K z k) H1
theorem pi_enumK {e e2 : Expr} {ta : TA} {p pos tpos : Pos} {elts : List Expr} {kk : Nat} (hg : Gl X "enumerate") (hm : X.mg "enumerate" = none) (ha : M3.PA X [e, e2] ta)
    (hs : starEach [e, e2] X.env = (false, eval e X.env) :: starEach [e2] X.env := by rfl) (hpl : (backTo pos (starEach [e2] X.env)).any (·.1) = false := by rfl) :
    M3.PI X (.Tuple elts kk tpos) (.Call (.Name "enumerate" p) [e, e2] [] pos) (iEnumK X.K ta) := by
  refine ⟨fun pins s σ H R n I h => ?_⟩
  refine Call_ (ld_blt I hg hm boot_enumerate (PyProof.Rows.callWith_type1 (ha.go n I h fun us s1 vs H1 n1 I1 r1 ⟨v, z, k, ev, hS, k0, k1, q⟩ => ?_) hs hpl))
  subst ev
  cases r1 with
  | cons rv r =>
    cases r with
    | cons rk r =>
      cases r
      obtain ⟨t, rfl⟩ := rk
      obtain ⟨p, lt⟩ := hS.zv I1 (.cons rv .nil)
      cases p with
      | cons zv r =>
        cases r
        obtain ⟨B, b1, b2⟩ := begins_z zv
        exact enum_begins b2 b1 k0 k1 fun h' he ho hz k => enum_pie I1 zv (lt z List.mem_cons_self) he ho k q
end
end ZN
/-! M3, part g: what is walked; for, while; things of the frame's own. -/
namespace M3
open PySem PySem.Spec PyProof.Rows L2

/-! ### what is walked -/
/-- J gives ts, as long as what was there at the start stays -/
def Walk (K : PySem.W.Frag) (J : It) (W : Addr → Prop) (H : Hp) (ts : List T) : Prop := ∀ W' H', Fut W H W' H' → Muts W' H' →
  (∀ i, i < ts.length → J.go i H' ∧ ∀ x H2, J.yld i H' x H2 → Same H' H2 ∧ ∃ t, ts[i]? = some t ∧ Is K W' H2 x t) ∧ J.stop ts.length H'
abbrev IM := EnvM → R (List T × EnvM)
def PstI (D : Dat) (G : Gh) (W M : Addr → Prop) (σ : L2.St) (H : Hp) (Q : It → Hp → Prop) : R (List T × EnvM) → Prop
  | .ok (ts, env') => ∀ J H', Ev M H H' → RE D.K G W M σ H' env' → Walk D.K J W H' ts → Q J H'
  | .ex c t => ExW D W M H c t
  | .no => False
def TIok (D : Dat) (m : IM) (ti : L2.TI) : Prop := ∀ G W M σ H env, RE D.K G W M σ H env → ∀ Q, PstI D G W M σ H Q (m env) → ti σ H Q
def MI (D : Dat) (tg e : Expr) (m : IM) : Prop := ∃ ti, (∀ v, D.Good v → PI (D.cx v) tg e ti) ∧ TIok D m ti

section
variable {K : PySem.W.Frag} {W W' : Addr → Prop} {H H' : Hp}
theorem IsL.get' : ∀ {vs : List V} {ts : List T} {i : Nat} {v : V}, IsL K W H vs ts → vs[i]? = some v → ∃ t, ts[i]? = some t ∧ Is K W H v t
  | _, _, _, _, .nil, e => by simp at e
  | _, _, 0, _, .cons q _, e => by simp at e; subst e; exact ⟨_, rfl, q⟩
  | _, _, i + 1, v, .cons _ l, e => by
    obtain ⟨t, h1, h2⟩ := IsL.get' (i := i) (v := v) l (by simpa using e)
    exact ⟨t, by simpa using h1, h2⟩
theorem walk_l {a : Addr} {xs : List V} {ts : List T} (m : Muts W H) (h : ∀ W' H', Fut W H W' H' → Muts W' H' → SqL K H' a xs) (l : IsL K W H xs ts) : Walk K (Itl K a) W H ts := by
  intro W' H' f m'
  have hx := h W' H' f m'
  have l' := l.fut f m
  refine ⟨fun i hi => ?_, ⟨xs, hx, by rw [l'.length]; exact Nat.le_refl _⟩⟩
  have hi' : i < xs.length := by rw [l'.length]; exact hi
  refine ⟨⟨xs, xs[i], hx, List.getElem?_eq_getElem hi'⟩, fun x H2 y => ?_⟩
  obtain ⟨rfl, y⟩ := y
  exact ⟨Same.refl _, l'.get' (y xs hx)⟩
theorem walk_t {a : Addr} {xs : List V} {ts : List T} (m : Muts W H) (h : SqT K H a xs) (l : IsL K W H xs ts) : Walk K (Itt K a) W H ts := by
  intro W' H' f m'
  have hx := SqT.fut f m h
  have l' := l.fut f m
  refine ⟨fun i hi => ?_, ⟨xs, hx, by rw [l'.length]; exact Nat.le_refl _⟩⟩
  have hi' : i < xs.length := by rw [l'.length]; exact hi
  refine ⟨⟨xs, xs[i], hx, List.getElem?_eq_getElem hi'⟩, fun x H2 y => ?_⟩
  obtain ⟨rfl, y⟩ := y
  exact ⟨Same.refl _, l'.get' (y xs hx)⟩
def chars : List Nat → List T
  | [] => []
  | c :: cs => .str [c] :: chars cs
theorem chars_len : ∀ {cs : List Nat}, (chars cs).length = cs.length
  | [] => rfl
  | _ :: _ => congrArg (· + 1) chars_len
theorem chars_get : ∀ {cs : List Nat} {i : Nat} {c : Nat}, cs[i]? = some c → (chars cs)[i]? = some (.str [c])
  | _ :: _, 0, _, h => by simp at h; subst h; rfl
  | _ :: cs, i + 1, c, h => by
    have := chars_get (cs := cs) (i := i) (c := c) (by simpa using h)
    simpa [chars] using this
theorem is_char {cs : List Nat} (hk : okS cs = true) {i c : Nat} (h : cs[i]? = some c) : Is K W H (.str ⟨#[c]⟩) (.str [c]) :=
  .str [c] (okS_of (by rw [sizeLine_eq]; exact (by decide : 1 ≤ 16777216)) fun d hd => by
    have : d = c := List.mem_singleton.mp hd
    subst this
    exact okS_all hk _ (List.mem_of_getElem? h))
theorem walk_s {cs : List Nat} (hk : okS cs = true) : Walk K (Its ⟨cs.toArray⟩) W H (chars cs) := by
  intro W' H' f m'
  have e : (⟨cs.toArray⟩ : Str).cps.size = cs.length := by simp
  refine ⟨fun i hi => ?_, by show _ ≤ _; rw [e, chars_len]; exact Nat.le_refl _⟩
  rw [chars_len] at hi
  refine ⟨by show i < _; rw [e]; exact hi, fun x H2 y => ?_⟩
  obtain ⟨rfl, c, hc, rfl⟩ := y
  have hc' : cs[i]? = some c := by simpa using hc
  exact ⟨Same.refl _, _, chars_get hc', is_char hk hc'⟩
end
section
variable {D : Dat} {e e2 a b c tg : Expr} {m ma mb mc : XM} {tm : TM} {pos : Pos} {st : Stmt} {sts sts2 : List Stmt} {ms ms2 : SM}
/-- a list, a tuple, a text walked -/
def iAny (K : PySem.W.Frag) (te : TE) : L2.TI := fun σ H R => te σ H fun x H1 => (∃ a, x = .ref a ∧ (∃ xs, SqL K H1 a xs) ∧ R (Itl K a) H1) ∨ (∃ a, x = .ref a ∧ (∃ xs, SqT K H1 a xs) ∧ R (Itt K a) H1) ∨ ∃ z, x = .str z ∧ R (Its z) H1
theorem pi_any {X : Cx} {te : TE} (he : PE X e te) : PI X tg e (iAny X.K te) := by
  refine ⟨fun pins s σ H R n I h => ?_⟩
  refine he.go n I h fun v s1 x H1 n1 I1 r1 q1 => ?_
  rcases q1 with ⟨a, rfl, hq, q⟩ | ⟨a, rfl, hq, q⟩ | ⟨z, rfl, q⟩
  · cases r1
    obtain ⟨xs, hx⟩ := hq
    obtain ⟨its, rv, pl, _⟩ := I1.list hx
    exact wpAny_pyIter_list pl.isList (pi_one (tk := s1.toks) I1 _ (turn_list a _) ⟨_, Heap.get?_push_size _ rfl, rfl, rfl⟩ q)
  · cases r1
    obtain ⟨xs, hx⟩ := hq
    obtain ⟨its, rv, pl, _⟩ := I1.tuple hx
    exact wpAny_pyIter_tuple (show s1.heap.IsTuple a its.toArray from pl) (pi_one (tk := s1.toks) I1 _ (turn_tuple a _) ⟨_, Heap.get?_push_size _ rfl, rfl, rfl⟩ q)
  · obtain ⟨t, rfl⟩ := r1
    cases ha : z.cps.all (· < 128)
    · exact wpAny_pyIter_wide ha (pi_one (tk := s1.toks) I1 _ (turn_str _ z t "str_iterator" (.inr rfl)) ⟨_, Heap.get?_push_size _ rfl, rfl, rfl⟩ q)
    · exact wpAny_pyIter_ascii ha (pi_one (tk := s1.toks) I1 _ (turn_str _ z t "str_ascii_iterator" (.inl rfl)) ⟨_, Heap.get?_push_size _ rfl, rfl, rfl⟩ q)
/-- the items of a list, a tuple, a text -/
@[simp] def itemsT : T → R (List T)
  | .lst ts => .ok ts
  | .frz ts => .ok ts
  | .tup ts => .ok ts
  | .str cs => .ok (chars cs)
  | _ => .no
@[simp] def iAnyM (m : XM) : IM := fun env => (m env).bind fun (t, e1) => (itemsT t).bind fun ts => .ok (ts, e1)
theorem mi_any (h : ME D e m) : MI D tg e (iAnyM m) := by
  obtain ⟨t, p, k⟩ := h
  refine ⟨iAny D.K t, fun v g => pi_any (p v g), fun G W M σ H env re Q q => ?_⟩
  refine pst_bind (P := PstI D G W M σ H Q) k re (fun c t h => h) (fun h => h) q fun b e1 x H1 ev1 re1 i1 q1 => ?_
  dsimp only at q1
  unfold itemsT at q1
  split at q1
  · cases i1 with
    | lst n hx l => exact .inl ⟨_, rfl, ⟨_, .of hx⟩, q1 _ H1 ev1 re1 (walk_l re1.muts (fun W' H' f m' => .of (f.keep _ _ hx n)) l)⟩
  · cases i1 with
    | frz hx l => exact .inl ⟨_, rfl, ⟨_, hx.seq⟩, q1 _ H1 ev1 re1 (walk_l re1.muts (fun W' H' f m' => (hx.fut f).seq) l)⟩
  · cases i1 with
    | tup hx l => exact .inr (.inl ⟨_, rfl, ⟨_, hx⟩, q1 _ H1 ev1 re1 (walk_t re1.muts hx l)⟩)
  · cases i1 with
    | str cs hk => exact .inr (.inr ⟨_, rfl, q1 _ H1 ev1 re1 (walk_s hk)⟩)
  · exact (q1 : False).elim
/-! range -/
def upto : Int → Nat → List T
  | _, 0 => []
  | i, n + 1 => .int i :: upto (i + 1) n
theorem upto_len : ∀ {n : Nat} {i : Int}, (upto i n).length = n
  | 0, _ => rfl
  | n + 1, _ => congrArg (· + 1) upto_len
theorem upto_get : ∀ {n : Nat} {i : Int} {j : Nat}, j < n → (upto i n)[j]? = some (.int (i + (j : Nat)))
  | n + 1, i, 0, _ => by simp [upto]
  | n + 1, i, j + 1, h => by
    have := upto_get (n := n) (i := i + 1) (j := j) (by omega)
    simp only [upto, List.getElem?_cons_succ, this]
    congr 2
    omega
theorem walk_r {K : PySem.W.Frag} {W : Addr → Prop} {H : Hp} {i : Int} {n : Nat} : Walk K (Itr i n) W H (upto i n) := by
  intro W' H' f m'
  refine ⟨fun j hj => ?_, by show n ≤ _; rw [upto_len]; exact Nat.le_refl _⟩
  rw [upto_len] at hj
  refine ⟨hj, fun x H2 y => ?_⟩
  obtain ⟨rfl, rfl⟩ := y
  exact ⟨Same.refl _, _, upto_get hj, .int _⟩
def small62 (j : Int) : Bool := Nat.blt j.natAbs 4611686018427387904
theorem small62_of {j : Int} (h : small62 j = true) : -(2 ^ 62) ≤ j ∧ j < 2 ^ 62 := by
  unfold small62 at h
  have : j.natAbs < 4611686018427387904 := Nat.le_of_ble_eq_true h
  exact ⟨by omega, by omega⟩
def rng1 : List T → R (List T)
  | [.int j] => if small62 j then .ok (upto 0 j.toNat) else .no
  | _ => .no
@[simp] def rng2 : List T → R (List T)
  | [.int i, .int j] => if small62 i && small62 j then .ok (upto i (j - i).toNat) else .no
  | _ => .no
@[simp] def iArg (f : List T → R (List T)) (m : AM) : IM := fun env => (m env).bind fun (ts, e1) => (f ts).bind fun r => .ok (r, e1)
theorem isInt {K : PySem.W.Frag} {W : Addr → Prop} {H : Hp} {v : V} {i : Int} (h : Is K W H v (.int i)) : v = .int i := by cases h; rfl
theorem mi_range1 {am : AM} {p : Pos} (hg : D.sc.names.lookup (Str.ofString "range") = some .globalImplicit) (hm : D.mg "range" = none) (ha : MA D [a] am) (hs : ∀ env, starEach [a] env = [(false, eval a env)] := by exact fun _ => rfl) :
    MI D tg (.Call (.Name "range" p) [a] [] pos) (iArg rng1 am) := by
  obtain ⟨t, pa, k⟩ := ha
  refine ⟨iRng1 t, fun v g => pi_range1 (X := D.cx v) hg hm (pa v g) (hs _), fun G W M σ H env re Q q => ?_⟩
  refine pstA_bind (P := PstI D G W M σ H Q) k re (fun c t h => h) (fun h => h) q fun ts e1 vs H1 ev1 re1 i1 q1 => ?_
  dsimp only at q1
  unfold rng1 at q1
  split at q1
  · rename_i j
    cases i1 with
    | cons h1 r =>
      cases r
      cases isInt h1
      by_cases hj : small62 j = true
      · rw [if_pos hj] at q1
        obtain ⟨a1, a2⟩ := small62_of hj
        exact ⟨j, rfl, a1, a2, q1 _ H1 ev1 re1 walk_r⟩
      · rw [if_neg hj] at q1; exact (q1 : False).elim
  · exact (q1 : False).elim
theorem mi_range2 {am : AM} {p : Pos} (hg : D.sc.names.lookup (Str.ofString "range") = some .globalImplicit) (hm : D.mg "range" = none) (ha : MA D [a, b] am) (hs : ∀ env, starEach [a, b] env = [(false, eval a env), (false, eval b env)] := by exact fun _ => rfl) (hs2 : ∀ env, starEach [b] env = [(false, eval b env)] := by exact fun _ => rfl) :
    MI D tg (.Call (.Name "range" p) [a, b] [] pos) (iArg rng2 am) := by
  obtain ⟨t, pa, k⟩ := ha
  refine ⟨iRng2 t, fun v g => pi_range2 (X := D.cx v) hg hm (pa v g) (hs _) (hs2 _), fun G W M σ H env re Q q => ?_⟩
  refine pstA_bind (P := PstI D G W M σ H Q) k re (fun c t h => h) (fun h => h) q fun ts e1 vs H1 ev1 re1 i1 q1 => ?_
  dsimp only at q1
  unfold rng2 at q1
  split at q1
  · rename_i i j
    cases i1 with
    | cons h1 r =>
      cases r with
      | cons h2 r =>
      cases r
      cases isInt h1
      cases isInt h2
      by_cases hj : (small62 i && small62 j) = true
      · rw [if_pos hj] at q1
        obtain ⟨a1, a2⟩ := small62_of (Bool.and_eq_true_iff.mp hj).1
        obtain ⟨a3, a4⟩ := small62_of (Bool.and_eq_true_iff.mp hj).2
        exact ⟨i, j, rfl, ⟨a1, a2, a3, a4⟩, q1 _ H1 ev1 re1 walk_r⟩
      · rw [if_neg hj] at q1; exact (q1 : False).elim
  · exact (q1 : False).elim
/-! zip, enumerate -/
open ZN (ZS Srcs ItzN IteN)
/-- the items of a source -/
def ZI (K : PySem.W.Frag) (W : Addr → Prop) (H : Hp) (z : ZS) (ts : List T) : Prop := ∀ W' H', Fut W H W' H' → Muts W' H' → ∃ xs, z.rd K H' xs ∧ IsL K W' H' xs ts
theorem chars_v {cs : List Nat} {K : PySem.W.Frag} {W : Addr → Prop} {H : Hp} (hk : ∀ c ∈ cs, c < 1114112) : IsL K W H (cs.map fun c => V.str ⟨#[c]⟩) (chars cs) := by
  induction cs with
  | nil => exact .nil
  | cons c cs ih =>
    refine .cons (.str [c] (okS_of (by rw [sizeLine_eq]; exact (by decide : 1 ≤ 16777216)) fun d hd => ?_)) (ih fun d hd => hk d (List.mem_cons_of_mem _ hd))
    have : d = c := List.mem_singleton.mp hd
    subst this
    exact hk _ List.mem_cons_self
theorem zsrc {K : PySem.W.Frag} {W : Addr → Prop} {H : Hp} (m : Muts W H) {v : V} {t : T} {ts : List T} (i : Is K W H v t) (e : itemsT t = .ok ts) : ∃ z, (∀ {vs zs}, Srcs K H vs zs → Srcs K H (v :: vs) (z :: zs)) ∧ ZI K W H z ts := by
  unfold itemsT at e
  split at e
  · cases e
    cases i with
    | lst n hx l => exact ⟨.l _, fun r => .l (.of hx) r, fun W' H' f m' => ⟨_, .of (f.keep _ _ hx n), l.fut f m⟩⟩
  · cases e
    cases i with
    | frz hx l => exact ⟨.l _, fun r => .l hx.seq r, fun W' H' f m' => ⟨_, (hx.fut f).seq, l.fut f m⟩⟩
  · cases e
    cases i with
    | tup hx l => exact ⟨.t _, fun r => .t hx r, fun W' H' f m' => ⟨_, SqT.fut f m hx, l.fut f m⟩⟩
  · cases e
    cases i with
    | str cs hk => exact ⟨.s _, fun r => .s r, fun W' H' f m' => ⟨_, by show _ = _; rfl, by simpa using chars_v (okS_all hk)⟩⟩
  · cases e
@[simp] def itemsTs : List T → R (List (List T))
  | [] => .ok []
  | t :: ts => (itemsT t).bind fun x => (itemsTs ts).bind fun xs => .ok (x :: xs)
theorem zsrcs {K : PySem.W.Frag} {W : Addr → Prop} {H : Hp} (m : Muts W H) : ∀ {vs : List V} {ts : List T} {tss : List (List T)}, IsL K W H vs ts → itemsTs ts = .ok tss → ∃ zs, Srcs K H vs zs ∧ Paired (ZI K W H) zs tss
  | _, _, _, .nil, e => by cases e; exact ⟨[], .nil, .nil⟩
  | _, _, _, .cons (t := t) (ts := ts) i l, e => by
    simp only [itemsTs] at e
    cases h1 : itemsT t with
    | ok x =>
      rw [h1] at e
      cases h2 : itemsTs ts with
      | ok xs =>
        simp only [R.bind, h2] at e
        cases e
        obtain ⟨z, q1, q2⟩ := zsrc m i h1
        obtain ⟨zs, q3, q4⟩ := zsrcs m l h2
        exact ⟨z :: zs, q1 q3, .cons q2 q4⟩
      | ex c t => simp only [R.bind, h2] at e; cases e
      | no => simp only [R.bind, h2] at e; cases e
    | ex c t => rw [h1] at e; cases e
    | no => rw [h1] at e; cases e
/-- the i-th of each, while all have one -/
def headsT : List (List T) → Option (List T × List (List T))
  | [] => some ([], [])
  | (t :: ts) :: r => match headsT r with
    | some (hs, tl) => some (t :: hs, ts :: tl)
    | none => none
  | [] :: _ => none
def zipN : Nat → List (List T) → List T
  | 0, _ => []
  | n + 1, tss => match headsT tss with
    | some (hs, tl) => .tup hs :: zipN n tl
    | none => []
inductive Hd : List (List T) → List T → List (List T) → Prop
  | nil : Hd [] [] []
  | cons {t : T} {ts hs : List T} {r tl : List (List T)} : Hd r hs tl → Hd ((t :: ts) :: r) (t :: hs) (ts :: tl)
theorem heads_some : ∀ {tss tl : List (List T)} {hs : List T}, headsT tss = some (hs, tl) → Hd tss hs tl
  | [], _, _, h => by simp only [headsT] at h; cases h; exact .nil
  | [] :: _, _, _, h => by simp only [headsT] at h; cases h
  | (t :: ts) :: r, tl, hs, h => by
    simp only [headsT] at h
    cases z : headsT r with
    | none => rw [z] at h; cases h
    | some w =>
      obtain ⟨hs', tl'⟩ := w
      rw [z] at h
      cases h
      exact .cons (heads_some z)
theorem heads_none : ∀ {tss : List (List T)}, headsT tss = none → [] ∈ tss
  | [], h => by simp only [headsT] at h; cases h
  | [] :: _, _ => List.mem_cons_self
  | (t :: ts) :: r, h => by
    simp only [headsT] at h
    cases z : headsT r with
    | none => exact List.mem_cons_of_mem _ (heads_none z)
    | some w => obtain ⟨hs', tl'⟩ := w; rw [z] at h; cases h
theorem Hd.zero : ∀ {tss tl : List (List T)} {hs : List T}, Hd tss hs tl → Paired (fun (ts : List T) h => ts[0]? = some h) tss hs
  | _, _, _, .nil => .nil
  | _, _, _, .cons r => .cons rfl r.zero
theorem Hd.succ {i : Nat} : ∀ {tss tl : List (List T)} {hs us : List T}, Hd tss hs tl → Paired (fun (ts : List T) h => ts[i]? = some h) tl us → Paired (fun (ts : List T) h => ts[i + 1]? = some h) tss us
  | _, _, _, _, .nil, .nil => .nil
  | _, _, _, _, .cons r, .cons q qs => .cons (by simpa using q) (r.succ qs)
theorem Hd.mem : ∀ {tss tl : List (List T)} {hs : List T}, Hd tss hs tl → ∀ ts ∈ tss, ∃ us ∈ tl, ts.length = us.length + 1
  | _, _, _, .nil, _, h => nomatch h
  | _, _, _, .cons r, x, h => by
    rcases List.mem_cons.mp h with rfl | h
    · exact ⟨_, List.mem_cons_self, rfl⟩
    · obtain ⟨us, h1, h2⟩ := r.mem x h
      exact ⟨us, List.mem_cons_of_mem _ h1, h2⟩
theorem Hd.mem' : ∀ {tss tl : List (List T)} {hs : List T}, Hd tss hs tl → ∀ us ∈ tl, ∃ ts ∈ tss, ts.length = us.length + 1
  | _, _, _, .nil, _, h => nomatch h
  | _, _, _, .cons r, x, h => by
    rcases List.mem_cons.mp h with rfl | h
    · exact ⟨_, List.mem_cons_self, rfl⟩
    · obtain ⟨us, h1, h2⟩ := r.mem' x h
      exact ⟨us, List.mem_cons_of_mem _ h1, h2⟩
theorem zip_get : ∀ {n : Nat} {tss : List (List T)} {i : Nat}, i < (zipN n tss).length → ∃ hs, (zipN n tss)[i]? = some (.tup hs) ∧ Paired (fun (ts : List T) h => ts[i]? = some h) tss hs
  | 0, tss, i, h => by simp [zipN] at h
  | n + 1, tss, i, h => by
    simp only [zipN] at h ⊢
    cases z : headsT tss with
    | none => rw [z] at h; simp at h
    | some w =>
      obtain ⟨hs, tl⟩ := w
      rw [z] at h
      have hd := heads_some z
      cases i with
      | zero => exact ⟨hs, rfl, hd.zero⟩
      | succ i =>
        obtain ⟨us, h1, h2⟩ := zip_get (n := n) (tss := tl) (i := i) (by simpa using h)
        exact ⟨us, by simpa using h1, hd.succ h2⟩
theorem zip_end : ∀ {n : Nat} {tss : List (List T)}, (∃ ts ∈ tss, ts.length ≤ n) → (∀ ts ∈ tss, (zipN n tss).length ≤ ts.length) ∧ ∃ ts ∈ tss, ts.length = (zipN n tss).length
  | 0, tss, ⟨ts, h1, h2⟩ => ⟨fun _ _ => Nat.zero_le _, ts, h1, Nat.le_antisymm h2 (Nat.zero_le _)⟩
  | n + 1, tss, ⟨ts, h1, h2⟩ => by
    simp only [zipN]
    cases z : headsT tss with
    | none => exact ⟨fun _ _ => Nat.zero_le _, [], heads_none z, rfl⟩
    | some w =>
      obtain ⟨hs, tl⟩ := w
      have hd := heads_some z
      obtain ⟨us, g1, g2⟩ := hd.mem ts h1
      obtain ⟨r1, vs, r2, r3⟩ := zip_end (n := n) (tss := tl) ⟨us, g1, by omega⟩
      refine ⟨fun x hx => ?_, ?_⟩
      · obtain ⟨ys, k1, k2⟩ := hd.mem x hx
        have := r1 ys k1
        simp only [List.length_cons]
        omega
      · obtain ⟨ys, k1, k2⟩ := hd.mem' vs r2
        exact ⟨ys, k1, by simp only [List.length_cons]; omega⟩
def zipT (tss : List (List T)) : List T := match tss with
  | [] => []
  | t :: r => zipN t.length (t :: r)
theorem rd_all {K : PySem.W.Frag} {W W' : Addr → Prop} {H H' : Hp} (f : Fut W H W' H') (m : Muts W' H') : ∀ {zs : List ZS} {tss : List (List T)}, Paired (ZI K W H) zs tss → ∃ xss, Paired (fun z xs => ZS.rd K H' z xs) zs xss ∧ Paired (fun xs ts => IsL K W' H' xs ts) xss tss
  | _, _, .nil => ⟨[], .nil, .nil⟩
  | _, _, .cons q qs => by
    obtain ⟨xs, h1, h2⟩ := q _ _ f m
    obtain ⟨xss, h3, h4⟩ := rd_all f m qs
    exact ⟨xs :: xss, .cons h1 h3, .cons h2 h4⟩
theorem paired_mem {α β : Type} {F : α → β → Prop} : ∀ {l : List α} {r : List β}, Paired F l r → ∀ x ∈ l, ∃ y ∈ r, F x y
  | _, _, .nil, _, h => nomatch h
  | _, _, .cons q qs, x, h => by
    rcases List.mem_cons.mp h with rfl | h
    · exact ⟨_, List.mem_cons_self, q⟩
    · obtain ⟨y, h1, h2⟩ := paired_mem qs x h
      exact ⟨y, List.mem_cons_of_mem _ h1, h2⟩
theorem paired_mem' {α β : Type} {F : α → β → Prop} : ∀ {l : List α} {r : List β}, Paired F l r → ∀ y ∈ r, ∃ x ∈ l, F x y
  | _, _, .nil, _, h => nomatch h
  | _, _, .cons q qs, y, h => by
    rcases List.mem_cons.mp h with rfl | h
    · exact ⟨_, List.mem_cons_self, q⟩
    · obtain ⟨x, h1, h2⟩ := paired_mem' qs y h
      exact ⟨x, List.mem_cons_of_mem _ h1, h2⟩
theorem cols_is {K : PySem.W.Frag} {W : Addr → Prop} {H : Hp} {i : Nat} : ∀ {xss : List (List V)} {tss : List (List T)} {ys : List V} {hs : List T}, Paired (fun xs ts => IsL K W H xs ts) xss tss → Paired (fun (xs : List V) y => xs[i]? = some y) xss ys → Paired (fun (ts : List T) h => ts[i]? = some h) tss hs → IsL K W H ys hs
  | _, _, _, _, .nil, .nil, .nil => .nil
  | _, _, _, _, .cons q qs, .cons a as, .cons b bs => by
    obtain ⟨t, h1, h2⟩ := q.get' a
    rw [b] at h1
    cases h1
    exact .cons h2 (cols_is qs as bs)
theorem walk_z {K : PySem.W.Frag} {W : Addr → Prop} {H : Hp} {zs : List ZS} {tss : List (List T)} (p : Paired (ZI K W H) zs tss) (hne : tss ≠ []) : Walk K (ItzN K zs) W H (zipT tss) := by
  intro W' H' f m'
  obtain ⟨xss, r1, r2⟩ := rd_all f m' p
  have hs : ∃ ts ∈ tss, ts.length ≤ (tss.headD []).length := by
    cases tss with
    | nil => exact (hne rfl).elim
    | cons t r => exact ⟨t, List.mem_cons_self, Nat.le_refl _⟩
  have ez : zipT tss = zipN (tss.headD []).length tss := by
    cases tss with
    | nil => exact (hne rfl).elim
    | cons t r => rfl
  rw [ez]
  obtain ⟨e1, e2⟩ := zip_end hs
  refine ⟨fun i hi => ⟨⟨xss, r1, fun xs hx => ?_⟩, fun x H2 y => ?_⟩, xss, r1, fun xs hx => ?_, ?_⟩
  · obtain ⟨ts, h1, h2⟩ := paired_mem r2 xs hx
    rw [h2.length]
    exact Nat.lt_of_lt_of_le hi (e1 ts h1)
  · obtain ⟨Tt, ys, rfl, hT, rfl, hy⟩ := y
    obtain ⟨hs, g1, g2⟩ := zip_get hi
    exact ⟨same_upd hT, _, g1, .tup (.of upd_same) ((cols_is r2 (hy xss r1) g2).same (same_upd hT) m')⟩
  · obtain ⟨ts, h1, h2⟩ := paired_mem r2 xs hx
    rw [h2.length]
    exact e1 ts h1
  · obtain ⟨ts, h1, h2⟩ := e2
    obtain ⟨xs, g1, g2⟩ := paired_mem' r2 ts h1
    exact ⟨xs, g1, g2.length.trans h2⟩
@[simp] def zipA (ts : List T) : R (List T) := if ts.isEmpty || !Nat.ble ts.length 7 then .no else (itemsTs ts).bind fun tss => .ok (zipT tss)
theorem zipA_ok {ts r : List T} (h : zipA ts = .ok r) : ts ≠ [] ∧ ts.length ≤ 7 ∧ ∃ tss, itemsTs ts = .ok tss ∧ r = zipT tss := by
  unfold zipA at h
  split at h
  · cases h
  · rename_i hc
    simp only [Bool.not_eq_true, Bool.or_eq_false_iff, Bool.not_eq_false'] at hc
    refine ⟨fun z => by subst z; simp at hc, Nat.le_of_ble_eq_true hc.2, ?_⟩
    cases z : itemsTs ts with
    | ok tss => rw [z] at h; cases h; exact ⟨tss, rfl, rfl⟩
    | ex c t => rw [z] at h; cases h
    | no => rw [z] at h; cases h
theorem zipA_tame {ts : List T} {c : String} {t : T} : zipA ts ≠ .ex c t := by
  intro h
  unfold zipA at h
  split at h
  · cases h
  · cases z : itemsTs ts with
    | ok tss => rw [z] at h; cases h
    | no => rw [z] at h; cases h
    | ex c' t' =>
      have : ∀ {ts : List T} {c' t'}, itemsTs ts ≠ .ex c' t' := by
        intro ts
        induction ts with
        | nil => intro c' t' h; cases h
        | cons t ts ih =>
          intro c' t' h
          simp only [itemsTs] at h
          cases z1 : itemsT t with
          | ok x =>
            rw [z1] at h
            cases z2 : itemsTs ts with
            | ok xs => simp only [R.bind, z2] at h; cases h
            | ex c2 t2 => exact ih z2
            | no => simp only [R.bind, z2] at h; cases h
          | ex c2 t2 =>
            unfold itemsT at z1
            split at z1 <;> cases z1
          | no => rw [z1] at h; cases h
      exact this z
theorem zip_src {K : PySem.W.Frag} {W : Addr → Prop} {H : Hp} (m : Muts W H) {vs : List V} {ts r : List T} (l : IsL K W H vs ts) (h : zipA ts = .ok r) : ∃ zs, Srcs K H vs zs ∧ zs ≠ [] ∧ zs.length ≤ 7 ∧ Walk K (ItzN K zs) W H r := by
  obtain ⟨h1, h2, tss, h3, rfl⟩ := zipA_ok h
  obtain ⟨zs, q1, q2⟩ := zsrcs m l h3
  have e1 := q1.len
  have e2 := l.length
  have e3 : zs.length = tss.length := Paired.length q2
  refine ⟨zs, q1, fun z => h1 (by subst z; exact List.length_eq_zero_iff.mp (by rw [← e2, e1]; rfl)), by omega, walk_z q2 fun z => h1 (by subst z; exact List.length_eq_zero_iff.mp (by rw [← e2, e1, e3]; rfl))⟩
theorem mi_zip {am : AM} {es : List Expr} {p : Pos} (hg : D.sc.names.lookup (Str.ofString "zip") = some .globalImplicit) (hm : D.mg "zip" = none) (ha : MA D (a :: es) am) (hs : ∀ env, starEach (a :: es) env = (false, eval a env) :: starEach es env := by exact fun _ => rfl) (hpl : ∀ env, (backTo pos (starEach es env)).any (·.1) = false := by exact fun _ => rfl) :
    MI D tg (.Call (.Name "zip" p) (a :: es) [] pos) (iArg zipA am) := by
  obtain ⟨t, pa, k⟩ := ha
  refine ⟨ZN.iZipN D.K t, fun v g => ZN.pi_zipN (X := D.cx v) hg hm (pa v g) (hs _) (hpl _), fun G W M σ H env re Q q => ?_⟩
  refine pstA_bind (P := PstI D G W M σ H Q) k re (fun c t h => h) (fun h => h) q fun ts e1 vs H1 ev1 re1 i1 q1 => ?_
  dsimp only at q1
  cases z : zipA ts with
  | ok r =>
    rw [z] at q1
    obtain ⟨zs, h1, h2, h3, h4⟩ := zip_src re1.muts i1 z
    exact ⟨zs, h1, h2, h3, q1 _ H1 ev1 re1 h4⟩
  | ex c t => exact (zipA_tame z).elim
  | no => rw [z] at q1; exact (q1 : False).elim
def iZs (m : XM) : IM := fun env => (m env).bind fun (t, e1) => match t with
  | .tup ts => (zipA ts).bind fun r => .ok (r, e1)
  | .lst ts => (zipA ts).bind fun r => .ok (r, e1)
  | _ => .no
theorem mi_zipS {p sp : Pos} (hg : D.sc.names.lookup (Str.ofString "zip") = some .globalImplicit) (hm : D.mg "zip" = none) (h : MB D a m) (hst : ∀ env, starEach [.Starred a sp] env = [(true, eval a env)] := by exact fun _ => rfl) :
    MI D tg (.Call (.Name "zip" p) [.Starred a sp] [] pos) (iZs m) := by
  obtain ⟨t, pa, k⟩ := h
  refine ⟨ZN.iZipS D.K t, fun v g => ZN.pi_zipS (X := D.cx v) hg hm (pa v g) (hst _), fun G W M σ H env re Q q => ?_⟩
  refine pstB_bind (P := PstI D G W M σ H Q) k re (fun c t h => h) (fun h => h) q fun b e1 x H1 ev1 re1 i1 q1 => ?_
  dsimp only at q1
  split at q1
  · rename_i ts
    obtain ⟨a, xs, rfl, hx, l⟩ := i1.tup
    cases z : zipA ts with
    | ok r =>
      rw [z] at q1
      obtain ⟨zs, h1, h2, h3, h4⟩ := zip_src re1.muts l z
      exact ⟨a, xs, zs, rfl, .inl hx, h1, h2, h3, q1 _ H1 ev1 re1 h4⟩
    | ex c t => exact (zipA_tame z).elim
    | no => rw [z] at q1; exact (q1 : False).elim
  · rename_i ts
    obtain ⟨a, xs, rfl, hx, l⟩ := i1.lst
    cases z : zipA ts with
    | ok r =>
      rw [z] at q1
      obtain ⟨zs, h1, h2, h3, h4⟩ := zip_src re1.muts l z
      exact ⟨a, xs, zs, rfl, .inr (.of hx), h1, h2, h3, q1 _ H1 ev1 re1 h4⟩
    | ex c t => exact (zipA_tame z).elim
    | no => rw [z] at q1; exact (q1 : False).elim
  · exact (q1 : False).elim
/-! enumerate -/
def enumT : Int → List T → List T
  | _, [] => []
  | k, t :: ts => .tup [.int k, t] :: enumT (k + 1) ts
theorem enum_len : ∀ {ts : List T} {k : Int}, (enumT k ts).length = ts.length
  | [], _ => rfl
  | _ :: _, _ => congrArg (· + 1) enum_len
theorem enum_get : ∀ {ts : List T} {k : Int} {i : Nat} {t : T}, ts[i]? = some t → (enumT k ts)[i]? = some (.tup [.int (k + (i : Nat)), t])
  | _ :: _, k, 0, t, h => by simp at h; subst h; simp [enumT]
  | _ :: ts, k, i + 1, t, h => by
    have := enum_get (ts := ts) (k := k + 1) (i := i) (t := t) (by simpa using h)
    simp only [enumT, List.getElem?_cons_succ, this]
    congr 4
    omega
theorem walk_e {K : PySem.W.Frag} {W : Addr → Prop} {H : Hp} {z : ZS} {k : Int} {ts : List T} (p : ZI K W H z ts) : Walk K (IteN K z k) W H (enumT k ts) := by
  intro W' H' f m'
  obtain ⟨xs, r, l⟩ := p W' H' f m'
  refine ⟨fun i hi => ?_, xs, r, by rw [enum_len, l.length]⟩
  rw [enum_len] at hi
  refine ⟨⟨xs, r, by rw [l.length]; exact hi⟩, fun x H2 y => ?_⟩
  obtain ⟨Tt, x', rfl, hT, rfl, hy⟩ := y
  obtain ⟨t, h1, h2⟩ := l.get' (hy xs r)
  exact ⟨same_upd hT, _, enum_get h1, .tup (.of upd_same) (.cons (.int _) (.cons (h2.same (same_upd hT) m') .nil))⟩
def enum1 : List T → R (List T)
  | [t] => (itemsT t).bind fun ts => .ok (enumT 0 ts)
  | _ => .no
def enum2 : List T → R (List T)
  | [t, .int k] => if small62 k then (itemsT t).bind fun ts => .ok (enumT k ts) else .no
  | _ => .no
theorem items_tame {t : T} {c : String} {x : T} : itemsT t ≠ .ex c x := by unfold itemsT; split <;> intro h <;> cases h
theorem zsrc1 {K : PySem.W.Frag} {W : Addr → Prop} {H : Hp} (m : Muts W H) {v : V} {t : T} {ts : List T} (i : Is K W H v t) (e : itemsT t = .ok ts) : ∃ z, Srcs K H [v] [z] ∧ ZI K W H z ts := by
  obtain ⟨z, h1, h2⟩ := zsrc m i e
  exact ⟨z, h1 .nil, h2⟩
theorem mi_enum {elts : List Expr} {kk : Nat} {am : AM} {p tpos : Pos} (hg : D.sc.names.lookup (Str.ofString "enumerate") = some .globalImplicit) (hm : D.mg "enumerate" = none) (ha : MA D [a] am) (hs : ∀ env, starEach [a] env = [(false, eval a env)] := by exact fun _ => rfl) :
    MI D (.Tuple elts kk tpos) (.Call (.Name "enumerate" p) [a] [] pos) (iArg enum1 am) := by
  obtain ⟨t, pa, k⟩ := ha
  refine ⟨ZN.iEnumN D.K t, fun v g => ZN.pi_enumN (X := D.cx v) hg hm (pa v g) (hs _), fun G W M σ H env re Q q => ?_⟩
  refine pstA_bind (P := PstI D G W M σ H Q) k re (fun c t h => h) (fun h => h) q fun ts e1 vs H1 ev1 re1 i1 q1 => ?_
  dsimp only at q1
  unfold enum1 at q1
  split at q1
  · rename_i u
    cases i1 with
    | cons h1 r =>
      cases r
      cases z : itemsT u with
      | ok ts =>
        rw [z] at q1
        obtain ⟨zz, g1, g2⟩ := zsrc1 re1.muts h1 z
        exact ⟨_, zz, rfl, g1, q1 _ H1 ev1 re1 (walk_e g2)⟩
      | ex c t => exact (items_tame z).elim
      | no => rw [z] at q1; exact (q1 : False).elim
  · exact (q1 : False).elim
theorem mi_enumK {elts : List Expr} {kk : Nat} {am : AM} {p tpos : Pos} (hg : D.sc.names.lookup (Str.ofString "enumerate") = some .globalImplicit) (hm : D.mg "enumerate" = none) (ha : MA D [a, b] am) (hs : ∀ env, starEach [a, b] env = (false, eval a env) :: starEach [b] env := by exact fun _ => rfl) (hpl : ∀ env, (backTo pos (starEach [b] env)).any (·.1) = false := by exact fun _ => rfl) :
    MI D (.Tuple elts kk tpos) (.Call (.Name "enumerate" p) [a, b] [] pos) (iArg enum2 am) := by
  obtain ⟨t, pa, k⟩ := ha
  refine ⟨ZN.iEnumK D.K t, fun v g => ZN.pi_enumK (X := D.cx v) hg hm (pa v g) (hs _) (hpl _), fun G W M σ H env re Q q => ?_⟩
  refine pstA_bind (P := PstI D G W M σ H Q) k re (fun c t h => h) (fun h => h) q fun ts e1 vs H1 ev1 re1 i1 q1 => ?_
  dsimp only at q1
  unfold enum2 at q1
  split at q1
  · rename_i u k
    cases i1 with
    | cons h1 r =>
      cases r with
      | cons h2 r =>
      cases r
      cases isInt h2
      split at q1
      · rename_i hk
        obtain ⟨a1, a2⟩ := small62_of hk
        cases z : itemsT u with
        | ok ts =>
          rw [z] at q1
          obtain ⟨zz, g1, g2⟩ := zsrc1 re1.muts h1 z
          exact ⟨_, zz, k, rfl, g1, by omega, by omega, q1 _ H1 ev1 re1 (walk_e g2)⟩
        | ex c t => exact (items_tame z).elim
        | no => rw [z] at q1; exact (q1 : False).elim
      · exact (q1 : False).elim
  · exact (q1 : False).elim
end

/-! ### for, while -/
section
variable {D : Dat} {e a b c tg it : Expr} {m ma mb mc : XM} {tm : TM} {pos : Pos} {st : Stmt} {sts sts2 : List Stmt} {ms ms2 : SM}
def forM' (g : GM) (body : SM) : List T → EnvM → R (Fl × EnvM)
  | [], env => .ok (.nx, env)
  | t :: ts, env => match g t env with
    | .ok e1 => (body e1).bind fun (f, e2) => match f with
      | .nx => forM' g body ts e2
      | .ct => forM' g body ts e2
      | .bk => .ok (.nx, e2)
      | .rt u => .ok (.rt u, e2)
      | .rn u => .ok (.rn u, e2)
    | _ => .no
@[simp] def sFor (im : IM) (g : GM) (body : SM) : SM := fun env => (im env).bind fun (ts, e1) => forM' g body ts e1
theorem drop_get {α : Type} {l : List α} {i : Nat} {x : α} (h : l[i]? = some x) : l.drop i = x :: l.drop (i + 1) := by
  obtain ⟨hl, rfl⟩ := List.getElem?_eq_some_iff.mp h
  exact List.drop_eq_getElem_cons hl
/-- a loop over a source at hand -/
theorem for_rest {js : List Nat} {g : GM} {t1 : TG} {t2 : TS} (k1 : TGok D js g t1) (k2 : TSok D ms t2) {G : Gh} {W M : Addr → Prop} {σ : L2.St} {H : Hp} {Dn : Ends} {ts : List T} {e1 : EnvM} {J : It} {H1 : Hp} (ev1 : Ev M H H1) (re1 : RE D.K G W M σ H1 e1) (wk : Walk D.K J W H1 ts)
    (q : PstS D G W M H Dn (forM' g ms ts e1)) : ∃ Wf : Nat → Nat → L2.St → Hp → Prop, (∃ m, Wf 0 m σ H1) ∧ ∀ i m σ H, Wf i m σ H →
      (J.stop i H ∧ Dn.nx σ H) ∨ (J.go i H ∧ ∃ N : L2.St → Hp → Prop, (∀ σ' H', N σ' H' → ∃ m', m' < m ∧ Wf (i + 1) m' σ' H') ∧ ∀ x H', J.yld i H x H' → t1 x σ H' fun σ2 H2 => t2 { Dn with nx := N, ct := N, bk := Dn.nx } σ2 H2) := by
  refine ⟨fun i m σ' H' => m = ts.length - i ∧ i ≤ ts.length ∧ ∃ W' M' env', EvS G W M H1 W' M' H' ∧ RE D.K G W' M' σ' H' env' ∧ PstS D G W' M' H' Dn (forM' g ms (ts.drop i) env'),
    ⟨ts.length, rfl, Nat.zero_le _, W, M, e1, EvS.of Ev.refl, re1, PstS.evs (EvS.of ev1) q⟩, ?_⟩
  rintro i m σ' H' ⟨rfl, hi, W', M', env', es, re', q'⟩
  obtain ⟨w1, w2⟩ := wk W' H' (es.fut re1.sub) re'.muts
  by_cases hlt : i < ts.length
  · obtain ⟨go, yl⟩ := w1 i hlt
    refine .inr ⟨go, fun σ2 H2 => ∃ W2 M2 env2, EvS G W M H1 W2 M2 H2 ∧ RE D.K G W2 M2 σ2 H2 env2 ∧ PstS D G W2 M2 H2 Dn (forM' g ms (ts.drop (i + 1)) env2), fun σ2 H2 h => ⟨ts.length - (i + 1), by omega, rfl, hlt, h⟩, fun x H2 y => ?_⟩
    obtain ⟨s2, u, hu, iu⟩ := yl x H2 y
    rw [drop_get hu] at q'
    have re2 := re'.same s2
    refine k1 G W' M' σ' H2 env' re2 x u iu _ ?_
    simp only [forM'] at q'
    cases z1 : g u env' with
    | ok e2 =>
      rw [z1] at q'
      intro σ3 H3 ev3 re3 _
      refine k2 G W' M' σ3 H3 e2 re3 _ ?_
      dsimp only at q'
      have evs3 : EvS G W' M' H' W' M' H3 := EvS.of ((Ev.same s2).trans ev3)
      cases z2 : ms e2 with
      | ok w =>
        obtain ⟨f, e4⟩ := w
        rw [z2] at q'
        cases f with
        | nx => exact fun W4 M4 σ4 H4 es4 re4 => ⟨W4, M4, e4, es.trans (evs3.trans es4), re4, PstS.evs (evs3.trans es4) q'⟩
        | ct => exact fun W4 M4 σ4 H4 es4 re4 => ⟨W4, M4, e4, es.trans (evs3.trans es4), re4, PstS.evs (evs3.trans es4) q'⟩
        | bk => exact fun W4 M4 σ4 H4 es4 re4 => q' W4 M4 σ4 H4 (evs3.trans es4) re4
        | rt u => exact fun W4 M4 σ4 H4 es4 re4 => q' W4 M4 σ4 H4 (evs3.trans es4) re4
        | rn u => exact fun W4 M4 σ4 H4 es4 re4 => q' W4 M4 σ4 H4 (evs3.trans es4) re4
      | ex c t => rw [z2] at q'; exact fun W4 M4 H4 es4 o4 => q' W4 M4 H4 (evs3.trans es4) o4
      | no => rw [z2] at q'; exact q'
    | ex c t => rw [z1] at q'; exact q'
    | no => rw [z1] at q'; exact q'
  · have e : i = ts.length := by omega
    subst e
    rw [List.drop_length] at q'
    exact .inl ⟨w2, q' W' M' σ' H' (EvS.of Ev.refl) re'⟩
theorem ms_for {im : IM} {js : List Nat} {g : GM} (hi : MI D tg it im) (hg : MG D tg js g) (hb : MSs D sts ms) (hs : ∀ env x, foldedSetIterable it env x = pure x := by exact fun _ _ => rfl) : MS D (.For tg it sts [] pos) (sFor im g ms) := by
  obtain ⟨t, p, k⟩ := hi
  obtain ⟨t1, p1, k1⟩ := hg
  obtain ⟨t2, p2, k2⟩ := hb
  refine ⟨tFor t t1 t2, fun v gd => ps_for gd.own rfl (p v gd) (p1 v gd) (p2 v gd) (hs _), fun G W M σ H env re Dn q => ?_⟩
  refine k G W M σ H env re _ ?_
  unfold sFor at q
  cases z : im env with
  | ex c t => rw [z] at q; exact q.exw re.old
  | no => rw [z] at q; exact q
  | ok w =>
    obtain ⟨ts, e1⟩ := w
    rw [z] at q
    intro J H1 ev1 re1 wk
    exact for_rest k1 k2 ev1 re1 wk q
def whileM (c : TM) (b : SM) : Nat → EnvM → R (Fl × EnvM)
  | 0, _ => .no
  | n + 1, env => (c env).bind fun (t, e1) => if t then (b e1).bind fun (f, e2) => match f with
      | .nx => whileM c b n e2
      | .ct => whileM c b n e2
      | .bk => .ok (.nx, e2)
      | .rt u => .ok (.rt u, e2)
      | .rn u => .ok (.rn u, e2)
    else .ok (.nx, e1)
theorem ms_while (n : Nat) (hc : MT D c tm) (hb : MSs D sts ms) : MS D (.While c sts [] pos) (whileM tm ms n) := by
  obtain ⟨t, p, k⟩ := hc
  obtain ⟨t2, p2, k2⟩ := hb
  refine ⟨tWhile t t2, fun v gd => ps_while gd.own (p v gd) (p2 v gd), fun G W M σ H env re Dn q => ?_⟩
  refine ⟨fun m σ' H' => ∃ W' M' env', RE D.K G W' M' σ' H' env' ∧ PstS D G W' M' H' Dn (whileM tm ms m env'), ⟨n, W, M, env, re, q⟩, ?_⟩
  rintro m σ' H' ⟨W', M', env', re', q'⟩
  cases m with
  | zero => exact q'.elim
  | succ m =>
    simp only [whileM] at q'
    refine pstT_s k re' q' fun b e1 H1 ev1 re1 q1 => ?_
    cases b with
    | false => simp only [Bool.false_eq_true, if_false] at q1 ⊢; exact q1 W' M' σ' H1 (EvS.of Ev.refl) re1
    | true =>
      simp only [if_true] at q1 ⊢
      refine ⟨fun σ2 H2 => ∃ W2 M2 env2, RE D.K G W2 M2 σ2 H2 env2 ∧ PstS D G W2 M2 H2 Dn (whileM tm ms m env2), fun σ2 H2 h => ⟨m, Nat.lt_succ_self m, h⟩, ?_⟩
      refine k2 G W' M' σ' H1 e1 re1 _ ?_
      cases z2 : ms e1 with
      | ok w =>
        obtain ⟨f, e4⟩ := w
        rw [z2] at q1
        cases f with
        | nx => exact fun W4 M4 σ4 H4 es4 re4 => ⟨W4, M4, e4, re4, PstS.evs es4 q1⟩
        | ct => exact fun W4 M4 σ4 H4 es4 re4 => ⟨W4, M4, e4, re4, PstS.evs es4 q1⟩
        | bk => exact q1
        | rt u => exact q1
        | rn u => exact q1
      | ex c t => rw [z2] at q1; exact q1
      | no => rw [z2] at q1; exact q1
end
end M3
/-! M3, part h: list comprehensions of one clause and of two. -/
namespace M3
open PySem PySem.Spec PyProof.Rows L2

def Dat.blk (D : Dat) (scope : Scope) : Dat := { D with sc := relS scope D.sc, fn := fun x => scope.names.lookup x == some .cell, E := fun _ _ _ => False }
def Vr.blk (D : Dat) (scope : Scope) (v : Vr) (s : Shared) (H : Hp) (C : Addr) (cl : List (Str × Addr)) (fp : List Addr) : Vr :=
  { s0 := s, H0 := H, env := compEnvC scope cl C (D.cx v).env, outer := v.stack, stack := v.stack, ex := fp, pn := [], xe := fun _ _ => False }
theorem blk_eq {D : Dat} {scope : Scope} {v : Vr} {s : Shared} {H : Hp} {C : Addr} {cl : List (Str × Addr)} {fp : List Addr} : (D.cx v).blk s H scope (compEnvC scope cl C (D.cx v).env) fp = (D.blk scope).cx (v.blk D scope s H C cl fp) := rfl
theorem blk_good {D : Dat} {scope : Scope} {v : Vr} {s : Shared} {H : Hp} {C : Addr} {cl : List (Str × Addr)} {fp : List Addr} (g : D.Good v) (n : Tk (D.cx v) s) : (D.blk scope).Good (v.blk D scope s H C cl fp) where
  tok := Nat.le_trans g.tok n
  pas := fun _ _ _ _ _ _ _ h => by
    obtain ⟨_, _, _, _, _, _, _, _, _, _, _, _, z⟩ := h
    exact z.elim
  tk := fun _ _ x => by
    obtain ⟨_, _, _, _, _, _, _, _, _, _, _, _, _, _, _, _, z⟩ := x
    exact z.elim
  own := PassesOwn.never

/-! ### wiped slots -/
def wipeM : List Nat → EnvM → EnvM
  | [], env => env
  | v :: vs, env => (wipeM vs env).set v .no
/-- the slots at vs as they were, values only -/
def restM : List Nat → EnvM → EnvM → EnvM
  | [], _, e2 => e2
  | v :: vs, e1, e2 => match e1[v]? with
    | some (.val t) => (restM vs e1 e2).set v (.val t)
    | _ => restM vs e1 e2
section
variable {K : PySem.W.Frag} {G : Gh} {W M : Addr → Prop} {σ : L2.St} {H : Hp} {env : EnvM}
theorem RE.wiped (r : RE K G W M σ H env) : ∀ vs, RE K G W M (wipe σ vs) H (wipeM vs env)
  | [] => r
  | v :: vs => (RE.wiped r vs).drop
theorem wipe_get {σ : L2.St} : ∀ {vs : List Nat} {j : Nat}, j ∉ vs → (wipe σ vs)[j]? = σ[j]?
  | [], _, _ => rfl
  | v :: vs, j, h => by
    simp only [List.mem_cons, not_or] at h
    show ((L2.wipe σ vs).set v none)[j]? = _
    rw [List.getElem?_set_ne (Ne.symm h.1)]
    exact wipe_get h.2
theorem wipe_in {σ : L2.St} : ∀ {vs : List Nat} {j : Nat}, j ∈ vs → j < σ.length → (wipe σ vs)[j]? = some none
  | v :: vs, j, h, hl => by
    show ((L2.wipe σ vs).set v none)[j]? = _
    by_cases e : v = j
    · subst e; rw [List.getElem?_set_self (by rw [wipe_length]; exact hl)]
    · rw [List.getElem?_set_ne e]
      rcases List.mem_cons.mp h with z | z
      · exact (e z.symm).elim
      · exact wipe_in z hl
theorem wipe_eq {σ σ2 : L2.St} {vs : List Nat} (hl : σ2.length = (wipe σ vs).length) (h : ∀ j, j ∉ vs → σ2[j]? = (wipe σ vs)[j]?) : wipe σ2 vs = wipe σ vs := by
  apply List.ext_getElem?
  intro j
  by_cases hj : j ∈ vs
  · by_cases hlt : j < σ2.length
    · rw [wipe_in hj hlt, wipe_in hj (by rw [hl, wipe_length] at hlt; exact hlt)]
    · rw [List.getElem?_eq_none (by rw [wipe_length]; omega), List.getElem?_eq_none (by rw [wipe_length]; rw [hl, wipe_length] at hlt; omega)]
  · rw [wipe_get hj, h j hj]
theorem RE.unwipe {vs : List Nat} (r : RE K G W M (wipe σ vs) H env) : RE K G W M σ H env where
  len := by rw [← r.len, wipe_length]
  val := fun i t e => by obtain ⟨v, h1, h2⟩ := r.val i t e; exact ⟨v, (wipe_some h1).1, h2⟩
  own := fun i b t e => by obtain ⟨a, h1, h2⟩ := r.own i b t e; exact ⟨a, (wipe_some h1).1, h2⟩
  inj := fun i j b t b' t' e e' q => by
    obtain ⟨a, h1, _⟩ := r.own i b t e
    obtain ⟨a', h1', _⟩ := r.own j b' t' e'
    have q' := q
    rw [(wipe_some h1).1, (wipe_some h1').1] at q'
    exact r.inj i j b t b' t' e e' (by rw [h1, h1', q'])
  sub := r.sub
  muts := r.muts
  old := r.old
  ent := r.ent
  trk := r.trk
theorem RE.put (r : RE K G W M σ H env) {i : Nat} {v : V} {t : T} (hs : σ[i]? = some (some v)) (h : Is K W H v t) : RE K G W M σ H (env.set i (.val t)) := by
  have e : σ.set i (some v) = σ := by
    apply List.ext_getElem?
    intro j
    by_cases hj : i = j
    · subst hj
      rw [hs, List.getElem?_set_self]
      exact (List.getElem?_eq_some_iff.mp hs).1
    · rw [List.getElem?_set_ne hj]
  have := r.set (i := i) h
  rw [e] at this
  exact this
theorem RE.rest {W0 : Addr → Prop} {H0 : Hp} {M0 : Addr → Prop} {e1 : EnvM} (r0 : RE K G W0 M0 σ H0 e1) (f : Fut W0 H0 W H) (r : RE K G W M σ H env) : ∀ vs, RE K G W M σ H (restM vs e1 env)
  | [] => r
  | v :: vs => by
    have ih := RE.rest r0 f r vs
    simp only [restM]
    split
    · rename_i t e
      obtain ⟨x, h1, h2⟩ := r0.val v t e
      exact ih.put h1 (h2.fut f r0.muts)
    · exact ih
end

/-! ### the loop over a source -/
def Loop (J : It) (step : V → Hp → (Hp → Prop) → Prop) (H : Hp) (fin : Hp → Prop) : Prop := ∃ Wf : Nat → Nat → Hp → Prop, (∃ m, Wf 0 m H) ∧ ∀ i m H, Wf i m H →
  (J.stop i H ∧ fin H) ∨ (J.go i H ∧ ∃ Nx : Hp → Prop, (∀ H', Nx H' → ∃ m', m' < m ∧ Wf (i + 1) m' H') ∧ ∀ x H', J.yld i H x H' → step x H' Nx)
/-- the new list p holds us -/
structure Acc (K : PySem.W.Frag) (G : Gh) (W M : Addr → Prop) (σ : L2.St) (p : Addr) (H : Hp) (env : EnvM) (us : List T) : Prop where
  re : RE K G W M σ H env
  lst : ∃ acc, H p = some (.lst acc) ∧ IsL K W H acc us
abbrev withP (M : Addr → Prop) (p : Addr) : Addr → Prop := fun a => M a ∨ a = p
abbrev BM := EnvM → R (List T × EnvM)
def BOK (D : Dat) (bm : BM) (B : Addr → L2.St → Hp → (Hp → Prop) → Prop) : Prop :=
  ∀ G W M p σ H env us, W p → ¬ M p → Acc D.K G W M σ p H env us → ∀ us' e', bm env = .ok (us', e') → (us ++ us').length ≤ sizeLine → ∀ Nx : Hp → Prop, (∀ H', Ev (withP M p) H H' → Acc D.K G W M σ p H' e' (us ++ us') → Nx H') → B p σ H Nx
@[simp] def eltM (m : XM) : BM := fun env => match m env with
  | .ok (u, e) => .ok ([u], e)
  | _ => .no
def lcM (vs : List Nat) (g : GM) (tm : TM) (bm : BM) : List T → EnvM → R (List T × EnvM)
  | [], env => .ok ([], env)
  | t :: ts, env => match g t env with
    | .ok e1 => match tm e1 with
      | .ok (true, e2) => match bm e2 with
        | .ok (u, e3) => match lcM vs g tm bm ts (wipeM vs e3) with
          | .ok (us, e4) => .ok (u ++ us, e4)
          | _ => .no
        | _ => .no
      | .ok (false, e2) => lcM vs g tm bm ts (wipeM vs e2)
      | _ => .no
    | _ => .no
section
variable {D : Dat}
theorem Ev.withP {M : Addr → Prop} {p : Addr} {H H' : Hp} (e : Ev M H H') : Ev (withP M p) H H' := ⟨fun a o h n => e.keep a o h fun m => n (.inl m), e.trk⟩
theorem ev_p {M : Addr → Prop} {p : Addr} {H : Hp} {o : HO} : Ev (withP M p) H (upd H p o) := ⟨fun a x e n => by rw [upd_ne (fun z => n (.inr z))]; exact e, fun a h => by
  by_cases z : a = p
  · subst z; rw [upd_same]; exact fun y => nomatch y
  · rw [upd_ne z]; exact h⟩
theorem Acc.ev {G : Gh} {W M : Addr → Prop} {p : Addr} {σ σ' : L2.St} {H H' : Hp} {env env' : EnvM} {us : List T} (a : Acc D.K G W M σ p H env us) (np : ¬ M p) (e : Ev M H H') (re : RE D.K G W M σ' H' env') : Acc D.K G W M σ' p H' env' us := by
  obtain ⟨acc, h, l⟩ := a.lst
  exact ⟨re, acc, e.keep _ _ h np, l.ev e a.re⟩
theorem RE.updP {K : PySem.W.Frag} {G : Gh} {W M : Addr → Prop} {p : Addr} {σ : L2.St} {H : Hp} {env : EnvM} {o : HO} (r : RE K G W M σ H env) (wp : W p) (np : ¬ M p) (mu : Mut (some o)) : RE K G W M σ (upd H p o) env := by
  have f : Fut W H W (upd H p o) := (ev_p (M := M) (p := p)).fut fun a m => m.elim (r.sub a) fun e => by rw [e]; exact wp
  exact {
    len := r.len
    val := fun i t e => by obtain ⟨v, h1, h2⟩ := r.val i t e; exact ⟨v, h1, h2.fut f r.muts⟩
    own := fun i b t e => by
      obtain ⟨a, h1, h2, h3, h4⟩ := r.own i b t e
      exact ⟨a, h1, h2, h3.fut f r.muts (upd_ne fun z => np (by rw [← z]; exact h2)), h4⟩
    inj := r.inj
    sub := r.sub
    muts := fun a w => by
      by_cases z : a = p
      · subst z; rw [upd_same]; exact mu
      · rw [upd_ne z]; exact r.muts a w
    old := r.old
    ent := r.ent
    trk := fun a h => f.trk a (r.trk a h) }
/-- an item at the list's end -/
def bElt (te : TE) (p : Addr) (σ : L2.St) (H : Hp) (Nx : Hp → Prop) : Prop := te σ H fun y H4 => ∃ acc, H4 p = some (.lst acc) ∧ acc.length < sizeLine ∧ Nx (upd H4 p (.lst (acc ++ [y])))
theorem bok_elt {m : XM} {te : TE} (k : TEok D m te) : BOK D (eltM m) (bElt te) := by
  intro G W M p σ H env us wp np a us' e' e hl Nx h
  unfold eltM at e
  cases z : m env with
  | ex c t => rw [z] at e; cases e
  | no => rw [z] at e; cases e
  | ok w =>
    obtain ⟨u, e1⟩ := w
    rw [z] at e
    cases e
    refine k G W M σ H env a.re _ ?_
    rw [z]
    intro y H4 ev re i
    obtain ⟨acc, h4, l4⟩ := (a.ev np ev re).lst
    have f : Fut W H4 W (upd H4 p (.lst (acc ++ [y]))) := (ev_p (M := M) (p := p)).fut fun a m => m.elim (re.sub a) fun e => by rw [e]; exact wp
    refine ⟨acc, h4, by rw [l4.length]; rw [List.length_append] at hl; exact hl, h _ (ev.withP.trans ev_p) ⟨re.updP wp np trivial, _, upd_same, ?_⟩⟩
    exact (l4.fut f re.muts).append (.cons (i.fut f re.muts) .nil)
/-- a clause's turn -/
def tTurn (g : TG) (σb : L2.St) (vs : List Nat) (tt : TT) (B : L2.St → Hp → (Hp → Prop) → Prop) : V → Hp → (Hp → Prop) → Prop := fun x H' Nx => g x σb H' fun σ2 H2 => wipe σ2 vs = σb ∧ tt σ2 H2 fun b H3 => if b = true then B σ2 H3 Nx else Nx H3
theorem loop_ok {vs js : List Nat} {g : GM} {tm : TM} {bm : BM} {gt : TG} {tt : TT} {B : Addr → L2.St → Hp → (Hp → Prop) → Prop} (hg : TGok D js g gt) (hjs : ∀ j ∈ js, j ∈ vs) (ht : TTok D tm tt) (hb : BOK D bm B)
    {G : Gh} {W M : Addr → Prop} {p : Addr} {σ : L2.St} (wp : W p) (np : ¬ M p) {J : It} {ts : List T} {H0 : Hp} (wk : Walk D.K J W H0 ts) {env : EnvM} {us us' : List T} {e' : EnvM} (a0 : Acc D.K G W M (wipe σ vs) p H0 env us)
    (e : lcM vs g tm bm ts env = .ok (us', e')) (hl : (us ++ us').length ≤ sizeLine) {fin : Hp → Prop} (hf : ∀ H', Ev (withP M p) H0 H' → Acc D.K G W M (wipe σ vs) p H' e' (us ++ us') → fin H') :
    Loop J (tTurn gt (wipe σ vs) vs tt (B p)) H0 fin := by
  refine ⟨fun i m H' => m = ts.length - i ∧ i ≤ ts.length ∧ ∃ env1 us1 us2, Ev (withP M p) H0 H' ∧ Acc D.K G W M (wipe σ vs) p H' env1 us1 ∧ lcM vs g tm bm (ts.drop i) env1 = .ok (us2, e') ∧ us1 ++ us2 = us ++ us',
    ⟨ts.length, rfl, Nat.zero_le _, env, us, us', Ev.refl, a0, e, rfl⟩, ?_⟩
  rintro i m H' ⟨rfl, hi, env1, us1, us2, ev, ac, em, eu⟩
  have fu : Fut W H0 W H' := ev.fut fun a m => m.elim (a0.re.sub a) fun e => by rw [e]; exact wp
  obtain ⟨w1, w2⟩ := wk W H' fu ac.re.muts
  by_cases hlt : i < ts.length
  · obtain ⟨go, yl⟩ := w1 i hlt
    refine .inr ⟨go, fun H2 => ∃ env1 us1 us2, Ev (withP M p) H0 H2 ∧ Acc D.K G W M (wipe σ vs) p H2 env1 us1 ∧ lcM vs g tm bm (ts.drop (i + 1)) env1 = .ok (us2, e') ∧ us1 ++ us2 = us ++ us', fun H2 h => ⟨ts.length - (i + 1), by omega, rfl, hlt, h⟩, fun x H2 y => ?_⟩
    obtain ⟨s2, u, hu, iu⟩ := yl x H2 y
    rw [drop_get hu] at em
    simp only [lcM] at em
    have ac2 : Acc D.K G W M (wipe σ vs) p H2 env1 us1 := ac.ev np (.same s2) (ac.re.same s2)
    refine hg G W M (wipe σ vs) H2 env1 ac2.re x u iu _ ?_
    cases z1 : g u env1 with
    | ex c t => rw [z1] at em; cases em
    | no => rw [z1] at em; cases em
    | ok e1 =>
      rw [z1] at em
      intro σ3 H3 ev3 re3 fr3
      have hw : wipe σ3 vs = wipe σ vs := wipe_eq fr3.1 fun j hj => fr3.2 j fun m => hj (hjs j m)
      refine ⟨hw, ?_⟩
      have ac3 := ac2.ev np ev3 re3
      refine ht G W M σ3 H3 e1 re3 _ ?_
      dsimp only at em
      cases z2 : tm e1 with
      | ex c t => rw [z2] at em; cases em
      | no => rw [z2] at em; cases em
      | ok w =>
        obtain ⟨b, e2⟩ := w
        rw [z2] at em
        intro H4 ev4 re4
        have ac4 := ac3.ev np ev4 re4
        have evn : Ev (withP M p) H0 H4 := ev.trans (((Ev.same s2).trans (ev3.trans ev4)).withP)
        have back : ∀ {H5 : Hp} {e5 : EnvM} {vs5 : List T}, Acc D.K G W M σ3 p H5 e5 vs5 → Acc D.K G W M (wipe σ vs) p H5 (wipeM vs e5) vs5 := fun {H5 e5 vs5} a => by
          refine ⟨?_, a.lst⟩
          have := a.re.wiped vs
          rw [hw] at this
          exact this
        cases b with
        | false =>
          simp only [Bool.false_eq_true, if_false] at em ⊢
          exact ⟨_, us1, us2, evn, back ac4, em, eu⟩
        | true =>
          simp only [if_true] at em ⊢
          cases z3 : bm e2 with
          | ex c t => rw [z3] at em; cases em
          | no => rw [z3] at em; cases em
          | ok w3 =>
            obtain ⟨u3, e3⟩ := w3
            rw [z3] at em
            dsimp only at em
            cases z4 : lcM vs g tm bm (ts.drop (i + 1)) (wipeM vs e3) with
            | ex c t => rw [z4] at em; cases em
            | no => rw [z4] at em; cases em
            | ok w4 =>
              obtain ⟨u4, e4⟩ := w4
              rw [z4] at em
              cases em
              refine hb G W M p σ3 H4 e2 us1 wp np ac4 u3 e3 z3 ?_ _ fun H5 ev5 ac5 => ⟨_, us1 ++ u3, u4, evn.trans ev5, back ac5, z4, by rw [List.append_assoc]; exact eu⟩
              rw [← eu] at hl
              simp only [List.length_append] at hl ⊢
              omega
  · have e0 : i = ts.length := by omega
    subst e0
    rw [List.drop_length] at em
    simp only [lcM] at em
    cases em
    rw [List.append_nil] at eu
    exact .inl ⟨w2, hf H' ev (by rw [← eu]; exact ac)⟩
end

/-! ### the comprehensions -/
section
variable {D : Dat} {elt tg it tg1 it1 : Expr} {ifs ifs1 : List Expr} {scope : Scope} {own : List (Str × Nat)} {im im1 : IM} {js js1 vs1 : List Nat} {g g1 : GM} {tm tm1 : TM} {m : XM} {pos : Pos}
def MC (D : Dat) (ifs : List Expr) (tm : TM) : Prop := ∃ tt, (∀ v, D.Good v → PTs (D.cx v) ifs tt) ∧ TTok D tm tt
@[simp] def tYesM : TM := fun env => .ok (true, env)
theorem mc_nil : MC D [] tYesM := ⟨tYes, fun v _ => pts_nil, fun G W M σ H env re Q q => q H Ev.refl re⟩
theorem mc_one {c : Expr} (h : MT D c tm) : MC D [c] tm := by
  obtain ⟨t, p, k⟩ := h
  exact ⟨t, fun v g => pts_one (p v g), k⟩
@[simp] def xLc (im : IM) (vs : List Nat) (g : GM) (tm : TM) (bm : BM) : XM := fun env => (im env).bind fun (ts, e1) => match lcM vs g tm bm ts (wipeM vs e1) with
  | .ok (us, e2) => if Nat.ble us.length 16777216 then .ok (.lst us, restM vs e1 e2) else .no
  | _ => .no
@[simp] def inM (im1 : IM) (vs1 : List Nat) (g1 : GM) (tm1 : TM) (bm : BM) : BM := fun env => match im1 env with
  | .ok (ts, e1) => lcM vs1 g1 tm1 bm ts (wipeM vs1 e1)
  | _ => .no
/-- the outermost clause, its source at hand -/
theorem lc_rest {D Db : Dat} (hK : Db.K = D.K) {vs : List Nat} {gt : TG} {tt : TT} {bm : BM} {B : Addr → L2.St → Hp → (Hp → Prop) → Prop} (hg : TGok Db js g gt) (hjs : ∀ j ∈ js, j ∈ vs) (ht : TTok Db tm tt) (hb : BOK Db bm B)
    {G : Gh} {W M : Addr → Prop} {σ : L2.St} {H : Hp} {env : EnvM} {Q : VK} (re : RE D.K G W M σ H env) {ts : List T} {e1 : EnvM} {J : It} {H1 : Hp} (ev1 : Ev M H H1) (re1 : RE D.K G W M σ H1 e1) (wk : Walk D.K J W H1 ts)
    (q : PstN D G W M σ H Q (match lcM vs g tm bm ts (wipeM vs e1) with
      | .ok (us, e2) => if Nat.ble us.length 16777216 then .ok (.lst us, restM vs e1 e2) else .no
      | _ => .no)) : ∀ p, H1 p = none → Loop J (tTurn gt (wipe σ vs) vs tt (B p)) (upd H1 p (.lst [])) fun H => Q (.ref p) H := by
  intro p hp
  cases z2 : lcM vs g tm bm ts (wipeM vs e1) with
  | ex c t => rw [z2] at q; exact q.elim
  | no => rw [z2] at q; exact q.elim
  | ok w2 =>
    obtain ⟨us, e2⟩ := w2
    rw [z2] at q
    dsimp only at q
    by_cases hl : Nat.ble us.length 16777216 = true
    · rw [if_pos hl] at q
      have np : ¬ M p := fun m => re1.unheld hp (re1.sub p m)
      have re2 : RE D.K G (withP W p) M σ (upd H1 p (.lst [])) e1 := re1.new hp trivial (fun a w => .inl w) fun a w => w
      have fn : Fut W H1 (withP W p) (upd H1 p (.lst [])) := Fut.new hp fun a w => w
      have wk2 : Walk D.K J (withP W p) (upd H1 p (.lst [])) ts := fun W' H' f m' => wk W' H' (fn.trans f) m'
      have a0 : Acc D.K G (withP W p) M (wipe σ vs) p (upd H1 p (.lst [])) (wipeM vs e1) [] := ⟨re2.wiped vs, [], upd_same, .nil⟩
      rw [← hK] at wk2 a0
      refine loop_ok (D := Db) (σ := σ) hg hjs ht hb (.inr rfl) np wk2 a0 z2 (le_line hl) fun H' ev ac => ?_
      rw [hK] at ac
      have hpH : H p = none := by
        cases z : H p with
        | none => rfl
        | some u => exact (ev1.trk p (by rw [z]; exact fun y => nomatch y) hp).elim
      have evH : Ev M H1 H' := ⟨fun a o h n => ev.keep a o (same_upd hp a o h) fun z => z.elim n (fun z => by subst z; rw [hp] at h; cases h), fun a h => ev.trk a ((Fut.same (W := W) (same_upd hp)).trk a h)⟩
      obtain ⟨acc, hacc, lacc⟩ := ac.lst
      refine q p H' (ev1.trans evH) hpH (fun W' h1 h2 => ?_) (fun W' h2 => ⟨acc, hacc, lacc.weak fun a w => h2 a w⟩) (.inl ⟨_, rfl⟩)
      have r3 : RE D.K G (withP W p) M σ H' e2 := ac.re.unwipe
      have r4 : RE D.K G W' M σ H' e2 := {
        len := r3.len
        val := fun i t e => by obtain ⟨v, q1, q2⟩ := r3.val i t e; exact ⟨v, q1, q2.weak h2⟩
        own := fun i b t e => by
          obtain ⟨a, q1, q2, q3, q4⟩ := r3.own i b t e
          refine ⟨a, q1, q2, ?_, q4⟩
          cases t with
          | lst ts => obtain ⟨xs, e, l⟩ := q3; exact ⟨xs, e, l.weak h2⟩
          | dct b ks vs => obtain ⟨o, ws, e, z, l⟩ := q3; exact ⟨o, ws, e, z, l.weak h2⟩
          | _ => exact q3.elim
        inj := r3.inj
        sub := fun a m => h1 a (re1.sub a m)
        muts := fun a w => r3.muts a (h2 a w)
        old := fun a w => h1 a (re1.old a w)
        ent := r3.ent
        trk := r3.trk }
      refine RE.rest re1 ⟨fun a o h n => evH.keep a o h fun m => n (re1.sub a m), fun a w h => (h2 a w).resolve_right fun z => h (by rw [z]; exact hp), evH.trk⟩ r4 vs
    · rw [if_neg hl] at q; exact (q : False).elim
/-- the outermost clause -/
theorem lc_core {D Db : Dat} (hK : Db.K = D.K) {wi : L2.TI} {vs : List Nat} {gt : TG} {tt : TT} {bm : BM} {B : Addr → L2.St → Hp → (Hp → Prop) → Prop} (hi : TIok D im wi) (hg : TGok Db js g gt) (hjs : ∀ j ∈ js, j ∈ vs) (ht : TTok Db tm tt) (hb : BOK Db bm B) :
    TNok D (xLc im vs g tm bm) (fun σ H Q => wi σ H fun J H1 => ∀ p, H1 p = none → Loop J (tTurn gt (wipe σ vs) vs tt (B p)) (upd H1 p (.lst [])) fun H => Q (.ref p) H) := by
  intro G W M σ H env re Q q
  refine hi G W M σ H env re _ ?_
  unfold xLc at q
  cases z : im env with
  | ex c t => rw [z] at q; exact q
  | no => rw [z] at q; exact q
  | ok w =>
    obtain ⟨ts, e1⟩ := w
    rw [z] at q
    intro J H1 ev1 re1 wk
    exact lc_rest hK hg hjs ht hb re ev1 re1 wk q
/-- a clause within -/
theorem bok_in {wi1 : L2.TI} {gt1 : TG} {tt1 : TT} {bm : BM} {B : Addr → L2.St → Hp → (Hp → Prop) → Prop} (hi : TIok D im1 wi1) (hg : TGok D js1 g1 gt1) (hjs : ∀ j ∈ js1, j ∈ vs1) (ht : TTok D tm1 tt1) (hb : BOK D bm B) :
    BOK D (inM im1 vs1 g1 tm1 bm) (fun p σ H Nx => wi1 σ H fun J1 H4 => Loop J1 (tTurn gt1 (wipe σ vs1) vs1 tt1 (B p)) H4 Nx) := by
  intro G W M p σ H env us wp np a us' e' e hl Nx h
  unfold inM at e
  cases z : im1 env with
  | ex c t => rw [z] at e; cases e
  | no => rw [z] at e; cases e
  | ok w =>
    obtain ⟨ts, e1⟩ := w
    rw [z] at e
    refine hi G W M σ H env a.re _ ?_
    rw [z]
    intro J H1 ev1 re1 wk
    have a1 := a.ev np ev1 re1
    refine loop_ok (σ := σ) hg hjs ht hb wp np wk (env := wipeM vs1 e1) ⟨a1.re.wiped vs1, a1.lst⟩ e hl fun H' ev ac => ?_
    exact h H' (ev1.withP.trans ev) ⟨ac.re.unwipe, ac.lst⟩
theorem mn_lc (hN : D.N.Nodup) (ok : BlkOk D.N D.sc scope own) (hi : MI D tg it im) (hg : MG (D.blk scope) tg js g) (hjs : ∀ j ∈ js, j ∈ own.map (·.2)) (ht : MC (D.blk scope) ifs tm) (he : ME (D.blk scope) elt m) (hs : ∀ env x, foldedSetIterable it env x = pure x := by exact fun _ _ => rfl) :
    MN D (.ListComp elt [⟨tg, it, ifs, 0⟩] scope pos) (xLc im (own.map (·.2)) g tm (eltM m)) := by
  obtain ⟨t, p, k⟩ := hi
  obtain ⟨t1, p1, k1⟩ := hg
  obtain ⟨t2, p2, k2⟩ := ht
  obtain ⟨t3, p3, k3⟩ := he
  exact ⟨tLc t t1 t2 t3 (own.map fun x : Str × Nat => x.2), fun v gd => pe_lc (X := D.cx v) rfl hN (p v gd) ok (fun _ _ _ _ _ n => p1 _ (blk_good gd n)) (fun _ _ _ _ _ n => p2 _ (blk_good gd n)) (fun _ _ _ _ _ n => p3 _ (blk_good gd n)) (hs _),
    lc_core (D := D) (Db := D.blk scope) rfl k k1 hjs k2 (bok_elt k3)⟩
theorem mn_lc2 (hN : D.N.Nodup) (ok : BlkOk D.N D.sc scope own) (hv : ∀ i ∈ vs1, i ∈ own.map (·.2)) (hi : MI D tg it im) (hg : MG (D.blk scope) tg js g) (hjs : ∀ j ∈ js, j ∈ own.map (·.2)) (ht : MC (D.blk scope) ifs tm)
    (hi1 : MI (D.blk scope) tg1 it1 im1) (hg1 : MG (D.blk scope) tg1 js1 g1) (hjs1 : ∀ j ∈ js1, j ∈ vs1) (ht1 : MC (D.blk scope) ifs1 tm1) (he : ME (D.blk scope) elt m) (hs : ∀ env x, foldedSetIterable it env x = pure x := by exact fun _ _ => rfl) (hs1 : ∀ env x, foldedSetIterable it1 env x = pure x := by exact fun _ _ => rfl) :
    MN D (.ListComp elt [⟨tg, it, ifs, 0⟩, ⟨tg1, it1, ifs1, 0⟩] scope pos) (xLc im (own.map (·.2)) g tm (inM im1 vs1 g1 tm1 (eltM m))) := by
  obtain ⟨t, p, k⟩ := hi
  obtain ⟨t1, p1, k1⟩ := hg
  obtain ⟨t2, p2, k2⟩ := ht
  obtain ⟨t3, p3, k3⟩ := he
  obtain ⟨t4, p4, k4⟩ := hi1
  obtain ⟨t5, p5, k5⟩ := hg1
  obtain ⟨t6, p6, k6⟩ := ht1
  exact ⟨tLc2 t t1 t2 t4 t5 t6 t3 (own.map fun x : Str × Nat => x.2) vs1, fun v gd => pe_lc2 (X := D.cx v) rfl hN (p v gd) ok hv (fun _ _ _ _ _ n => p1 _ (blk_good gd n)) (fun _ _ _ _ _ n => p2 _ (blk_good gd n)) (fun _ _ _ _ _ n => p4 _ (blk_good gd n)) (fun _ _ _ _ _ n => p5 _ (blk_good gd n)) (fun _ _ _ _ _ n => p6 _ (blk_good gd n)) (fun _ _ _ _ _ n => p3 _ (blk_good gd n)) (hs _) hs1,
    lc_core (D := D) (Db := D.blk scope) rfl k k1 hjs k2 (bok_in k4 k5 hjs1 k6 (bok_elt k3))⟩
end
end M3
/-! M3, part i: things of the frame's own: made, frozen, changed by methods; calls of defs; defs by their bodies. -/
namespace M3
open PySem PySem.Spec PyProof.Rows L2

section
variable {D : Dat} {e a b c : Expr} {m ma mb mc : XM} {tm : TM} {pos : Pos} {st : Stmt} {sts sts2 : List Stmt} {ms ms2 : SM}
/-! ### name = a fresh thing -/
def MAn (D : Dat) (st : Stmt) (i : Nat) (m : XM) : Prop := ∃ te, (∀ v, D.Good v → PS (D.cx v) st (tAsg te (gName i))) ∧ TNok D m te
theorem man_of {x : Str} {p' : Pos} (i : Nat) (hN : D.N.Nodup) (hi : D.N[i]? = some x) (hx : Loc D.sc x) (h : MN D e m) (hs : ∀ v : Vr, swapsWith e (some (.Name x p')) pos.line (D.cx v).env = pure false := by exact fun _ => rfl)
    (hf : D.fn x = true ∨ D.sc.names.lookup x = some .local := by first | exact .inl rfl | exact .inr rfl | assumption) : MAn D (.Assign [.Name x p'] e pos) i m := by
  obtain ⟨t, p, k⟩ := h
  exact ⟨t, fun v g => ps_set (X := D.cx v) hN hi hx (p v g) (hs v) hf, k⟩
theorem man_lc {y : Str} {py spos : Pos} {elt tg it : Expr} {ifs : List Expr} {scope : Scope} {own : List (Str × Nat)} {im : IM} {js : List Nat} {g : GM} (i : Nat) (hN : D.N.Nodup) (hy : D.N[i]? = some y) (hyl : D.sc.names.lookup y = some .local) (hk : D.sc.kind = .function)
    (hl : (py.line == pos.line) = true) (hso : (scope.names.any fun (n, k) => n == y && (k == .local || k == .cell)) = false) (ok : BlkOk D.N D.sc scope own) (hi : MI D tg it im) (hg : MG (D.blk scope) tg js g) (hjs : ∀ j ∈ js, j ∈ own.map (·.2)) (ht : MC (D.blk scope) ifs tm) (he : ME (D.blk scope) elt m) (hs : ∀ env x, foldedSetIterable it env x = pure x := by exact fun _ _ => rfl) :
    MAn D (.Assign [.Name y py] (.ListComp elt [⟨tg, it, ifs, 0⟩] scope pos) spos) i (xLc im (own.map (·.2)) g tm (eltM m)) := by
  obtain ⟨t, p, k⟩ := hi
  obtain ⟨t1, p1, k1⟩ := hg
  obtain ⟨t2, p2, k2⟩ := ht
  obtain ⟨t3, p3, k3⟩ := he
  exact ⟨tLc t t1 t2 t3 (own.map fun x : Str × Nat => x.2), fun v gd => ps_setLc (X := D.cx v) rfl hN hy hyl (sw_true hk hyl hl hso) (p v gd) ok (fun _ _ _ _ _ n => p1 _ (blk_good gd n)) (fun _ _ _ _ _ n => p2 _ (blk_good gd n)) (fun _ _ _ _ _ n => p3 _ (blk_good gd n)) (hs _),
    lc_core (D := D) (Db := D.blk scope) rfl k k1 hjs k2 (bok_elt k3)⟩
theorem man_lc2 {y : Str} {py spos : Pos} {elt tg it tg1 it1 : Expr} {ifs ifs1 : List Expr} {scope : Scope} {own : List (Str × Nat)} {im im1 : IM} {js js1 vs1 : List Nat} {g g1 : GM} {tm1 : TM} (i : Nat) (hN : D.N.Nodup) (hy : D.N[i]? = some y) (hyl : D.sc.names.lookup y = some .local) (hk : D.sc.kind = .function)
    (hl : (py.line == pos.line) = true) (hso : (scope.names.any fun (n, k) => n == y && (k == .local || k == .cell)) = false) (ok : BlkOk D.N D.sc scope own) (hv : ∀ i ∈ vs1, i ∈ own.map (·.2)) (hi : MI D tg it im) (hg : MG (D.blk scope) tg js g) (hjs : ∀ j ∈ js, j ∈ own.map (·.2)) (ht : MC (D.blk scope) ifs tm)
    (hi1 : MI (D.blk scope) tg1 it1 im1) (hg1 : MG (D.blk scope) tg1 js1 g1) (hjs1 : ∀ j ∈ js1, j ∈ vs1) (ht1 : MC (D.blk scope) ifs1 tm1) (he : ME (D.blk scope) elt m) (hs : ∀ env x, foldedSetIterable it env x = pure x := by exact fun _ _ => rfl) (hs1 : ∀ env x, foldedSetIterable it1 env x = pure x := by exact fun _ _ => rfl) :
    MAn D (.Assign [.Name y py] (.ListComp elt [⟨tg, it, ifs, 0⟩, ⟨tg1, it1, ifs1, 0⟩] scope pos) spos) i (xLc im (own.map (·.2)) g tm (inM im1 vs1 g1 tm1 (eltM m))) := by
  obtain ⟨t, p, k⟩ := hi
  obtain ⟨t1, p1, k1⟩ := hg
  obtain ⟨t2, p2, k2⟩ := ht
  obtain ⟨t3, p3, k3⟩ := he
  obtain ⟨t4, p4, k4⟩ := hi1
  obtain ⟨t5, p5, k5⟩ := hg1
  obtain ⟨t6, p6, k6⟩ := ht1
  exact ⟨tLc2 t t1 t2 t4 t5 t6 t3 (own.map fun x : Str × Nat => x.2) vs1, fun v gd => ps_setLc2 (X := D.cx v) rfl hN hy hyl (sw_true hk hyl hl hso) (p v gd) ok hv (fun _ _ _ _ _ n => p1 _ (blk_good gd n)) (fun _ _ _ _ _ n => p2 _ (blk_good gd n)) (fun _ _ _ _ _ n => p4 _ (blk_good gd n)) (fun _ _ _ _ _ n => p5 _ (blk_good gd n)) (fun _ _ _ _ _ n => p6 _ (blk_good gd n)) (fun _ _ _ _ _ n => p3 _ (blk_good gd n)) (hs _) hs1,
    lc_core (D := D) (Db := D.blk scope) rfl k k1 hjs k2 (bok_in k4 k5 hjs1 k6 (bok_elt k3))⟩
theorem tn_te {te : TE} (hk : TNok D m te) : TEok D m te := by
  intro G W M σ H env r Q q
  refine hk G W M σ H env r Q ?_
  cases e1 : m env with
  | ok z =>
    obtain ⟨t, env'⟩ := z
    rw [e1] at q
    intro p H' ev hn r'' ho ht
    have r' := r'' W (fun _ w => w) fun _ w => .inl w
    rcases ht with ⟨ts, rfl⟩ | ⟨b, ks, vs, rfl⟩
    · refine q _ H' ev r' ?_
      obtain ⟨xs, hx, l⟩ := ho W (fun a w => .inl w)
      exact .lst (r.unheld hn) hx l
    · refine q _ H' ev r' ?_
      obtain ⟨o, ws, hx, e, l⟩ := ho W (fun a w => .inl w)
      exact .dct (r.unheld hn) hx (.of e) l
  | ex c t => rw [e1] at q; exact q
  | no => rw [e1] at q; exact q
/-- .. as a value -/
theorem ms_setv {i : Nat} (h : MAn D st i m) : MS D st (sSet i m) := by
  obtain ⟨t, p, k⟩ := h
  exact ⟨_, p, fun G W M σ H env re Dn q => pst_s (tn_te k) re q fun t e1 v H1 ev1 re1 i1 q1 => q1 W M _ H1 (EvS.of Ev.refl) (re1.set i1)⟩
/-- .. of the frame's own -/
@[simp] def sSetn (i : Nat) (m : XM) : SM := fun env => (m env).bind fun (t, e1) => .ok (.nx, e1.set i (.own false t))
theorem ms_setn {i : Nat} (h : MAn D st i m) : MS D st (sSetn i m) := by
  obtain ⟨t, p, k⟩ := h
  refine ⟨_, p, fun G W M σ H env re Dn q => k G W M σ H env re _ ?_⟩
  unfold sSetn at q
  cases z : m env with
  | ex c t => rw [z] at q; exact q.exw re.old
  | no => rw [z] at q; exact q
  | ok w =>
    obtain ⟨u, e1⟩ := w
    rw [z] at q
    intro p H' ev hp rr oo ht
    have r1 := rr (withP W p) (fun a w => .inl w) fun a w => w
    refine q (withP W p) (withP M p) _ H' ⟨fun a o h n => ev.keep a o h n, ev.trk, fun a w h => w.elim id fun z => (h (by rw [z]; exact hp)).elim, fun a w h => w.elim id fun z => (h (by rw [z]; exact hp)).elim⟩ ?_
    refine r1.setOwn (M' := withP M p) (fun a m => Or.inl m) (Or.inr rfl) (fun a m => Or.imp (re.sub a) id m) (fun j hj b t ej => ?_) (oo (withP W p) fun a w => w) ?_
    · obtain ⟨a, h1, h2, _⟩ := r1.own j b t ej
      rw [hj] at h1
      cases h1
      exact re.unheld hp (re.sub _ h2)
    · cases z : G.H0 p with
      | none => rfl
      | some o => exact (re.trk p (by rw [z]; exact fun y => nomatch y) hp).elim
/-! ### frozen -/
@[simp] def sFrz (i : Nat) (m : SM) : SM := fun env => match env[i]? with
  | some (.own false t) => m (env.set i (.val t))
  | some (.val _) => m env
  | _ => .no
theorem frz_ok {i : Nat} {ts : TS} (k : TSok D ms ts) : TSok D (sFrz i ms) ts := by
  intro G W M σ H env re Dn q
  unfold sFrz at q
  split at q
  · rename_i t e
    obtain ⟨a, h1, h2, h3, h4⟩ := re.own i _ t e
    refine k G _ _ σ H _ (re.freeze e h1) Dn ?_
    exact PstS.evs ⟨fun c o h n => h, fun c h => h, fun c w _ => w.1, fun c w _ => w.1⟩ q
  · exact k G W M σ H env re Dn q
  · exact q.elim
theorem mss_frz (i : Nat) (h : MSs D sts ms) : MSs D sts (sFrz i ms) := by
  obtain ⟨t, p, k⟩ := h
  exact ⟨t, p, frz_ok k⟩
theorem ms_frz (i : Nat) (h : MS D st ms) : MS D st (sFrz i ms) := by
  obtain ⟨t, p, k⟩ := h
  exact ⟨t, p, frz_ok k⟩

/-! ### methods of a thing of the frame's own -/
theorem RE.write' {G : Gh} {W M : Addr → Prop} {σ : L2.St} {H H' : Hp} {env : EnvM} {i : Nat} {b : Bool} {a : Addr} {t t1 : T} (r : RE D.K G W M σ H env) (e : env[i]? = some (.own b t)) (ha : σ[i]? = some (some (.ref a))) (ev : Ev (fun x => x = a) H H') (mu : Mut (H' a)) (h : IsO D.K W H' a t1) : RE D.K G W M σ H' (env.set i (.own b t1)) ∧ Ev M H H' := by
  refine ⟨r.write e ha (fun c o h n => ev.keep c o h n) ev.trk mu h, ⟨fun c o h n => ev.keep c o h fun z => n ?_, ev.trk⟩⟩
  obtain ⟨a', h1, h2, _⟩ := r.own i b t e
  rw [ha] at h1; cases h1
  rw [z]; exact h2
def OwnOK (K : PySem.W.Frag) (r : V → List V → Hp → VK → Prop) (f : T → List T → R (T × T)) : Prop :=
  ∀ (W : Addr → Prop) (H : Hp) (a : Addr) (t : T) (vs : List V) (ts : List T) (u t1 : T) (Q : VK), Muts W H → W a → IsO K W H a t → IsL K W H vs ts → f t ts = .ok (u, t1) →
    (∀ v H', Ev (fun x => x = a) H H' → Mut (H' a) → IsO K W H' a t1 → Is K W H' v u → Q v H') → r (.ref a) vs H Q
@[simp] def xOm (i : Nat) (f : T → List T → R (T × T)) (am : AM) : XM := fun env => match env[i]? with
  | some (.own _ _) => (am env).bind fun (ts, e1) => match e1[i]? with
    | some (.own b t) => match f t ts with
      | .ok (u, t1) => .ok (u, e1.set i (.own b t1))
      | _ => .no
    | _ => .no
  | _ => .no
@[simp] def tyO : String → T → Bool
  | "list", .lst _ => true
  | "dict", .dct _ _ _ => true
  | _, _ => false
theorem tyO_ty {K : PySem.W.Frag} {W : Addr → Prop} {H : Hp} {a : Addr} {t : T} {Ty : String} (h : IsO K W H a t) (e : tyO Ty t = true) : tyV K Ty (.ref a) H := by
  unfold tyO at e
  split at e
  · obtain ⟨xs, hx, _⟩ := h; exact .inl ⟨rfl, xs, .of hx⟩
  · obtain ⟨o, ws, hx, d, _⟩ := h
    cases d with
    | k kvs _ => exact .inr (.inr (.inl ⟨rfl, .inl ⟨kvs, hx⟩⟩))
    | t kvs _ => exact .inr (.inr (.inl ⟨rfl, .inr ⟨kvs, hx⟩⟩))
  · cases e
/-- as xOm, the thing's kind known ahead of the arguments -/
@[simp] def xOmT (Ty : String) (i : Nat) (f : T → List T → R (T × T)) (am : AM) : XM := fun env => match env[i]? with
  | some (.own _ t) => if tyO Ty t then xOm i f am env else .no
  | _ => .no
theorem om_ok {Ty : String} {r : V → List V → Hp → VK → Prop} {i : Nat} {f : T → List T → R (T × T)} {am : AM} {ta : TA} (hf : OwnOK D.K r f) (ka : TAok D am ta) : TEok D (xOmT Ty i f am) (tBM D.K Ty r (tVar i) ta) := by
  intro G W M σ H env re Q q
  unfold xOmT at q
  split at q
  · rename_i b0 t0 e0
    split at q
    · rename_i hty
      obtain ⟨a0, h0, _, h3, _⟩ := re.own i b0 t0 e0
      refine ⟨.ref a0, h0, tyO_ty h3 hty, ?_⟩
      unfold xOm at q
      rw [e0] at q
      dsimp only at q
      refine pstA_bind (P := Pst D G W M σ H Q) ka re (fun c t h => h) (fun h => h) q fun ts e1 vs H1 ev1 re1 l1 q1 => ?_
      dsimp only at q1
      split at q1
      · rename_i b t e2
        obtain ⟨a1, h1, hm, ho, _⟩ := re1.own i b t e2
        rw [h0] at h1; cases h1
        cases z : f t ts with
        | ex c t => rw [z] at q1; exact (q1 : False).elim
        | no => rw [z] at q1; exact (q1 : False).elim
        | ok w =>
          obtain ⟨u, t1⟩ := w
          rw [z] at q1
          refine hf W H1 a0 t vs ts u t1 Q re1.muts (re1.sub _ hm) ho l1 z fun v H' ev mu io iv => ?_
          obtain ⟨r2, ev2⟩ := RE.write' re1 e2 h0 ev mu io
          exact q1 v H' (ev1.trans ev2) r2 iv
      · exact (q1 : False).elim
    · exact (q : False).elim
  · exact q.elim
theorem me_om {Ty id : String} {r : V → List V → Hp → VK → Prop} {x name : Str} {f : T → List T → R (T × T)} {am : AM} {es : List Expr} {p apos : Pos} (i : Nat) (pa : PlainAttrs Ty) (slot : Slot Ty name id) (hty : typeOf (.builtin id) = pure (.type "method_descriptor")) (hm : ∀ v, MtR (D.cx v) id r)
    (hf : OwnOK D.K r f) (hN : D.N[i]? = some x) (hv : Vis D.sc x) (ha : MA D (e :: es) am)
    (hbase : ∀ env, attributeBase (.Name x p) name env (eval (.Name x p) env) = eval (.Name x p) env := by exact fun _ => rfl)
    (hfew : ∀ env, ((backTo pos (starEach (e :: es) env)).all (fun x => !x.1) && (backToKw pos (keywordEach [] env)).all (fun x => x.1.isSome)
      && decide ((e :: es).length + ([] : List Keyword).length + (if ([] : List Keyword).isEmpty then 0 else 1) < 30)) = true := by exact fun _ => rfl)
    (hline : (apos.endLine == pos.line) = true := by rfl) (hs : ∀ env, starEach (e :: es) env = (false, eval e env) :: starEach es env := by exact fun _ => rfl) (hplain : ∀ env, (backTo pos (starEach es env)).any (·.1) = false := by exact fun _ => rfl)
    (hd : (x == ("__debug__" : Str)) = false := by decide) (hcd : (x == ("__classdict__" : Str)) = false := by decide) :
    ME D (.Call (.Attribute (.Name x p) name apos) (e :: es) [] pos) (xOmT Ty i f am) := by
  obtain ⟨ta, pa', ka⟩ := ha
  exact ⟨tBM D.K Ty r (tVar i) ta, fun v g => pe_bm pa slot hty (hm v) (pe_var (X := D.cx v) hN hv hd hcd) (pa' v g) (hbase _) (hfew _) hline (hs _) (hplain _), om_ok hf ka⟩
theorem me_om0 {Ty id : String} {r : V → List V → Hp → VK → Prop} {x name : Str} {f : T → List T → R (T × T)} {p apos : Pos} (i : Nat) (pa : PlainAttrs Ty) (slot : Slot Ty name id) (hty : typeOf (.builtin id) = pure (.type "method_descriptor")) (hm : ∀ v, MtR (D.cx v) id r)
    (hf : OwnOK D.K r f) (hN : D.N[i]? = some x) (hv : Vis D.sc x)
    (hbase : ∀ env, attributeBase (.Name x p) name env (eval (.Name x p) env) = eval (.Name x p) env := by exact fun _ => rfl)
    (hline : (apos.endLine == pos.line) = true := by rfl) (hd : (x == ("__debug__" : Str)) = false := by decide) (hcd : (x == ("__classdict__" : Str)) = false := by decide) :
    ME D (.Call (.Attribute (.Name x p) name apos) [] [] pos) (xOmT Ty i f aNil) :=
  ⟨tBM0 D.K Ty r (tVar i), fun v g => pe_bm0 pa slot hty (hm v) (pe_var (X := D.cx v) hN hv hd hcd) (hbase _) hline, om_ok (ta := tNil) hf fun G W M σ H env re Q q => q [] H Ev.refl re .nil⟩
/-! append, extend, pop -/
theorem mut_upd {H : Hp} {a : Addr} {xs : List V} : Mut (upd H a (.lst xs) a) := by rw [upd_same]; trivial
theorem ev_eq {H : Hp} {a : Addr} {o : HO} : Ev (fun x => x = a) H (upd H a o) := ev_upd rfl
theorem fut_eq {W : Addr → Prop} {H : Hp} {a : Addr} {o : HO} (w : W a) : Fut W H W (upd H a o) := ev_eq.fut fun x e => by rw [e]; exact w
@[simp] def oApp : T → List T → R (T × T)
  | .lst ts, [t] => if Nat.blt ts.length 16777216 then .ok (.non, .lst (ts ++ [t])) else .no
  | _, _ => .no
theorem own_app {K : PySem.W.Frag} : OwnOK K rAppend oApp := by
  intro W H a t vs ts u t1 Q hm wa ho l e q
  unfold oApp at e
  split at e
  · rename_i us y
    split at e
    · rename_i hl
      cases e
      obtain ⟨xs, hx, lx⟩ := ho
      cases l with
      | cons i r =>
        cases r
        refine ⟨a, xs, _, rfl, rfl, hx, by rw [lx.length, sizeLine_eq]; exact Nat.le_of_ble_eq_true hl, q _ _ ev_eq mut_upd ⟨_, upd_same, ?_⟩ .non⟩
        exact (lx.fut (fut_eq wa) hm).append (.cons (i.fut (fut_eq wa) hm) .nil)
    · cases e
  · cases e
@[simp] def oExt : T → List T → R (T × T)
  | .lst ts, [.lst us] => if Nat.ble (ts.length + us.length) 16777216 then .ok (.non, .lst (ts ++ us)) else .no
  | _, _ => .no
theorem own_ext {K : PySem.W.Frag} : OwnOK K rExtend oExt := by
  intro W H a t vs ts u t1 Q hm wa ho l e q
  unfold oExt at e
  split at e
  · rename_i us ys
    split at e
    · rename_i hl
      cases e
      obtain ⟨xs, hx, lx⟩ := ho
      cases l with
      | cons i r =>
        cases r
        cases i with
        | lst n hy ly =>
          refine ⟨a, _, xs, _, rfl, rfl, hx, hy, by rw [lx.length, ly.length]; exact le_line hl, q _ _ ev_eq mut_upd ⟨_, upd_same, ?_⟩ .non⟩
          exact (lx.fut (fut_eq wa) hm).append (ly.fut (fut_eq wa) hm)
    · cases e
  · cases e
def lastT : List T → Option (List T × T)
  | [] => none
  | [t] => some ([], t)
  | t :: ts => match lastT ts with
    | some (us, u) => some (t :: us, u)
    | none => none
theorem last_eq : ∀ {ts us : List T} {u : T}, lastT ts = some (us, u) → ts = us ++ [u]
  | [], _, _, h => by cases h
  | [t], _, _, h => by cases h; rfl
  | t :: s :: ts, us, u, h => by
    unfold lastT at h
    cases z : lastT (s :: ts) with
    | none => rw [z] at h; cases h
    | some w =>
      obtain ⟨us', u'⟩ := w
      rw [z] at h
      cases h
      rw [last_eq z]; rfl
def oPop : T → List T → R (T × T)
  | .lst ts, [] => match lastT ts with
    | some (us, u) => .ok (u, .lst us)
    | none => .no
  | _, _ => .no
theorem IsL.split {K : PySem.W.Frag} {W : Addr → Prop} {H : Hp} : ∀ {xs : List V} {us : List T} {u : T}, IsL K W H xs (us ++ [u]) → ∃ ys y, xs = ys ++ [y] ∧ IsL K W H ys us ∧ Is K W H y u
  | _, [], u, .cons i l => by cases l; exact ⟨[], _, rfl, .nil, i⟩
  | _, t :: us, u, .cons i l => by
    obtain ⟨ys, y, rfl, h1, h2⟩ := IsL.split l
    exact ⟨_ :: ys, y, rfl, .cons i h1, h2⟩
theorem own_pop {K : PySem.W.Frag} : OwnOK K rPop oPop := by
  intro W H a t vs ts u t1 Q hm wa ho l e q
  unfold oPop at e
  split at e
  · rename_i us
    split at e
    · rename_i w y hl
      cases e
      obtain ⟨xs, hx, lx⟩ := ho
      rw [last_eq hl] at lx
      obtain ⟨ys, y, rfl, h1, h2⟩ := lx.split
      cases l
      refine ⟨a, _, y, rfl, rfl, hx, by simp, ?_⟩
      rw [List.dropLast_concat]
      exact q _ _ ev_eq mut_upd ⟨_, upd_same, h1.fut (fut_eq wa) hm⟩ (h2.fut (fut_eq wa) hm)
    · cases e
  · cases e
end
end M3
/-! M3, part j: defs by their bodies, calls of defs. -/
namespace M3
open PySem PySem.Spec PyProof.Rows L2

/-- a def's promise: values in, a value out, or an exception -/
def PostF (K : PySem.W.Frag) (mg : Str → Option Value) (W : Addr → Prop) (H : Hp) (Q : VK) (E : XK) : R T → Prop
  | .ok t => ∀ v H', Same H H' → Is K W H' v t → Q v H'
  | .ex c t => ∀ H' C d f v, Same H H' → mg (Str.ofString c) = some (.ref C) → H' d = some (.xd [(f, v)]) → Is K W H' v t → E (.ref C) (some d) H'
  | .no => False
def spP (K : PySem.W.Frag) (mg : Str → Option Value) (n : Nat) (m : List T → R T) : Sp := fun vs H Q E => vs.length = n ∧ ∃ W ts, Muts W H ∧ IsL K W H vs ts ∧ PostF K mg W H Q E (m ts)
/-- .. its first argument a list or dict of the caller's that it changes -/
def PostI (K : PySem.W.Frag) (mg : Str → Option Value) (W : Addr → Prop) (a : Addr) (H : Hp) (Q : VK) (E : XK) : R (T × T) → Prop
  | .ok (t, t1) => ∀ v H', Ev (fun x => x = a) H H' → Mut (H' a) → IsO K W H' a t1 → Is K W H' v t → Q v H'
  | .ex c t => ∀ H' C d f v, Ev (fun x => x = a) H H' → mg (Str.ofString c) = some (.ref C) → H' d = some (.xd [(f, v)]) → Is K W H' v t → E (.ref C) (some d) H'
  | .no => False
def spI (K : PySem.W.Frag) (mg : Str → Option Value) (n : Nat) (m : T → List T → R (T × T)) : Sp := fun vs H Q E => vs.length = n ∧ ∃ W a t vs' ts, vs = .ref a :: vs' ∧ Muts W H ∧ W a ∧ IsO K W H a t ∧ IsL K W H vs' ts ∧ PostI K mg W a H Q E (m t ts)

@[simp] def env0 (n : Nat) (ts : List T) : EnvM := ts.map Sl.val ++ List.replicate (n - ts.length) .no
@[simp] def fnM (n : Nat) (ms : SM) (ts : List T) : R T := match ms (env0 n ts) with
  | .ok (.rt t, _) => .ok t
  | .ok (.rn t, _) => .ok t
  | .ok (.nx, _) => .ok .non
  | .ex c t => .ex c t
  | _ => .no
@[simp] def envI (n : Nat) (t : T) (ts : List T) : EnvM := Sl.own true t :: (ts.map Sl.val ++ List.replicate (n - (ts.length + 1)) .no)
@[simp] def fnI (n : Nat) (ms : SM) (t : T) (ts : List T) : R (T × T) := match ms (envI n t ts) with
  | .ok (.rt u, .own true t1 :: _) => .ok (u, t1)
  | .ok (.rn u, .own true t1 :: _) => .ok (u, t1)
  | .ok (.nx, .own true t1 :: _) => .ok (.non, t1)
  | .ex c t => .ex c t
  | _ => .no

theorem get_map {α β : Type} {f : α → β} {l : List α} {i : Nat} {y : β} (h : (l.map f)[i]? = some y) : ∃ x, l[i]? = some x ∧ f x = y := by
  rw [List.getElem?_map] at h
  cases z : l[i]? with
  | none => rw [z] at h; cases h
  | some x => rw [z] at h; cases h; exact ⟨x, rfl, rfl⟩
theorem env0_get {n i : Nat} {ts : List T} {s : Sl} (h : (env0 n ts)[i]? = some s) : (∃ t, ts[i]? = some t ∧ s = .val t) ∨ s = .no := by
  unfold env0 at h
  by_cases hi : i < ts.length
  · rw [List.getElem?_append_left (by simpa using hi)] at h
    obtain ⟨t, h1, h2⟩ := get_map h
    exact .inl ⟨t, h1, h2.symm⟩
  · rw [List.getElem?_append_right (by simpa using hi)] at h
    exact .inr (List.eq_of_mem_replicate (List.mem_of_getElem? h))
theorem start_at {N : List Str} {vs : List V} {i : Nat} {v : V} (h : vs[i]? = some v) : (start N vs)[i]? = some (some v) := by
  have hl : i < vs.length := (List.getElem?_eq_some_iff.mp h).1
  unfold L2.start
  rw [List.getElem?_append_left (by simpa using hl), List.getElem?_map, h]
  rfl
section
variable {P : Program} {w : World} {K : PySem.W.Frag} {mg : Str → Option Value} {base : Heap} {tk : Nat}
abbrev Prg.dat (P : Program) (w : World) (K : PySem.W.Frag) (mg : Str → Option Value) (base : Heap) (tk : Nat) (N : List Str) (sc : Scope) (A : Around) (E : XK) : Dat :=
  { prog := P, w := w, K := K, mg := mg, base := base, tk := tk, A := A, N := N, sc := sc, fn := fun _ => true, E := E }
theorem len_start {N : List Str} {vs : List V} (h : vs.length ≤ N.length) : (start N vs).length = N.length := by
  unfold L2.start; rw [List.length_append, List.length_map, List.length_replicate]; omega
theorem re_start {W : Addr → Prop} {H : Hp} {N : List Str} {vs : List V} {ts : List T} (hm : Muts W H) (l : IsL K W H vs ts) (hn : ts.length ≤ N.length) : RE K ⟨W, H, start N vs⟩ W (fun _ => False) (start N vs) H (env0 N.length ts) where
  len := by
    rw [len_start (by rw [l.length]; exact hn)]
    unfold env0; rw [List.length_append, List.length_map, List.length_replicate]; omega
  val := fun i t e => by
    rcases env0_get e with ⟨u, h1, h2⟩ | h
    · cases h2
      obtain ⟨v, h3, h4⟩ := l.get h1
      exact ⟨v, start_at h3, h4⟩
    · cases h
  own := fun i b t e => by
    rcases env0_get e with ⟨u, h1, h2⟩ | h
    · cases h2
    · cases h
  inj := fun i j b t b' t' e _ _ => by
    rcases env0_get e with ⟨u, h1, h2⟩ | h
    · cases h2
    · cases h
  sub := fun _ h => h.elim
  muts := hm
  old := fun _ h => h
  ent := fun a h z => by have := hm a h; rw [show H a = none from z] at this; exact this
  trk := fun _ h => h
theorem re_startI {W : Addr → Prop} {H : Hp} {N : List Str} {a : Addr} {t : T} {vs : List V} {ts : List T} (hm : Muts W H) (wa : W a) (o : IsO K W H a t) (l : IsL K W H vs ts) (hn : ts.length + 1 ≤ N.length) : RE K ⟨W, H, start N (.ref a :: vs)⟩ W (fun x => x = a) (start N (.ref a :: vs)) H (envI N.length t ts) where
  len := by
    rw [len_start (by rw [List.length_cons, l.length]; exact hn)]
    unfold envI; rw [List.length_cons, List.length_append, List.length_map, List.length_replicate]; omega
  val := fun i u e => by
    cases i with
    | zero => cases e
    | succ i =>
      have e' : (ts.map Sl.val ++ List.replicate (N.length - (ts.length + 1)) .no)[i]? = some (.val u) := e
      by_cases hi : i < ts.length
      · rw [List.getElem?_append_left (by simpa using hi)] at e'
        obtain ⟨x, h1, h2⟩ := get_map e'
        cases h2
        obtain ⟨v, h3, h4⟩ := l.get h1
        exact ⟨v, start_at (by simpa using h3), h4⟩
      · rw [List.getElem?_append_right (by simpa using hi)] at e'
        have := List.eq_of_mem_replicate (List.mem_of_getElem? e')
        cases this
  own := fun i b u e => by
    cases i with
    | zero => cases e; exact ⟨a, start_at rfl, rfl, o, by rw [if_pos rfl]; exact start_at rfl⟩
    | succ i =>
      have e' : (ts.map Sl.val ++ List.replicate (N.length - (ts.length + 1)) .no)[i]? = some (.own b u) := e
      by_cases hi : i < ts.length
      · rw [List.getElem?_append_left (by simpa using hi)] at e'
        obtain ⟨x, h1, h2⟩ := get_map e'
        cases h2
      · rw [List.getElem?_append_right (by simpa using hi)] at e'
        have := List.eq_of_mem_replicate (List.mem_of_getElem? e')
        cases this
  inj := fun i j b u b' u' e e' _ => by
    have z : ∀ {k : Nat} {c : Bool} {y : T}, (envI N.length t ts)[k]? = some (.own c y) → k = 0 := fun {k c y} q => by
      cases k with
      | zero => rfl
      | succ k =>
        have e' : (ts.map Sl.val ++ List.replicate (N.length - (ts.length + 1)) .no)[k]? = some (.own c y) := q
        by_cases hi : k < ts.length
        · rw [List.getElem?_append_left (by simpa using hi)] at e'
          obtain ⟨x, h1, h2⟩ := get_map e'
          cases h2
        · rw [List.getElem?_append_right (by simpa using hi)] at e'
          have := List.eq_of_mem_replicate (List.mem_of_getElem? e')
          cases this
    rw [z e, z e']
  sub := fun x h => by rw [h]; exact wa
  muts := hm
  old := fun _ h => h
  ent := fun a h z => by have := hm a h; rw [show H a = none from z] at this; exact this
  trk := fun _ h => h
theorem evs_same {G : Gh} {W W' M' : Addr → Prop} {H H' : Hp} (e : EvS G W (fun _ => False) H W' M' H') : Same H H' := fun a o h => e.keep a o h fun z => z
theorem evs_eq {G : Gh} {W W' M' : Addr → Prop} {H H' : Hp} {a : Addr} (e : EvS G W (fun x => x = a) H W' M' H') : Ev (fun x => x = a) H H' := ⟨e.keep, e.trk⟩
theorem fn_good {N : List Str} {qual : Str} {sc : Scope} {f : Addr} {cd : Value} {A : Around} {outer : List Env} {s : Shared} {H : Hp} {E : XK} (ht : tk ≤ s.toks) :
    ∃ v, cxOf (L2.CX P w) P w K mg base N qual sc f cd A outer s H E = (Prg.dat P w K mg base tk N sc (A.deeper (envOfC qual sc s.heap.objs.size f cd)) E).cx v ∧ (Prg.dat P w K mg base tk N sc (A.deeper (envOfC qual sc s.heap.objs.size f cd)) E).Good v := by
  refine ⟨{ s0 := s, H0 := H, env := envOfC qual sc s.heap.objs.size f cd, outer := outer, stack := envOfC qual sc s.heap.objs.size f cd :: outer, ex := [], pn := [], xe := fun e s' => wpAny (model P w) (A.deeper (envOfC qual sc s.heap.objs.size f cd)) (leaving (envOfC qual sc s.heap.objs.size f cd) e) (fun _ s'' => L2.CX P w outer H s E e s'') (fun e' s'' => L2.CX P w outer H s E e' s'') s' }, rfl, ?_⟩
  have tks : Takes (cxOf (L2.CX P w) P w K mg base N qual sc f cd A outer s H E) (fun cls d _ H => E cls d H) := takes_of rfl rfl rfl rfl
  exact ⟨passes_call tks fun _ _ _ _ h => h, tks, passes_of (X := cxOf (L2.CX P w) P w K mg base N qual sc f cd A outer s H E) rfl, ht⟩
end
theorem IsO.weak {K : PySem.W.Frag} {W W' : Addr → Prop} {H : Hp} {a : Addr} {t : T} (o : IsO K W H a t) (h : ∀ x, W' x → W x) : IsO K W' H a t := by
  cases t with
  | lst ts => obtain ⟨xs, e, l⟩ := o; exact ⟨xs, e, l.weak h⟩
  | dct b ks vs => obtain ⟨o, ws, e, z, l⟩ := o; exact ⟨o, ws, e, z, l.weak h⟩
  | _ => exact o.elim
theorem IsO.val {K : PySem.W.Frag} {W W1 : Addr → Prop} {H : Hp} {p : Addr} {t : T} (o : IsO K W1 H p t) (h : ∀ x, W x → W1 x) (np : ¬ W p) : Is K W H (.ref p) t := by
  cases t with
  | lst ts => obtain ⟨xs, e, l⟩ := o; exact .lst np e (l.weak h)
  | dct b ks vs => obtain ⟨o, ws, e, z, l⟩ := o; exact .dct np e (.of z) (l.weak h)
  | _ => exact o.elim
/-- a def that gives back a fresh thing -/
def PostN (K : PySem.W.Frag) (mg : Str → Option Value) (W : Addr → Prop) (H : Hp) (Q : VK) (E : XK) : R T → Prop
  | .ok t => ∀ p H', Same H H' → H p = none → IsO K (fun a => W a ∨ a = p) H' p t → Q (.ref p) H'
  | .ex c t => ∀ H' C d f v, Same H H' → mg (Str.ofString c) = some (.ref C) → H' d = some (.xd [(f, v)]) → Is K W H' v t → E (.ref C) (some d) H'
  | .no => False
def spN (K : PySem.W.Frag) (mg : Str → Option Value) (n : Nat) (m : List T → R T) : Sp := fun vs H Q E => vs.length = n ∧ ∃ W ts, Muts W H ∧ IsL K W H vs ts ∧ PostN K mg W H Q E (m ts)
@[simp] def fnN (n : Nat) (ms : SM) (ts : List T) : R T := match ms (env0 n ts) with
  | .ok (.rn t, _) => .ok t
  | .ex c t => .ex c t
  | _ => .no
section
variable {P : Program} {w : World} {K : PySem.W.Frag} {mg : Str → Option Value} {base : Heap} {tk : Nat}
theorem fn_new {x qual : Str} {st : Stmt} {f : Addr} {fd : FuncData} {N ps : List Str} {k : Nat} {ms : SM} (F : Fun K x qual st f fd) (S : FnScope N ps (defScope st))
    (h : ∀ A E, Room k A → MSs (Prg.dat P w K mg base tk N (defScope st) A E) (defBody st) ms) : FnOk tk P w K mg base (L2.CX P w) (k + 1) f fd ps (spN K mg ps.length (fnN N.length ms)) := by
  have hpl : ps.length ≤ N.length := by have := congrArg List.length S.pre; rw [List.length_take] at this; omega
  refine Fun.okT F S (fun vs H Q E h => h.1) fun cdv A outer s H vs Q E ht hr hsp => ?_
  obtain ⟨hl, W, ts, hm, l, q⟩ := hsp
  obtain ⟨v, ec, gd⟩ := fn_good (P := P) (w := w) (K := K) (mg := mg) (base := base) (N := N) (qual := qual) (sc := defScope st) (f := f) (cd := cdv) (A := A) (outer := outer) (s := s) (H := H) (E := E) ht
  obtain ⟨t, p, kk⟩ := h _ E hr
  refine ⟨t, by rw [ec]; exact p v gd, ?_⟩
  have re := re_start (N := N) hm l (by rw [← l.length, hl]; exact hpl)
  refine kk _ _ _ _ H _ re _ ?_
  unfold fnN at q
  cases z : ms (env0 N.length ts) with
  | ok w2 =>
    obtain ⟨fl, e2⟩ := w2
    rw [z] at q
    cases fl with
    | rn u => exact fun W' M' σ' H' es re' p hp io => q p H' (evs_same es) hp (io.weak fun x hx => hx.imp (re'.old x) id)
    | nx => exact q.elim
    | rt u => exact q.elim
    | bk => exact q.elim
    | ct => exact q.elim
  | ex c t =>
    rw [z] at q
    intro W' M' H' es old H2 C d f v ev2 hC hd iv
    exact q H2 C d f v (fun a o h => ev2.keep a o (es.keep a o h fun z => z) fun m => es.hM a m (by rw [h]; exact fun y => nomatch y)) hC hd (iv.weak old)
  | no => rw [z] at q; exact q
/-- a def of values by its body -/
theorem fn_pure {x qual : Str} {st : Stmt} {f : Addr} {fd : FuncData} {N ps : List Str} {k : Nat} {ms : SM} (F : Fun K x qual st f fd) (S : FnScope N ps (defScope st))
    (h : ∀ A E, Room k A → MSs (Prg.dat P w K mg base tk N (defScope st) A E) (defBody st) ms) : FnOk tk P w K mg base (L2.CX P w) (k + 1) f fd ps (spP K mg ps.length (fnM N.length ms)) := by
  have hpl : ps.length ≤ N.length := by have := congrArg List.length S.pre; rw [List.length_take] at this; omega
  refine Fun.okT F S (fun vs H Q E h => h.1) fun cdv A outer s H vs Q E ht hr hsp => ?_
  obtain ⟨hl, W, ts, hm, l, q⟩ := hsp
  obtain ⟨v, ec, gd⟩ := fn_good (P := P) (w := w) (K := K) (mg := mg) (base := base) (N := N) (qual := qual) (sc := defScope st) (f := f) (cd := cdv) (A := A) (outer := outer) (s := s) (H := H) (E := E) ht
  obtain ⟨t, p, kk⟩ := h _ E hr
  refine ⟨t, by rw [ec]; exact p v gd, ?_⟩
  have re := re_start (N := N) hm l (by rw [← l.length, hl]; exact hpl)
  refine kk _ _ _ _ H _ re _ ?_
  unfold fnM at q
  cases z : ms (env0 N.length ts) with
  | ok w2 =>
    obtain ⟨fl, e2⟩ := w2
    rw [z] at q
    cases fl with
    | nx => exact fun W' M' σ' H' es re' => q .non H' (evs_same es) .non
    | rt u => exact fun W' M' σ' H' es re' v iv => q v H' (evs_same es) (iv.weak re'.old)
    | rn u => exact fun W' M' σ' H' es re' p hp io => q _ H' (evs_same es) (io.val (fun x hx => .inl (re'.old x hx)) fun wp => re'.ent p wp hp)
    | bk => exact q.elim
    | ct => exact q.elim
  | ex c t =>
    rw [z] at q
    intro W' M' H' es old H2 C d f v ev2 hC hd iv
    exact q H2 C d f v (fun a o h => ev2.keep a o (es.keep a o h fun z => z) fun m => es.hM a m (by rw [h]; exact fun y => nomatch y)) hC hd (iv.weak old)
  | no => rw [z] at q; exact q
/-- a def that changes its first argument -/
theorem fn_io {x qual : Str} {st : Stmt} {f : Addr} {fd : FuncData} {N ps : List Str} {k : Nat} {ms : SM} (F : Fun K x qual st f fd) (S : FnScope N ps (defScope st))
    (h : ∀ A E, Room k A → MSs (Prg.dat P w K mg base tk N (defScope st) A E) (defBody st) ms) : FnOk tk P w K mg base (L2.CX P w) (k + 1) f fd ps (spI K mg ps.length (fnI N.length ms)) := by
  have hpl : ps.length ≤ N.length := by have := congrArg List.length S.pre; rw [List.length_take] at this; omega
  refine Fun.okT F S (fun vs H Q E h => h.1) fun cdv A outer s H vs Q E ht hr hsp => ?_
  obtain ⟨hl, W, a, t0, vs', ts, rfl, hm, wa, io, l, q⟩ := hsp
  obtain ⟨v, ec, gd⟩ := fn_good (P := P) (w := w) (K := K) (mg := mg) (base := base) (N := N) (qual := qual) (sc := defScope st) (f := f) (cd := cdv) (A := A) (outer := outer) (s := s) (H := H) (E := E) ht
  obtain ⟨t, p, kk⟩ := h _ E hr
  refine ⟨t, by rw [ec]; exact p v gd, ?_⟩
  have re := re_startI (N := N) hm wa io l (by rw [← l.length]; rw [List.length_cons] at hl; omega)
  refine kk _ _ _ _ H _ re _ ?_
  unfold fnI at q
  have fin : ∀ {W' M' : Addr → Prop} {σ' : L2.St} {H' : Hp} {t1 : T} {r : EnvM}, RE K ⟨W, H, start N (.ref a :: vs')⟩ W' M' σ' H' (.own true t1 :: r) → IsO K W H' a t1 ∧ Mut (H' a) := fun {W' M' σ' H' t1 r} re' => by
    obtain ⟨a', h1, h2, h3, h4⟩ := re'.own 0 true t1 rfl
    rw [if_pos rfl] at h4
    have h5 : (start N (.ref a :: vs'))[0]? = some (some (.ref a)) := start_at rfl
    rw [h5] at h4
    cases h4
    exact ⟨h3.weak re'.old, re'.muts _ (re'.sub _ h2)⟩
  cases z : ms (envI N.length t0 ts) with
  | ok w2 =>
    obtain ⟨fl, e2⟩ := w2
    rw [z] at q
    cases fl with
    | nx =>
      cases e2 with
      | nil => exact q.elim
      | cons s r =>
        cases s with
        | own b t1 =>
          cases b with
          | true =>
            intro W' M' σ' H' es re'
            obtain ⟨i1, i2⟩ := fin re'
            exact q .non H' (evs_eq es) i2 i1 .non
          | false => exact q.elim
        | val t => exact q.elim
        | no => exact q.elim
    | rt u =>
      cases e2 with
      | nil => exact q.elim
      | cons s r =>
        cases s with
        | own b t1 =>
          cases b with
          | true =>
            intro W' M' σ' H' es re' v iv
            obtain ⟨i1, i2⟩ := fin re'
            exact q v H' (evs_eq es) i2 i1 (iv.weak re'.old)
          | false => exact q.elim
        | val t => exact q.elim
        | no => exact q.elim
    | rn u =>
      cases e2 with
      | nil => exact q.elim
      | cons s r =>
        cases s with
        | own b t1 =>
          cases b with
          | true =>
            intro W' M' σ' H' es re' p hp io
            obtain ⟨i1, i2⟩ := fin re'
            exact q _ H' (evs_eq es) i2 i1 (io.val (fun x hx => .inl (re'.old x hx)) fun wp => re'.ent p wp hp)
          | false => exact q.elim
        | val t => exact q.elim
        | no => exact q.elim
    | bk => exact q.elim
    | ct => exact q.elim
  | ex c t =>
    rw [z] at q
    intro W' M' H' es old H2 C d f v ev2 hC hd iv
    exact q H2 C d f v ⟨fun b o h n => ev2.keep b o (es.keep b o h n) fun m => n (es.hM b m (by rw [h]; exact fun y => nomatch y)), fun b h => ev2.trk b (es.trk b h)⟩ hC hd (iv.weak old)
  | no => rw [z] at q; exact q
end

/-! ### calls -/
section
variable {D : Dat} {e a b c : Expr} {m ma mb mc : XM} {tm : TM} {pos p : Pos} {k : Nat} {f : Addr} {fd : FuncData} {ps : List Str} {x : Str} {es : List Expr}
theorem post_call {G : Gh} {W M : Addr → Prop} {σ : L2.St} {H : Hp} {env : EnvM} {Q : VK} {r : R T} (re : RE D.K G W M σ H env) (q : Pst D G W M σ H Q (r.bind fun t => .ok (t, env))) : PostF D.K D.mg W H Q D.E r := by
  cases r with
  | ok t => exact fun v H' s i => q v H' (.same s) (re.same s) i
  | ex c t => exact fun H' C d f v s hC hd i => q H' C d f v (.same s) hC hd i
  | no => exact q
structure FnD (D : Dat) (x : Str) (k : Nat) (f : Addr) (fd : FuncData) (ps : List Str) (sp : Sp) : Prop where
  ok : FnOk D.tk D.prog D.w D.K D.mg D.base (L2.CX D.prog D.w) k f fd ps sp
  room : Room k D.A
  mg : D.mg x = some (.ref f)
  kp : PySem.W.keepIn D.K (.ref f) = true
@[simp] def xCall (n : Nat) (g : List T → R T) (am : AM) : XM := fun env => (am env).bind fun (ts, e1) => if Nat.beq ts.length n then (g ts).bind fun t => .ok (t, e1) else .no
theorem me_call {n : Nat} {g : List T → R T} {am : AM} (F : FnD D x k f fd ps (spP D.K D.mg n g)) (hb : Binds D.K fd ps []) (hg : D.sc.names.lookup x = some .globalImplicit) (ha : MA D (e :: es) am) (hdb : (x == ("__debug__" : Str)) = false := by decide)
    (he : ∀ env, starEach (e :: es) env = (false, eval e env) :: starEach es env := by exact fun _ => rfl) (hpl : ∀ env, (backTo pos (starEach es env)).any (·.1) = false := by exact fun _ => rfl) :
    ME D (.Call (.Name x p) (e :: es) [] pos) (xCall n g am) := by
  obtain ⟨t, pa, ka⟩ := ha
  refine ⟨tCall (spP D.K D.mg n g) [] D.E t, fun v gd => pe_call (X := D.cx v) F.ok gd.tok F.room hg F.mg F.kp hb .nil gd.pas (pa v gd) hdb (he _) (hpl _), fun G W M σ H env re Q q => ?_⟩
  refine pstA_bind (P := Pst D G W M σ H Q) ka re (fun c t h => h) (fun h => h) q fun ts e1 vs H1 ev1 re1 l1 q1 => ?_
  dsimp only at q1
  split at q1
  · rename_i hl
    rw [List.append_nil]
    exact ⟨by rw [l1.length]; exact Nat.eq_of_beq_eq_true hl, W, ts, re1.muts, l1, post_call re1 (q1.ev ev1)⟩
  · exact (q1 : False).elim
theorem me_call0 {g : List T → R T} (F : FnD D x k f fd ps (spP D.K D.mg 0 g)) (hb : Binds D.K fd ps []) (hg : D.sc.names.lookup x = some .globalImplicit) (hdb : (x == ("__debug__" : Str)) = false := by decide) :
    ME D (.Call (.Name x p) [] [] pos) (xCall 0 g aNil) := by
  refine ⟨tCall (spP D.K D.mg 0 g) [] D.E tNil, fun v gd => pe_call0 (X := D.cx v) F.ok gd.tok F.room hg F.mg F.kp hb .nil gd.pas hdb, fun G W M σ H env re Q q => ?_⟩
  exact ⟨rfl, W, [], re.muts, .nil, post_call re q⟩
/-! keywords -/
@[simp] def pick {α : Type} : List Nat → List α → List α
  | [], _ => []
  | i :: is, xs => match xs[i]? with
    | some x => x :: pick is xs
    | none => pick is xs
theorem Vals.pick {xs : List V} {us : List Value} (r : Vals xs us) : ∀ is, Vals (M3.pick is xs) (M3.pick is us)
  | [] => .nil
  | i :: is => by
    simp only [M3.pick]
    cases z : xs[i]? with
    | some x => obtain ⟨u, hu, ru⟩ := r.get z; rw [hu]; exact .cons ru (Vals.pick r is)
    | none =>
      rw [List.getElem?_eq_none_iff] at z
      rw [List.getElem?_eq_none (by rw [← r.length]; exact z)]
      exact Vals.pick r is
theorem IsL.pick {K : PySem.W.Frag} {W : Addr → Prop} {H : Hp} {xs : List V} {ts : List T} (r : IsL K W H xs ts) : ∀ is, IsL K W H (M3.pick is xs) (M3.pick is ts)
  | [] => .nil
  | i :: is => by
    simp only [M3.pick]
    cases z : xs[i]? with
    | some x => obtain ⟨u, hu, ru⟩ := r.get' z; rw [hu]; exact .cons ru (IsL.pick r is)
    | none =>
      rw [List.getElem?_eq_none_iff] at z
      rw [List.getElem?_eq_none (by rw [← r.length]; exact z)]
      exact IsL.pick r is
theorem kbn {K : PySem.W.Frag} {x qual : Str} {st : Stmt} {f : Addr} {fd : FuncData} {ps ks : List Str} {n : Nat} {perm : List Nat} (F : Fun K x qual st f fd)
    (h : ∀ (kV doc pm : Value) (an : Option Addr) (cdv ct : Value) (us ws : List Value), us.length = n → ws.length = ks.length → bindArgs (PySem.W.fnOf x qual (defArgs st) (defBody st) (defScope st) .none kV doc pm an cdv ct) ⟨us, ks.zip ws⟩ = pure (ps.zip (pick perm (us ++ ws)))) :
    KBn K fd ps n ks (fun us ws => pick perm (us ++ ws)) (fun vs zs => pick perm (vs ++ zs)) := by
  obtain ⟨oc, od, kV, doc, pm, an, cdv, ct, osl, rfl, lk, hcd⟩ := F.ex
  exact ⟨fun s us ws _ l1 l2 => .of_eq (h kV doc pm an cdv ct us ws l1 l2), fun r1 r2 => Vals.pick (r1.append r2) perm⟩
def MK (D : Dat) (kws : List Keyword) (m : AM) : Prop := ∃ ta, (∀ v, D.Good v → PK (D.cx v) kws ta) ∧ TAok D m ta
theorem mk_nil : MK D [] aNil := ⟨tNil, fun v _ => pk_nil, fun G W M σ H env r Q q => q [] H Ev.refl r .nil⟩
theorem mk_cons {nm : Option Str} {kpos : Pos} {kws : List Keyword} {r : AM} (h1 : ME D e m) (h2 : MK D kws r) : MK D (⟨nm, e, kpos⟩ :: kws) (aCons m r) := by
  obtain ⟨t1, p1, k1⟩ := h1
  obtain ⟨t2, p2, k2⟩ := h2
  refine ⟨tCons t1 t2, fun v g => pk_cons (p1 v g) (p2 v g), fun G W M σ H env re Q q => ?_⟩
  refine pst_bind (P := PstA D G W M σ H Q) k1 re (fun c t h => h) (fun h => h) q fun t env1 v H1 ev1 re1 i1 q1 => ?_
  refine pstA_bind (P := PstA D G W M σ H Q) k2 re1 (fun c t h => ExW.ev ev1 h) (fun h => h) q1 fun ts env2 vs H2 ev2 re2 i2 q2 => ?_
  exact q2 (v :: vs) H2 (ev1.trans ev2) re2 (.cons (i1.ev ev2 re1) i2)
@[simp] def xCallK (n j l : Nat) (perm : List Nat) (g : List T → R T) (am ak : AM) : XM := fun env => (am env).bind fun (ts, e1) => (ak e1).bind fun (us, e2) =>
  if (Nat.beq ts.length j && Nat.beq us.length l) && Nat.beq (pick perm (ts ++ us)).length n then (g (pick perm (ts ++ us))).bind fun t => .ok (t, e2) else .no
theorem callK_ok {n j l : Nat} {perm : List Nat} {g : List T → R T} {am ak : AM} {t tk : TA} (ka : TAok D am t) (kk : TAok D ak tk) :
    TEok D (xCallK n j l perm g am ak) (tCallN j l (spP D.K D.mg n g) (fun vs zs => pick perm (vs ++ zs)) D.E t tk) := by
  intro G W M σ H env re Q q
  refine pstA_bind (P := Pst D G W M σ H Q) ka re (fun c t h => h) (fun h => h) q fun ts e1 vs H1 ev1 re1 l1 q1 => ?_
  refine pstA_bind (P := Pst D G W M σ H Q) kk re1 (fun c t h => ExW.ev ev1 h) (fun h => h) q1 fun us e2 zs H2 ev2 re2 l2 q2 => ?_
  dsimp only at q2
  split at q2
  · rename_i hh
    have l3 := IsL.pick ((l1.ev ev2 re1).append l2) perm
    obtain ⟨h12, h3⟩ := Bool.and_eq_true_iff.mp hh
    obtain ⟨h1, h2⟩ := Bool.and_eq_true_iff.mp h12
    exact ⟨by rw [l1.length]; exact Nat.eq_of_beq_eq_true h1, by rw [l2.length]; exact Nat.eq_of_beq_eq_true h2, by rw [l3.length]; exact Nat.eq_of_beq_eq_true h3, W, _, re2.muts, l3, post_call re2 (Pst.ev (ev1.trans ev2) q2)⟩
  · exact (q2 : False).elim
theorem me_callK {n : Nat} {perm : List Nat} {ks : List Str} {kws : List Keyword} {g : List T → R T} {am ak : AM} (F : FnD D x k f fd ps (spP D.K D.mg n g)) (hb : KBn D.K fd ps (e :: es).length ks (fun us ws => pick perm (us ++ ws)) (fun vs zs => pick perm (vs ++ zs))) (hg : D.sc.names.lookup x = some .globalImplicit) (ha : MA D (e :: es) am) (hk : MK D kws ak)
    (hall : ∀ env, (backToKw pos (keywordEach kws env)).all (·.1.isSome) = true := by exact fun _ => rfl) (hks : ∀ env, (backToKw pos (keywordEach kws env)).filterMap (·.1) = ks := by exact fun _ => rfl)
    (hdb : (x == ("__debug__" : Str)) = false := by decide) (he : ∀ env, starEach (e :: es) env = (false, eval e env) :: starEach es env := by exact fun _ => rfl)
    (hpl : ∀ env, ((backTo pos (starEach (e :: es) env)).any (·.1) || (backToKw pos (keywordEach kws env)).any (·.1.isNone)) = false := by exact fun _ => rfl) :
    ME D (.Call (.Name x p) (e :: es) kws pos) (xCallK n (e :: es).length ks.length perm g am ak) := by
  obtain ⟨t, pa, ka⟩ := ha
  obtain ⟨tk, pk, kk⟩ := hk
  exact ⟨_, fun v gd => pe_callN (X := D.cx v) F.ok gd.tok F.room hg F.mg F.kp hb gd.pas (pa v gd) (pk v gd) (hall _) (hks _) hdb (he _) (hpl _), callK_ok ka kk⟩
theorem me_callK0 {n : Nat} {perm : List Nat} {ks : List Str} {kws : List Keyword} {g : List T → R T} {ak : AM} (F : FnD D x k f fd ps (spP D.K D.mg n g)) (hb : KBn D.K fd ps 0 ks (fun us ws => pick perm (us ++ ws)) (fun vs zs => pick perm (vs ++ zs))) (hg : D.sc.names.lookup x = some .globalImplicit) (hk : MK D kws ak)
    (hall : ∀ env, (backToKw pos (keywordEach kws env)).all (·.1.isSome) = true := by exact fun _ => rfl) (hks : ∀ env, (backToKw pos (keywordEach kws env)).filterMap (·.1) = ks := by exact fun _ => rfl)
    (hdb : (x == ("__debug__" : Str)) = false := by decide)
    (hpl : ∀ env, ((backTo pos (starEach [] env)).any (·.1) || (backToKw pos (keywordEach kws env)).any (·.1.isNone)) = false := by exact fun _ => rfl) :
    ME D (.Call (.Name x p) [] kws pos) (xCallK n 0 ks.length perm g aNil ak) := by
  obtain ⟨tk, pk, kk⟩ := hk
  exact ⟨_, fun v gd => pe_callN0 (X := D.cx v) F.ok gd.tok F.room hg F.mg F.kp hb gd.pas (pk v gd) (hall _) (hks _) hdb (hpl _), callK_ok (t := tNil) (fun G W M σ H env re Q q => q [] H Ev.refl re .nil) kk⟩
/-! the first argument a thing of the frame's own -/
@[simp] def xCallI (n : Nat) (i : Nat) (g : T → List T → R (T × T)) (am : AM) : XM := fun env => match env[i]? with
  | some (.own _ _) => (am env).bind fun (ts, e1) => match e1[i]? with
    | some (.own b t) => if Nat.beq (ts.length + 1) n then (g t ts).bind fun (u, t1) => .ok (u, e1.set i (.own b t1)) else .no
    | _ => .no
  | _ => .no
theorem me_callI {n : Nat} {y : Str} {py : Pos} {g : T → List T → R (T × T)} {am : AM} (i : Nat) (F : FnD D x k f fd ps (spI D.K D.mg n g)) (hb : Binds D.K fd ps []) (hg : D.sc.names.lookup x = some .globalImplicit) (hN : D.N[i]? = some y) (hv : Vis D.sc y) (ha : MA D es am) (hdb : (x == ("__debug__" : Str)) = false := by decide)
    (he : ∀ env, starEach (.Name y py :: es) env = (false, eval (.Name y py) env) :: starEach es env := by exact fun _ => rfl) (hpl : ∀ env, (backTo pos (starEach es env)).any (·.1) = false := by exact fun _ => rfl)
    (hd : (y == ("__debug__" : Str)) = false := by decide) (hcd : (y == ("__classdict__" : Str)) = false := by decide) :
    ME D (.Call (.Name x p) (.Name y py :: es) [] pos) (xCallI n i g am) := by
  obtain ⟨t, pa, ka⟩ := ha
  refine ⟨tCall (spI D.K D.mg n g) [] D.E (tCons (tVar i) t), fun v gd => pe_call (X := D.cx v) F.ok gd.tok F.room hg F.mg F.kp hb .nil gd.pas (pa_cons (pe_var (X := D.cx v) hN hv hd hcd) (pa v gd) (he _)) hdb (he _) (hpl _), fun G W M σ H env re Q q => ?_⟩
  unfold xCallI at q
  split at q
  · rename_i b0 t0 e0
    obtain ⟨a0, h0, _⟩ := re.own i b0 t0 e0
    refine ⟨.ref a0, h0, ?_⟩
    refine pstA_bind (P := Pst D G W M σ H Q) ka re (fun c t h => h) (fun h => h) q fun ts e1 vs H1 ev1 re1 l1 q1 => ?_
    dsimp only at q1
    split at q1
    · rename_i b t1 e2
      obtain ⟨a1, h1, hm, ho, _⟩ := re1.own i b t1 e2
      rw [h0] at h1; cases h1
      split at q1
      · rename_i hl
        have hl' := Nat.eq_of_beq_eq_true hl
        refine ⟨by rw [List.length_append, List.length_cons, l1.length]; simpa using hl', W, a0, t1, vs, ts, by simp, re1.muts, re1.sub _ hm, ho, l1, ?_⟩
        have evm : ∀ {H'}, Ev (fun x => x = a0) H1 H' → Ev M H1 H' := fun {H'} ev => ⟨fun c o h n => ev.keep c o h fun z => n (by rw [z]; exact hm), ev.trk⟩
        cases z : g t1 ts with
        | ok w =>
          obtain ⟨u, t2⟩ := w
          rw [z] at q1
          intro v H' ev mu io iv
          obtain ⟨r2, ev2⟩ := RE.write' re1 e2 h0 ev mu io
          exact q1 v H' (ev1.trans ev2) r2 iv
        | ex c t => rw [z] at q1; exact fun H' C d f v ev hC hd i => q1 H' C d f v (ev1.trans (evm ev)) hC hd i
        | no => rw [z] at q1; exact (q1 : False).elim
      · exact (q1 : False).elim
    · exact (q1 : False).elim
  · exact q.elim

/-! ### arguments looked at: values, or things of the frame's own -/
def IsM (K : PySem.W.Frag) (W M : Addr → Prop) (H : Hp) (v : V) (t : T) : Prop := Is K W H v t ∨ ∃ a, v = .ref a ∧ M a ∧ IsO K W H a t
theorem IsM.toB {K : PySem.W.Frag} {W M : Addr → Prop} {H : Hp} {v : V} {t : T} (h : IsM K W M H v t) : IsB K W H v t := h.imp id fun ⟨a, e, _, o⟩ => ⟨a, e, o⟩
def PstM (D : Dat) (G : Gh) (W M : Addr → Prop) (σ : L2.St) (H : Hp) (Q : List V → Hp → Prop) : R (List T × EnvM) → Prop
  | .ok (ts, env') => ∀ vs H', Ev M H H' → RE D.K G W M σ H' env' → Paired (IsM D.K W M H') vs ts → Q vs H'
  | .ex c t => ExW D W M H c t
  | .no => False
def TMok (D : Dat) (m : AM) (ta : TA) : Prop := ∀ G W M σ H env, RE D.K G W M σ H env → ∀ Q, PstM D G W M σ H Q (m env) → ta σ H Q
def MM (D : Dat) (es : List Expr) (m : AM) : Prop := ∃ ta, (∀ v, D.Good v → PA (D.cx v) es ta) ∧ TMok D m ta
theorem mm_nil : MM D [] aNil := ⟨tNil, fun _ _ => pa_nil, fun G W M σ H env r Q q => q [] H Ev.refl r .nil⟩
theorem pstM_bind {G : Gh} {W M : Addr → Prop} {σ : L2.St} {H : Hp} {env : EnvM} {m : AM} {te : TA} (ok : TMok D m te) (r : RE D.K G W M σ H env) {α : Type} {f : List T × EnvM → R α} {P : R α → Prop} {Q : List V → Hp → Prop}
    (hx : ∀ c t, P (.ex c t) → ExW D W M H c t) (hn : ¬ P .no) (q : P ((m env).bind f)) (h : ∀ ts env1 vs H1, Ev M H H1 → RE D.K G W M σ H1 env1 → Paired (IsM D.K W M H1) vs ts → P (f (ts, env1)) → Q vs H1) : te σ H Q := by
  refine ok G W M σ H env r Q ?_
  cases e : m env with
  | ok p =>
    obtain ⟨t, env1⟩ := p
    rw [e] at q
    exact fun v H1 ev r1 i => h t env1 v H1 ev r1 i q
  | ex c t => rw [e] at q; exact hx c t q
  | no => rw [e] at q; exact (hn q).elim
theorem mm_val {r : AM} (h1 : ME D e m) (h2 : MM D es r) (hs : ∀ v : Vr, starEach (e :: es) (D.cx v).env = (false, eval e (D.cx v).env) :: starEach es (D.cx v).env := by intro _; rfl) : MM D (e :: es) (aCons m r) := by
  obtain ⟨t1, p1, k1⟩ := h1
  obtain ⟨t2, p2, k2⟩ := h2
  refine ⟨tCons t1 t2, fun v g => pa_cons (p1 v g) (p2 v g) (hs v), fun G W M σ H env re Q q => ?_⟩
  refine pst_bind (P := PstM D G W M σ H Q) k1 re (fun c t h => h) (fun h => h) q fun t env1 v H1 ev1 re1 i1 q1 => ?_
  refine pstM_bind (P := PstM D G W M σ H Q) k2 re1 (fun c t h => ExW.ev ev1 h) (fun h => h) q1 fun ts env2 vs H2 ev2 re2 i2 q2 => ?_
  exact q2 (v :: vs) H2 (ev1.trans ev2) re2 (.cons (.inl (i1.ev ev2 re1)) i2)
@[simp] def aOwn (i : Nat) (r : AM) : AM := fun env => match env[i]? with
  | some (.own _ _) => (r env).bind fun (ts, e1) => match e1[i]? with
    | some (.own _ t) => .ok (t :: ts, e1)
    | _ => .no
  | _ => .no
theorem mm_own {y : Str} {py : Pos} {r : AM} (i : Nat) (hN : D.N[i]? = some y) (hv : Vis D.sc y) (h2 : MM D es r) (hs : ∀ v : Vr, starEach (.Name y py :: es) (D.cx v).env = (false, eval (.Name y py) (D.cx v).env) :: starEach es (D.cx v).env := by intro _; rfl)
    (hd : (y == ("__debug__" : Str)) = false := by decide) (hcd : (y == ("__classdict__" : Str)) = false := by decide) : MM D (.Name y py :: es) (aOwn i r) := by
  obtain ⟨t2, p2, k2⟩ := h2
  refine ⟨tCons (tVar i) t2, fun v g => pa_cons (pe_var (X := D.cx v) hN hv hd hcd) (p2 v g) (hs v), fun G W M σ H env re Q q => ?_⟩
  unfold aOwn at q
  split at q
  · rename_i b0 t0 e0
    obtain ⟨a0, h0, _⟩ := re.own i b0 t0 e0
    refine ⟨.ref a0, h0, ?_⟩
    refine pstM_bind (P := PstM D G W M σ H Q) k2 re (fun c t h => h) (fun h => h) q fun ts env2 vs H2 ev2 re2 i2 q2 => ?_
    dsimp only at q2
    split at q2
    · rename_i b t e2
      obtain ⟨a1, h1, hm, ho, _⟩ := re2.own i b t e2
      rw [h0] at h1; cases h1
      exact q2 _ H2 ev2 re2 (.cons (.inr ⟨a0, rfl, hm, ho⟩) i2)
    · exact (q2 : False).elim
  · exact q.elim
mutual
def T.ground : T → Bool
  | .non => true
  | .bl _ => true
  | .int _ => true
  | .str _ => true
  | .tup ts => T.grounds ts
  | _ => false
def T.grounds : List T → Bool
  | [] => true
  | t :: ts => T.ground t && T.grounds ts
end
mutual
theorem Is.ground {K : PySem.W.Frag} {W W' : Addr → Prop} {H : Hp} : ∀ {v : V} {t : T}, T.ground t = true → Is K W H v t → Is K W' H v t
  | _, _, _, .non => .non
  | _, _, _, .bl b => .bl b
  | _, _, _, .int i => .int i
  | _, _, _, .str cs h => .str cs h
  | _, _, g, .tup q l => .tup q (IsL.ground (by simpa [T.ground] using g) l)
  | _, _, g, .lst _ _ _ => by simp [T.ground] at g
  | _, _, g, .frz _ _ => by simp [T.ground] at g
  | _, _, g, .dct _ _ _ _ => by simp [T.ground] at g
theorem IsL.ground {K : PySem.W.Frag} {W W' : Addr → Prop} {H : Hp} : ∀ {v : List V} {t : List T}, T.grounds t = true → IsL K W H v t → IsL K W' H v t
  | _, _, _, .nil => .nil
  | _, _, g, .cons q l => by
    simp only [T.grounds, Bool.and_eq_true] at g
    exact .cons (Is.ground g.1 q) (IsL.ground g.2 l)
end
@[simp] def xCallB (n : Nat) (g : List T → R T) (am : AM) : XM := fun env => (am env).bind fun (ts, e1) => if Nat.beq ts.length n then match g ts with
    | .ok t => if T.ground t then .ok (t, e1) else .no
    | _ => .no
  else .no
theorem isM_free {K : PySem.W.Frag} {W M : Addr → Prop} {H : Hp} : ∀ {vs : List V} {ts : List T}, Paired (IsM K W M H) vs ts → IsL K (fun a => W a ∧ ¬ M a) H vs ts
  | _, _, .nil => .nil
  | _, _, .cons (a := x) (b := t) q qs => by
    refine .cons ?_ (isM_free qs)
    rcases q with h | ⟨a, rfl, hm, o⟩
    · exact h.weak fun _ w => w.1
    · cases t with
      | lst ts => obtain ⟨xs, hx, l⟩ := o; exact .lst (fun w => w.2 hm) hx (l.weak fun _ w => w.1)
      | dct b ks vs => obtain ⟨o, ws, hx, e, l⟩ := o; exact .dct (fun w => w.2 hm) hx (.of e) (l.weak fun _ w => w.1)
      | _ => exact o.elim
theorem me_callB {n : Nat} {g : List T → R T} {am : AM} (F : FnD D x k f fd ps (spP D.K D.mg n g)) (hb : Binds D.K fd ps []) (hg : D.sc.names.lookup x = some .globalImplicit) (ha : MM D (e :: es) am) (hdb : (x == ("__debug__" : Str)) = false := by decide)
    (he : ∀ env, starEach (e :: es) env = (false, eval e env) :: starEach es env := by exact fun _ => rfl) (hpl : ∀ env, (backTo pos (starEach es env)).any (·.1) = false := by exact fun _ => rfl) :
    ME D (.Call (.Name x p) (e :: es) [] pos) (xCallB n g am) := by
  obtain ⟨t, pa, ka⟩ := ha
  refine ⟨tCall (spP D.K D.mg n g) [] D.E t, fun v gd => pe_call (X := D.cx v) F.ok gd.tok F.room hg F.mg F.kp hb .nil gd.pas (pa v gd) hdb (he _) (hpl _), fun G W M σ H env re Q q => ?_⟩
  refine pstM_bind (P := Pst D G W M σ H Q) ka re (fun c t h => h) (fun h => h) q fun ts e1 vs H1 ev1 re1 l1 q1 => ?_
  dsimp only at q1
  split at q1
  · rename_i hl
    have l2 := isM_free l1
    rw [List.append_nil]
    refine ⟨by rw [l2.length]; exact Nat.eq_of_beq_eq_true hl, _, ts, fun a w => re1.muts a w.1, l2, ?_⟩
    cases z : g ts with
    | ok u =>
      rw [z] at q1
      dsimp only at q1
      split at q1
      · rename_i hgr
        exact fun v H' s i => q1 v H' (ev1.trans (.same s)) (re1.same s) (i.ground hgr)
      · exact (q1 : False).elim
    | ex c t => rw [z] at q1; exact (q1 : False).elim
    | no => rw [z] at q1; exact (q1 : False).elim
  · exact (q1 : False).elim
end
end M3
/-! M3, part s: sorted(..) of ints, of texts, of tuples of ints and texts; any number of them. -/
namespace M3
open PySem PySem.Spec PyProof.Rows L2

abbrev KI := Int ⊕ List Nat
def ltN : List Nat → List Nat → Bool
  | [], [] => false
  | [], _ :: _ => true
  | _ :: _, [] => false
  | a :: as, b :: bs => if Nat.beq a b then ltN as bs else Nat.blt a b
theorem ltN_eq : ∀ {a b : List Nat}, ltN a b = decide (a < b)
  | [], [] => by simp [ltN]
  | [], _ :: _ => by simp [ltN]
  | _ :: _, [] => by simp [ltN]
  | a :: as, b :: bs => by
    unfold ltN
    by_cases h : a = b
    · subst h
      rw [if_pos (by simp), ltN_eq (a := as) (b := bs)]
      simp [List.cons_lt_cons_iff]
    · have hb : ¬ (Nat.beq a b = true) := fun z => h (Nat.eq_of_beq_eq_true z)
      rw [if_neg hb, Bool.eq_iff_iff, decide_eq_true_iff, List.cons_lt_cons_iff]
      constructor
      · intro z; exact .inl (Nat.le_of_ble_eq_true z)
      · rintro (z | ⟨z, _⟩)
        · exact Nat.ble_eq_true_of_le z
        · exact (h z).elim
/-- an item's key -/
def sk : T → Option KI
  | .int i => some (.inl i)
  | .str cs => some (.inr cs)
  | _ => none
def sks : List T → Option (List KI)
  | [] => some []
  | t :: ts => match sk t with
    | some k => (sks ts).map (k :: ·)
    | none => none
def tk : T → Option (List KI)
  | .int i => some [.inl i]
  | .str cs => some [.inr cs]
  | .tup ts => sks ts
  | _ => none
def lt1 : T → T → Bool
  | .int a, .int b => decide (a < b)
  | .int _, .str _ => true
  | .str a, .str b => ltN a b
  | _, _ => false
def eq1 : T → T → Bool
  | .int a, .int b => a == b
  | .str a, .str b => eqN a b
  | _, _ => false
def ltL : List T → List T → Bool
  | [], [] => false
  | [], _ :: _ => true
  | _ :: _, [] => false
  | x :: xs, y :: ys => if eq1 x y then ltL xs ys else lt1 x y
def ltT : T → T → Bool
  | .tup a, .tup b => ltL a b
  | a, b => lt1 a b
theorem lt1_key {a b : T} {k l : KI} (h1 : sk a = some k) (h2 : sk b = some l) : lt1 a b = itemLt k l := by
  cases a <;> simp [sk] at h1 <;> subst h1 <;> cases b <;> simp [sk] at h2 <;> subst h2 <;> first
    | rfl
    | (show ltN _ _ = strKind.blt _ _; rw [ltN_eq])
theorem eq1_key {a b : T} {k l : KI} (h1 : sk a = some k) (h2 : sk b = some l) : eq1 a b = decide (k = l) := by
  cases a <;> simp [sk] at h1 <;> subst h1 <;> cases b <;> simp [sk] at h2 <;> subst h2 <;> first
    | rfl
    | (simp [eq1]; done)
    | (simp [eq1, eqN_eq]; done)
    | (rw [Bool.eq_iff_iff]; simp [eq1])
theorem sks_cons {t : T} {ts : List T} {l : List KI} (h : sks (t :: ts) = some l) : ∃ k r, sk t = some k ∧ sks ts = some r ∧ l = k :: r := by
  simp only [sks] at h
  cases z : sk t with
  | none => rw [z] at h; cases h
  | some k =>
    rw [z] at h
    cases z2 : sks ts with
    | none => simp [z2] at h
    | some r => simp [z2] at h; exact ⟨k, r, rfl, rfl, h.symm⟩
theorem ltL_key : ∀ {a b : List T} {k l : List KI}, sks a = some k → sks b = some l → ltL a b = lexLt itemOrd k l
  | [], [], _, _, h1, h2 => by cases h1; cases h2; rfl
  | [], b :: bs, _, _, h1, h2 => by obtain ⟨k, r, _, _, rfl⟩ := sks_cons h2; cases h1; rfl
  | a :: as, [], _, _, h1, h2 => by obtain ⟨k, r, _, _, rfl⟩ := sks_cons h1; cases h2; rfl
  | a :: as, b :: bs, _, _, h1, h2 => by
    obtain ⟨k, r, q1, q2, rfl⟩ := sks_cons h1
    obtain ⟨l, u, q3, q4, rfl⟩ := sks_cons h2
    simp only [ltL]
    rw [eq1_key q1 q3]
    by_cases h : k = l
    · subst h
      rw [if_pos (by simp), lex_self (O := itemOrd)]
      exact ltL_key q2 q4
    · rw [if_neg (by simpa using h), lex_diff (O := itemOrd) h]
      exact lt1_key q1 q3
/-- one kind: scalars, or tuples -/
def isTup : T → Bool
  | .tup _ => true
  | _ => false
theorem ltT_key {a b : T} {k l : List KI} (h1 : tk a = some k) (h2 : tk b = some l) (hk : isTup a = isTup b) : ltT a b = lexLt itemOrd k l := by
  have one : ∀ {x y : KI}, lexLt itemOrd [x] [y] = itemLt x y := fun {x y} => by
    by_cases h : x = y
    · subst h; rw [lex_self (O := itemOrd)]; exact (itemOrd.irrefl x).symm
    · exact lex_diff (O := itemOrd) h
  cases a <;> simp [tk] at h1 <;> cases b <;> simp [tk] at h2 <;> simp [isTup] at hk <;> (try subst h1) <;> (try subst h2) <;> first
    | exact ltL_key h1 h2
    | (rw [one]; rfl)
    | (rw [one]; show ltN _ _ = strKind.blt _ _; rw [ltN_eq])
theorem sk_inj {a b : T} {k : KI} (h1 : sk a = some k) (h2 : sk b = some k) : a = b := by
  cases a <;> simp [sk] at h1 <;> subst h1 <;> cases b <;> simp [sk] at h2 <;> rw [h2]
theorem sks_inj : ∀ {a b : List T} {k : List KI}, sks a = some k → sks b = some k → a = b
  | [], [], _, _, _ => rfl
  | [], b :: bs, _, h1, h2 => by obtain ⟨k, r, _, _, rfl⟩ := sks_cons h2; cases h1
  | a :: as, [], _, h1, h2 => by obtain ⟨k, r, _, _, rfl⟩ := sks_cons h1; cases h2
  | a :: as, b :: bs, _, h1, h2 => by
    obtain ⟨k, r, q1, q2, rfl⟩ := sks_cons h1
    obtain ⟨l, u, q3, q4, e⟩ := sks_cons h2
    cases e
    rw [sk_inj q1 q3, sks_inj q2 q4]
theorem tk_inj {a b : T} {k : List KI} (h1 : tk a = some k) (h2 : tk b = some k) (hk : isTup a = isTup b) : a = b := by
  cases a <;> simp [tk] at h1 <;> cases b <;> simp [tk] at h2 <;> simp [isTup] at hk <;> (try subst h1) <;> (try simp at h2) <;> first
    | (rw [sks_inj h1 h2])
    | (rw [h2])
    | cases h2

/-! ### the sort -/
def insT (x : T) : List T → List T
  | [] => [x]
  | y :: ys => if ltT y x then y :: insT x ys else x :: y :: ys
def isortT : List T → List T
  | [] => []
  | x :: xs => insT x (isortT xs)
theorem ins_perm (x : T) : ∀ l : List T, (insT x l).Perm (x :: l)
  | [] => List.Perm.refl _
  | y :: ys => by
    simp only [insT]
    split
    · exact ((ins_perm x ys).cons y).trans (List.Perm.swap x y ys)
    · exact List.Perm.refl _
theorem isort_perm : ∀ l : List T, (isortT l).Perm l
  | [] => List.Perm.refl _
  | x :: xs => (ins_perm x (isortT xs)).trans ((isort_perm xs).cons x)
/-- members that compare as a total order -/
structure Tot (l : List T) : Prop where
  asym : ∀ x ∈ l, ∀ y ∈ l, ltT x y = true → ltT y x = false
  tr : ∀ x ∈ l, ∀ y ∈ l, ∀ z ∈ l, ltT y x = false → ltT z y = false → ltT z x = false
  anti : ∀ x ∈ l, ∀ y ∈ l, ltT x y = false → ltT y x = false → x = y
theorem ins_sorted {L : List T} (O : Tot L) (x : T) (hx : x ∈ L) : ∀ l : List T, (∀ y ∈ l, y ∈ L) → l.Pairwise (fun a b => ltT b a = false) → (insT x l).Pairwise (fun a b => ltT b a = false)
  | [], _, _ => List.pairwise_singleton _ _
  | y :: ys, hl, hp => by
    simp only [insT]
    obtain ⟨h1, h2⟩ := List.pairwise_cons.mp hp
    split
    · rename_i hlt
      refine List.pairwise_cons.mpr ⟨fun z hz => ?_, ins_sorted O x hx ys (fun z hz => hl z (List.mem_cons_of_mem _ hz)) h2⟩
      rcases List.mem_cons.mp ((ins_perm x ys).mem_iff.mp hz) with rfl | hz
      · exact O.asym y (hl y List.mem_cons_self) _ hx hlt
      · exact h1 z hz
    · rename_i hlt
      have hlt' : ltT y x = false := by simpa using hlt
      refine List.pairwise_cons.mpr ⟨fun z hz => ?_, hp⟩
      rcases List.mem_cons.mp hz with rfl | hz
      · exact hlt'
      · exact O.tr x hx y (hl y List.mem_cons_self) z (hl z (List.mem_cons_of_mem _ hz)) hlt' (h1 z hz)
theorem isort_sorted {L : List T} (O : Tot L) : ∀ l : List T, (∀ y ∈ l, y ∈ L) → (isortT l).Pairwise (fun a b => ltT b a = false)
  | [], _ => List.Pairwise.nil
  | x :: xs, hl => ins_sorted O x (hl x List.mem_cons_self) _ (fun y hy => hl y (List.mem_cons_of_mem _ ((isort_perm xs).mem_iff.mp hy))) (isort_sorted O xs fun y hy => hl y (List.mem_cons_of_mem _ hy))
theorem sorted_uniq {L : List T} (O : Tot L) : ∀ {a b : List T}, (∀ y ∈ a, y ∈ L) → a.Perm b → a.Pairwise (fun a b => ltT b a = false) → b.Pairwise (fun a b => ltT b a = false) → a = b
  | [], b, _, p, _, _ => (List.nil_perm.mp p).symm
  | x :: xs, [], _, p, _, _ => by have := p.length_eq; simp at this
  | x :: xs, y :: ys, hl, p, h1, h2 => by
    have e : x = y := by
      have m1 : y ∈ x :: xs := p.mem_iff.mpr List.mem_cons_self
      have m2 : x ∈ y :: ys := p.mem_iff.mp List.mem_cons_self
      rcases List.mem_cons.mp m1 with e | m1'
      · exact e.symm
      · rcases List.mem_cons.mp m2 with e | m2'
        · exact e
        · exact O.anti x (hl x List.mem_cons_self) y (hl y m1) ((List.pairwise_cons.mp h2).1 x m2') ((List.pairwise_cons.mp h1).1 y m1')
    subst e
    rw [sorted_uniq O (fun y hy => hl y (List.mem_cons_of_mem _ hy)) (List.Perm.cons_inv p) (List.pairwise_cons.mp h1).2 (List.pairwise_cons.mp h2).2]
theorem tot_of {l : List T} {k : T → List KI} {b : Bool} (h : ∀ t ∈ l, tk t = some (k t) ∧ isTup t = b) : Tot l where
  asym := fun x hx y hy hl => by
    obtain ⟨a1, a2⟩ := h x hx
    obtain ⟨b1, b2⟩ := h y hy
    rw [ltT_key a1 b1 (a2.trans b2.symm)] at hl
    rw [ltT_key b1 a1 (b2.trans a2.symm)]
    cases z : lexLt itemOrd (k y) (k x) with
    | false => rfl
    | true =>
      have := lex_trans (O := itemOrd) _ _ _ hl z
      rw [lex_irrefl] at this; cases this
  tr := fun x hx y hy z hz h1 h2 => by
    obtain ⟨a1, a2⟩ := h x hx
    obtain ⟨b1, b2⟩ := h y hy
    obtain ⟨c1, c2⟩ := h z hz
    rw [ltT_key b1 a1 (b2.trans a2.symm)] at h1
    rw [ltT_key c1 b1 (c2.trans b2.symm)] at h2
    rw [ltT_key c1 a1 (c2.trans a2.symm)]
    cases e : lexLt itemOrd (k z) (k x) with
    | false => rfl
    | true =>
      rcases lex_negTrans (O := itemOrd) (k z) (k y) (k x) e with q | q
      · rw [h2] at q; cases q
      · rw [h1] at q; cases q
  anti := fun x hx y hy h1 h2 => by
    obtain ⟨a1, a2⟩ := h x hx
    obtain ⟨b1, b2⟩ := h y hy
    rw [ltT_key a1 b1 (a2.trans b2.symm)] at h1
    rw [ltT_key b1 a1 (b2.trans a2.symm)] at h2
    have e := lex_total (O := itemOrd) _ _ h1 h2
    rw [← e] at b1
    exact tk_inj a1 b1 (a2.trans b2.symm)

/-! ### out of the library's sort -/
/-- the values, what they are, their trees, side by side -/
structure Row (K : PySem.W.Frag) (W : Addr → Prop) (H : Hp) (z : Value × V × T) : Prop where
  r : RelV z.2.1 z.1
  i : Is K W H z.2.1 z.2.2
theorem rows_of {K : PySem.W.Frag} {W : Addr → Prop} {H : Hp} : ∀ {its : List Value} {xs : List V} {ts : List T}, Vals xs its → IsL K W H xs ts → ∃ Z : List (Value × V × T), Z.map (·.1) = its ∧ Z.map (·.2.2) = ts ∧ ∀ z ∈ Z, Row K W H z
  | _, _, _, .nil, .nil => ⟨[], rfl, rfl, fun _ h => nomatch h⟩
  | _, _, _, .cons (a := x) (b := v) r rs, .cons (t := t) i l => by
    obtain ⟨Z, h1, h2, h3⟩ := rows_of rs l
    refine ⟨(v, x, t) :: Z, by rw [List.map_cons, h1], by rw [List.map_cons, h2], fun z hz => ?_⟩
    rcases List.mem_cons.mp hz with rfl | hz
    · exact ⟨r, i⟩
    · exact h3 z hz
theorem of_rows {K : PySem.W.Frag} {W : Addr → Prop} {H : Hp} : ∀ {Z : List (Value × V × T)}, (∀ z ∈ Z, Row K W H z) → Vals (Z.map (·.2.1)) (Z.map (·.1)) ∧ IsL K W H (Z.map (·.2.1)) (Z.map (·.2.2))
  | [], _ => ⟨.nil, .nil⟩
  | z :: Z, h => by
    obtain ⟨h1, h2⟩ := of_rows (Z := Z) fun y hy => h y (List.mem_cons_of_mem _ hy)
    have := h z List.mem_cons_self
    exact ⟨.cons this.r h1, .cons this.i h2⟩
theorem out_is' {K : PySem.W.Frag} {W : Addr → Prop} {H : Hp} {its out : List Value} {xs : List V} {ts : List T} {ltv : Value → Value → Bool} {key : Value → Option (List KI)} {b : Bool} {Z : List (Value × V × T)} (rv : Vals xs its) (l : IsL K W H xs ts) (z1 : Z.map (·.1) = its) (z2 : Z.map (·.2.2) = ts) (z3 : ∀ z ∈ Z, Row K W H z)
    (hk : ∀ z ∈ Z, key z.1 = tk z.2.2 ∧ (tk z.2.2).isSome = true ∧ isTup z.2.2 = b) (hlt : ∀ v u k j, key v = some k → key u = some j → ltv v u = lexLt itemOrd k j)
    (h1 : SrtO.Srtd ltv out) (h2 : SrtO.Stb ltv out its) : ∃ ys, Vals ys out ∧ IsL K W H ys (isortT ts) := by
  obtain ⟨Z', p1, p2⟩ := perm_lift (fun z : Value × V × T => z.1) h2.perm Z z1
  have z3' : ∀ z ∈ Z', Row K W H z := fun z hz => z3 z (p1.mem_iff.mp hz)
  obtain ⟨g1, g2⟩ := of_rows z3'
  rw [p2] at g1
  have O : Tot ts := tot_of (k := fun t => (tk t).getD []) (b := b) fun t ht => by
    rw [← z2] at ht
    obtain ⟨z, hz, rfl⟩ := List.mem_map.mp ht
    obtain ⟨a1, a2, a3⟩ := hk z hz
    refine ⟨?_, a3⟩
    cases e : tk z.2.2 with
    | none => rw [e] at a2; cases a2
    | some k => rfl
  have perm : (Z'.map (·.2.2)).Perm ts := by rw [← z2]; exact p1.map _
  have srt : (Z'.map (·.2.2)).Pairwise (fun a b => ltT b a = false) := by
    rw [← p2] at h1
    refine List.pairwise_map.mpr ((List.pairwise_map.mp h1).imp_of_mem fun {x y} hx hy q => ?_)
    obtain ⟨a1, a2, a3⟩ := hk x (p1.mem_iff.mp hx)
    obtain ⟨b1, b2, b3⟩ := hk y (p1.mem_iff.mp hy)
    obtain ⟨k, e1⟩ := Option.isSome_iff_exists.mp a2
    obtain ⟨j, e2⟩ := Option.isSome_iff_exists.mp b2
    rw [e1] at a1
    rw [e2] at b1
    rw [ltT_key e2 e1 (b3.trans a3.symm), ← hlt _ _ _ _ b1 a1]
    exact q
  refine ⟨_, g1, ?_⟩
  rw [← sorted_uniq O (fun y hy => perm.mem_iff.mp hy) (perm.trans (isort_perm ts).symm) srt (isort_sorted O ts fun y hy => hy)]
  exact g2
theorem out_is {K : PySem.W.Frag} {W : Addr → Prop} {H : Hp} {its out : List Value} {xs : List V} {ts : List T} {ltv : Value → Value → Bool} {key : Value → Option (List KI)} {b : Bool} (rv : Vals xs its) (l : IsL K W H xs ts)
    (hk : ∀ v t, (∃ x, RelV x v ∧ Is K W H x t) → t ∈ ts → key v = tk t ∧ (tk t).isSome = true ∧ isTup t = b) (hlt : ∀ v u k j, key v = some k → key u = some j → ltv v u = lexLt itemOrd k j)
    (h1 : SrtO.Srtd ltv out) (h2 : SrtO.Stb ltv out its) : ∃ ys, Vals ys out ∧ IsL K W H ys (isortT ts) := by
  obtain ⟨Z, z1, z2, z3⟩ := rows_of rv l
  exact out_is' rv l z1 z2 z3 (fun z hz => hk z.1 z.2.2 ⟨_, (z3 z hz).r, (z3 z hz).i⟩ (by rw [← z2]; exact List.mem_map.mpr ⟨z, hz, rfl⟩)) hlt h1 h2

/-! ### the call -/
theorem swoK (key : Value → Option (List KI)) : SrtO.Swo fun v u => lexLt itemOrd ((key v).getD []) ((key u).getD []) where
  asym := fun x y h => by
    cases z : lexLt itemOrd ((key y).getD []) ((key x).getD []) with
    | false => rfl
    | true =>
      have := lex_trans (O := itemOrd) _ _ _ h z
      rw [lex_irrefl] at this; cases this
  tr := fun x y z h1 h2 => by
    cases e : lexLt itemOrd ((key z).getD []) ((key x).getD []) with
    | false => rfl
    | true =>
      rcases lex_negTrans (O := itemOrd) _ ((key y).getD []) _ e with q | q
      · rw [h2] at q; cases q
      · rw [h1] at q; cases q
def shp (shape : Nat → Bool) : Nat → List T → Bool
  | _, [] => true
  | i, .int _ :: r => !shape i && shp shape (i + 1) r
  | i, .str _ :: r => shape i && shp shape (i + 1) r
  | _, _ :: _ => false
theorem items_val {K : PySem.W.Frag} {W : Addr → Prop} {H : Hp} {shape : Nat → Bool} : ∀ {us : List T} {xs : List V} {its : List Value} {i : Nat}, IsL K W H xs us → Vals xs its → shp shape i us = true → ∃ l, sks us = some l ∧ tupItems shape i its = some l
  | [], _, _, _, .nil, .nil, _ => ⟨[], rfl, rfl⟩
  | .int n :: us, _, _, i, .cons q l, .cons r rs, h => by
    simp only [shp, Bool.and_eq_true, Bool.not_eq_true'] at h
    obtain ⟨k, h1, h2⟩ := items_val l rs h.2
    cases isInt q
    obtain ⟨t, rfl⟩ := r
    exact ⟨.inl n :: k, by simp [sks, sk, h1], by simp [tupItems, h.1, h2]⟩
  | .str cs :: us, _, _, i, .cons q l, .cons r rs, h => by
    simp only [shp, Bool.and_eq_true] at h
    obtain ⟨k, h1, h2⟩ := items_val l rs h.2
    cases q with
    | str cs hk =>
      obtain ⟨t, rfl⟩ := r
      exact ⟨.inr cs :: k, by simp [sks, sk, h1], by simp [tupItems, h.1, h2]⟩
  | .non :: _, _, _, _, _, _, h => by simp [shp] at h
  | .bl _ :: _, _, _, _, _, _, h => by simp [shp] at h
  | .tup _ :: _, _, _, _, _, _, h => by simp [shp] at h
  | .lst _ :: _, _, _, _, _, _, h => by simp [shp] at h
  | .frz _ :: _, _, _, _, _, _, h => by simp [shp] at h
  | .dct _ _ _ :: _, _, _, _, _, _, h => by simp [shp] at h
def isI : T → Bool
  | .int _ => true
  | _ => false
def isS : T → Bool
  | .str _ => true
  | _ => false
def shapeT (us : List T) (i : Nat) : Bool := match us[i]? with
  | some t => isS t
  | none => match us with
    | t :: _ => isS t
    | [] => false
def okTup (us : List T) : T → Bool
  | .tup ws => !ws.isEmpty && shp (shapeT us) 0 ws
  | _ => false
def okSort : List T → Bool
  | [] => true
  | .int n :: ts => ts.all isI
  | .str cs :: ts => ts.all isS
  | .tup us :: ts => okTup us (.tup us) && ts.all (okTup us)
  | _ => false
def rSortT (K : PySem.W.Frag) : List V → Hp → VK → Prop := fun vs H Q => ∃ (W : Addr → Prop) (a : Addr) (xs : List V) (ts : List T), vs = [.ref a] ∧ (SqL K H a xs ∨ SqT K H a xs) ∧ IsL K W H xs ts ∧ okSort ts = true ∧
  ∀ p ys, H p = none → IsL K W H ys (isortT ts) → Q (.ref p) (upd H p (.lst ys))
section
variable {X : Cx}
theorem isort_len (ts : List T) : (isortT ts).length = ts.length := (isort_perm ts).length_eq
theorem sort_end {pins : List (Addr × Obj)} {s : Shared} {σ : L2.St} {H : Hp} {W : Addr → Prop} {Q : VK} {xs ys : List V} {ts : List T} {its out : List Value} (I : Inv X pins σ H s) (hz : xs.length ≤ sizeLine) (l : IsL X.K W H xs ts) (rv : Vals ys out) (l2 : IsL X.K W H ys (isortT ts))
    (q : ∀ p ys, H p = none → IsL X.K W H ys (isortT ts) → Q (.ref p) (upd H p (.lst ys))) : EP X pins σ Q (.ref (s.heap.objs.size + 1)) { s with heap := sortedAll s.heap its out.toArray } := by
  obtain ⟨ep, he'⟩ := PyProof.Rows.sortedAll_at s.heap its out.toArray
  have hlen : ys.length ≤ sizeLine := by rw [l2.length, isort_len, ← l.length]; exact hz
  exact ⟨.ref _, upd H (s.heap.objs.size + 1) (.lst ys), I.laid (t' := s.toks) (fun _ _ => PyProof.Rows.sortedAll_old) (Nat.le_succ _) ⟨hlen, out, ep, rv, he'⟩, rfl, q _ _ (I.hok.fresh (Nat.le_succ _)) l2⟩
def keyI : Value → Option (List KI)
  | .int n _ => some [.inl n]
  | _ => none
def keyS : Value → Option (List KI)
  | .str x _ => some [.inr x.cps.toList]
  | _ => none
theorem ints_of {K : PySem.W.Frag} {W : Addr → Prop} {H : Hp} : ∀ {ts : List T} {xs : List V}, IsL K W H xs ts → ts.all isI = true → ∃ ns : List Int, xs = ns.map V.int
  | [], _, .nil, _ => ⟨[], rfl⟩
  | .int n :: ts, _, .cons q l, h => by
    simp only [List.all_cons, Bool.and_eq_true] at h
    obtain ⟨ns, e⟩ := ints_of l h.2
    exact ⟨n :: ns, by rw [isInt q, e]; rfl⟩
  | .non :: _, _, _, h => by simp [isI] at h
  | .bl _ :: _, _, _, h => by simp [isI] at h
  | .str _ :: _, _, _, h => by simp [isI] at h
  | .tup _ :: _, _, _, h => by simp [isI] at h
  | .lst _ :: _, _, _, h => by simp [isI] at h
  | .frz _ :: _, _, _, h => by simp [isI] at h
  | .dct _ _ _ :: _, _, _, h => by simp [isI] at h
theorem strs_of {K : PySem.W.Frag} {W : Addr → Prop} {H : Hp} : ∀ {ts : List T} {xs : List V} {its : List Value}, IsL K W H xs ts → Vals xs its → ts.all isS = true → ∃ ss : List Str, StrsAre its ss
  | [], _, _, .nil, .nil, _ => ⟨[], .nil⟩
  | .str cs :: ts, _, _, .cons q l, .cons r rs, h => by
    simp only [List.all_cons, Bool.and_eq_true] at h
    obtain ⟨ss, e⟩ := strs_of l rs h.2
    cases q with
    | str cs hk =>
      obtain ⟨t, rfl⟩ := r
      exact ⟨_, .cons _ t e⟩
  | .non :: _, _, _, _, _, h => by simp [isS] at h
  | .bl _ :: _, _, _, _, _, h => by simp [isS] at h
  | .int _ :: _, _, _, _, _, h => by simp [isS] at h
  | .tup _ :: _, _, _, _, _, h => by simp [isS] at h
  | .lst _ :: _, _, _, _, _, h => by simp [isS] at h
  | .frz _ :: _, _, _, _, _, h => by simp [isS] at h
  | .dct _ _ _ :: _, _, _, _, _, h => by simp [isS] at h
/-- a list or a tuple in the heap -/
def SqIn (h : Heap) (a : Addr) (xs : Array Value) : Prop := ∃ o T, (T = "list" ∨ T = "tuple") ∧ h.get? a = some o ∧ o.cls = .type T ∧ ∃ n, o.data = .seq xs n
theorem Inv.sqA {pins : List (Addr × Obj)} {s : Shared} {σ : L2.St} {H : Hp} {a : Addr} {xs : List V} (I : Inv X pins σ H s) (h : SqL X.K H a xs ∨ SqT X.K H a xs) : ∃ its : List Value, Vals xs its ∧ SqIn s.heap a its.toArray ∧ xs.length ≤ sizeLine := by
  rcases h with h | h
  · obtain ⟨its, rv, hl, hz⟩ := I.list h
    obtain ⟨o, ho, hc, n, hd⟩ := hl.isList
    exact ⟨its, rv, ⟨o, _, .inl rfl, ho, hc, n, hd⟩, hz⟩
  · obtain ⟨its, rv, ⟨o, ho, hc, n, hd⟩, hz⟩ := I.tuple h
    exact ⟨its, rv, ⟨o, _, .inr rfl, ho, hc, n, hd⟩, hz⟩
section
variable {prog : Program} {w : World} {A : Around} {E : Value → Shared → Prop} {s : Shared}
theorem collect_sq {l : Addr} {vs : List Value} {Q : List Value → Shared → Prop} (hl : SqIn s.heap l vs.toArray)
    (h : Q vs { s with heap := (s.heap.push (seqObj "list" #[] 0)).update s.heap.objs.size (Obj.mapSeq (· ++ vs.toArray)) }) (hsz : vs.length ≤ sizeLine) :
    wpAny (model prog w) A (collect (.ref l)) Q E s := by
  obtain ⟨o, T, hT, ho, hc, n, hd⟩ := id hl
  unfold collect
  refine wpAny_bind (wpAny_runValue (codeAny_builtin entry_proto_collect' ?_))
  show wpAny _ _ (do again (.builtin "list.__iadd__" ⟨[← newList [], .ref l], []⟩)) _ _ s
  refine wpAny_bind (wpAny_newList (wpAny_pure ⟨Code.quiet_builtin _ (by decide +kernel), codeAny_builtin entry_list_iadd' ?_⟩))
  show wpAny _ _ (Builtin.List.listExtendWith (.ref s.heap.objs.size) (.ref l) (.ref s.heap.objs.size)) _ _ { s with heap := s.heap.push (seqObj "list" #[] 0) }
  unfold Builtin.List.listExtendWith
  have ho' : (s.heap.push (seqObj "list" #[] 0)).get? l = some o := Heap.get?_push_of_some _ ho
  refine wpAny_bind (wpAny_typeOf (T := T) ⟨o, ho', hc⟩ ?_)
  rw [if_pos (by simp; rcases hT with rfl | rfl <;> simp)]
  refine wpAny_bind (listItems_at ho' hd ?_)
  refine wpAny_bind (listItems_at (xs := #[]) (n := 0) (Heap.get?_push_size _ rfl) rfl ?_)
  rw [if_neg (by simp)]
  refine wpAny_bind (listUpdate_at (xs := #[]) (n := 0) (Heap.get?_push_size _ rfl) rfl ?_ (Nat.zero_le _) (by show (#[] ++ vs.toArray).size ≤ sizeLine + 1; simp only [Array.size_append, List.size_toArray, List.length_nil]; omega))
  refine wpAny_pure ?_
  show wpAny (model prog w) A (do
      let o ← load s.heap.objs.size
      match o.data with
      | .seq xs _ => pure xs.toList
      | _ => unsupported "internal:collect") Q E { s with heap := (s.heap.push (seqObj "list" #[] 0)).update s.heap.objs.size (Obj.mapSeq (· ++ vs.toArray)) }
  refine wpAny_bind (wpAny_load (get?_update_seq (Heap.get?_push_size _ rfl) _) ?_)
  show wpAny _ _ (pure ((#[] : Array Value) ++ vs.toArray).toList) Q E _
  rw [show ((#[] : Array Value) ++ vs.toArray).toList = vs by simp]
  exact wpAny_pure h
open SrtO in
theorem sorted_ordA {l : Addr} {vs : List Value} {ltv : Value → Value → Bool} {Q : Value → Shared → Prop} (O : Swo ltv) (hl : SqIn s.heap l vs.toArray) (hz : vs.length ≤ sizeLine)
    (hS : 2 ≤ vs.length → ∀ (h₁ : Heap) (a : Addr), h₁.get? a = some (seqObj "list" vs.toArray 0) → (∀ b o, s.heap.get? b = some o → b ≠ a ∧ h₁.get? b = some o) → SortableO prog w A.in1.in1 { s with heap := h₁ } a vs ltv)
    (h : ∀ out : List Value, Srtd ltv out → Stb ltv out vs → Q (.ref (s.heap.objs.size + 1)) { s with heap := sortedAll s.heap vs out.toArray }) :
    wpAny (model prog w) A (call (.builtin "sorted") [.ref l]) Q E s := by
  refine Calls.call_function_entry kind_sorted plain_sorted entry_sorted (args_sorted1 _) ?_
  unfold Builtin.«sorted»
  refine wpAny_bind (m := checkCount "sorted" 1 1 _) (wpAny_pure ?_)
  refine wpAny_bind (collect_sq hl ?_ hz)
  refine wpAny_bind (wpAny_newList ?_ hz)
  have hsz : ((s.heap.push (seqObj "list" #[] 0)).update s.heap.objs.size (Obj.mapSeq (· ++ vs.toArray))).objs.size = s.heap.objs.size + 1 := by
    rw [Heap.size_update, size_push']
  have hoL : (((s.heap.push (seqObj "list" #[] 0)).update s.heap.objs.size (Obj.mapSeq (· ++ vs.toArray))).push (seqObj "list" vs.toArray 0)).get? (s.heap.objs.size + 1) = some (seqObj "list" vs.toArray 0) := by
    rw [← hsz]; exact Heap.get?_push_size _ rfl
  have keep : ∀ b o, s.heap.get? b = some o → b ≠ s.heap.objs.size + 1 ∧ (((s.heap.push (seqObj "list" #[] 0)).update s.heap.objs.size (Obj.mapSeq (· ++ vs.toArray))).push (seqObj "list" vs.toArray 0)).get? b = some o := fun b o q => by
    have hlt : b < s.heap.objs.size := Heap.lt_size q
    refine ⟨Nat.ne_of_lt (Nat.lt_succ_of_lt hlt), Heap.get?_push_of_some _ ?_⟩
    rw [Heap.get?_update_ne _ _ _ _ (Nat.ne_of_lt hlt)]
    exact Heap.get?_push_of_some _ q
  show wpAny _ _ _ _ _ { s with heap := ((s.heap.push (seqObj "list" #[] 0)).update s.heap.objs.size (Obj.mapSeq (· ++ vs.toArray))).push (seqObj "list" vs.toArray 0) }
  rw [hsz]
  refine wpAny_bind (wpAny_holding (wpAny_call_entry slot_list_sort ⟨_, hoL, rfl⟩ entry_list_sort (list_sort_ord O hoL hz (fun h2 => hS h2 _ _ hoL keep) fun out hs hb => ⟨_, rfl, ?_⟩) (args_list_sort _)))
  exact wpAny_pure ⟨_, rfl, h out hs hb⟩
end
theorem ints_srt {pins : List (Addr × Obj)} {s : Shared} {σ : L2.St} {H : Hp} {W : Addr → Prop} {Q : VK} {a : Addr} {xs : List V} {ts : List T} (I : Inv X pins σ H s) (hs : SqL X.K H a xs ∨ SqT X.K H a xs) (l : IsL X.K W H xs ts) (hi : ts.all isI = true)
    (q : ∀ p ys, H p = none → IsL X.K W H ys (isortT ts) → Q (.ref p) (upd H p (.lst ys))) : wpAny (model X.prog X.w) X.A (call (.builtin "sorted") [.ref a]) (EP X pins σ Q) X.xe s := by
  obtain ⟨its, rv, hl, hz⟩ := Inv.sqA I hs
  obtain ⟨ns, e⟩ := ints_of l hi
  have rv' := rv
  rw [e] at rv'
  have ia := rv'.ints
  refine sorted_ordA SrtO.swo_int hl (by rw [← rv.length]; exact hz) (fun h2 h₁ a' _ _ => SrtO.ints_sortable ia h2) fun out h1 h2 => ?_
  refine Exists.elim (out_is (key := keyI) (b := false) rv l (fun v t ht hm => ?_) (fun v u k j h1 h2 => ?_) h1 h2) fun ys ⟨g1, g2⟩ => sort_end I hz l g1 g2 q
  · obtain ⟨x, r, i⟩ := ht
    have := List.all_eq_true.mp hi t hm
    cases t <;> simp [isI] at this
    cases isInt i
    obtain ⟨tk, rfl⟩ := r
    exact ⟨rfl, rfl, rfl⟩
  · cases v <;> simp [keyI] at h1
    cases u <;> simp [keyI] at h2
    subst h1 h2
    rename_i n t m t'
    show decide (n < m) = _
    by_cases hh : n = m
    · subst hh
      rw [lex_self (O := itemOrd)]
      exact decide_eq_false (Int.lt_irrefl _)
    · rw [lex_diff (O := itemOrd) (fun z => hh (Sum.inl.inj z))]; rfl
theorem strs_srt {pins : List (Addr × Obj)} {s : Shared} {σ : L2.St} {H : Hp} {W : Addr → Prop} {Q : VK} {a : Addr} {xs : List V} {ts : List T} (I : Inv X pins σ H s) (hs : SqL X.K H a xs ∨ SqT X.K H a xs) (l : IsL X.K W H xs ts) (hi : ts.all isS = true)
    (q : ∀ p ys, H p = none → IsL X.K W H ys (isortT ts) → Q (.ref p) (upd H p (.lst ys))) : wpAny (model X.prog X.w) X.A (call (.builtin "sorted") [.ref a]) (EP X pins σ Q) X.xe s := by
  obtain ⟨its, rv, hl, hz⟩ := Inv.sqA I hs
  obtain ⟨ss, hS⟩ := strs_of l rv hi
  have one : ∀ {x y : KI}, lexLt itemOrd [x] [y] = itemLt x y := fun {x y} => by
    by_cases h : x = y
    · subst h; rw [lex_self (O := itemOrd)]; exact (itemOrd.irrefl x).symm
    · exact lex_diff (O := itemOrd) h
  refine sorted_ordA (swoK keyS) hl (by rw [← rv.length]; exact hz) (fun h2 h₁ a' _ _ h' _ => ⟨oneType', fun Q' E' hq => ?_, fun p q' hp hq => ?_⟩) fun out h1 h2 => ?_
  · cases its with
    | nil => simp at h2
    | cons v1 r =>
      cases r with
      | nil => simp at h2
      | cons v2 r =>
        rw [keyKind_strs hS]
        exact wpAny_pure hq
  · obtain ⟨x, t, e1⟩ := hS.all _ hp
    obtain ⟨y, u, e2⟩ := hS.all _ hq
    show wpAny _ _ (keyLt' oneType' p.1 q'.1) (fun r s' => s' = _ ∧ r = lexLt itemOrd ((keyS p.1).getD []) ((keyS q'.1).getD [])) _ _
    rw [e1, e2, keyLt'_oneType]
    refine oneLt_str ⟨rfl, ?_⟩
    show _ = lexLt itemOrd [.inr x.cps.toList] [.inr y.cps.toList]
    rw [one]
    rfl
  refine Exists.elim (out_is (key := keyS) (b := false) rv l (fun v t ht hm => ?_) (fun v u k j h1 h2 => ?_) h1 h2) fun ys ⟨g1, g2⟩ => sort_end I hz l g1 g2 q
  · obtain ⟨x, r, i⟩ := ht
    have := List.all_eq_true.mp hi t hm
    cases t <;> simp [isS] at this
    cases i with
    | str cs hk =>
      obtain ⟨t0, rfl⟩ := r
      exact ⟨rfl, rfl, rfl⟩
  · show lexLt itemOrd ((keyS v).getD []) ((keyS u).getD []) = _
    rw [h1, h2]
    rfl
theorem tup_val {pins : List (Addr × Obj)} {s : Shared} {σ : L2.St} {H : Hp} {W : Addr → Prop} {shape : Nat → Bool} {x : V} {v : Value} {us : List T} (I : Inv X pins σ H s) (i : Is X.K W H x (.tup us)) (r : RelV x v) (h : shp shape 0 us = true) :
    ∃ (a : Addr) (o : Obj) (its : List Value) (l : List KI), v = .ref a ∧ s.heap.get? a = some o ∧ o.cls = .type "tuple" ∧ (∃ n, o.data = .seq its.toArray n) ∧ sks us = some l ∧ tupItems shape 0 its = some l ∧ its.length = us.length := by
  cases i with
  | tup hx l =>
    cases r
    obtain ⟨its, rv, ⟨o, ho, hc, n, hd⟩, _⟩ := I.tuple hx
    obtain ⟨k, h1, h2⟩ := items_val l rv h
    exact ⟨_, o, its, k, rfl, ho, hc, ⟨n, hd⟩, h1, h2, by rw [← rv.length, l.length]⟩
theorem tups_srt {pins : List (Addr × Obj)} {s : Shared} {σ : L2.St} {H : Hp} {W : Addr → Prop} {Q : VK} {a : Addr} {xs : List V} {ts us : List T} (I : Inv X pins σ H s) (hs : SqL X.K H a xs ∨ SqT X.K H a xs) (l : IsL X.K W H xs ts) (hi : ts.all (okTup us) = true)
    (q : ∀ p ys, H p = none → IsL X.K W H ys (isortT ts) → Q (.ref p) (upd H p (.lst ys))) : wpAny (model X.prog X.w) X.A (call (.builtin "sorted") [.ref a]) (EP X pins σ Q) X.xe s := by
  obtain ⟨its, rv, hl, hz⟩ := Inv.sqA I hs
  obtain ⟨Z, z1, z2, z3⟩ := rows_of rv l
  -- each value: its tuple, its key
  have val : ∀ z ∈ Z, ∃ (b : Addr) (o : Obj) (ws : List Value) (k : List KI) (f : T) (ys : List T), z.1 = .ref b ∧ s.heap.get? b = some o ∧ o.cls = .type "tuple" ∧ (∃ n, o.data = .seq ws.toArray n) ∧ z.2.2 = .tup (f :: ys) ∧ tk z.2.2 = some k ∧ tupItems (shapeT us) 0 ws = some k := fun z hz => by
    have hm : z.2.2 ∈ ts := by rw [← z2]; exact List.mem_map.mpr ⟨z, hz, rfl⟩
    have ok := List.all_eq_true.mp hi _ hm
    have row := z3 z hz
    cases e : z.2.2 with
    | tup vs =>
      rw [e] at ok
      simp only [okTup, Bool.and_eq_true] at ok
      have i := row.i
      rw [e] at i
      obtain ⟨b, o, ws, k, h1, h2, h3, h4, h5, h6, h7⟩ := tup_val I i row.r ok.2
      cases vs with
      | nil => simp at ok
      | cons f ys => exact ⟨b, o, ws, k, f, ys, h1, h2, h3, h4, rfl, h5, h6⟩
    | _ => rw [e] at ok; simp [okTup] at ok
  have valv : ∀ v ∈ its, ∃ z ∈ Z, z.1 = v := fun v hv => by
    rw [← z1] at hv
    obtain ⟨z, hz, e⟩ := List.mem_map.mp hv
    exact ⟨z, hz, e⟩
  have keyAt : ∀ (h' : Heap), (∀ b o, s.heap.get? b = some o → o.cls = .type "tuple" → h'.get? b = some o) → ∀ z ∈ Z, tupKey h' (shapeT us) z.1 = tk z.2.2 := fun h' kp z hz => by
    obtain ⟨b, o, ws, k, f, ys, h1, h2, h3, ⟨n, h4⟩, h5, h6, h7⟩ := val z hz
    rw [h1, h6]
    simp only [tupKey]
    rw [kp b o h2 h3]
    simp only [h4]
    exact h7
  refine sorted_ordA (swoK (tupKey s.heap (shapeT us))) hl (by rw [← rv.length]; exact hz) (fun h2 h₁ a' ha' hk₁ h' hk' => ?_) fun out h1 h2 => ?_
  · have kp : ∀ b o, s.heap.get? b = some o → o.cls = .type "tuple" → h'.get? b = some o := fun b o e c => hk' b o (hk₁ b o e).1 (hk₁ b o e).2
    refine ⟨tuples' true, fun Q' E' hq => ?_, fun p q' hp hq => ?_⟩
    · have tof : ∀ vs : List Value, (∀ v ∈ vs, v ∈ its) → ∃ fs, fs.length = vs.length ∧ TupsOf h' (shapeT us) vs fs := by
        intro vs
        induction vs with
        | nil => exact fun _ => ⟨[], rfl, .nil⟩
        | cons v vs ih =>
          intro hv
          obtain ⟨fs, e, t⟩ := ih fun u hu => hv u (List.mem_cons_of_mem _ hu)
          obtain ⟨z, hz, ez⟩ := valv v (hv v List.mem_cons_self)
          obtain ⟨b, o, ws, k, f, ys, h1, h2, h3, ⟨n, h4⟩, h5, h6, h7⟩ := val z hz
          rw [ez] at h1
          cases ws with
          | nil =>
            have e1 : k = [] := by simpa [tupItems] using h7.symm
            rw [h5, e1] at h6
            simp only [tk] at h6
            obtain ⟨_, _, _, _, e2⟩ := sks_cons h6
            cases e2
          | cons w0 ws =>
            refine ⟨w0 :: fs, by simp [e], .cons ⟨b, o, (w0 :: ws).toArray, n, h1, kp b o h2 h3, h3, h4, by simp, fun hs0 => ?_, fun hs0 => ?_⟩ t⟩
            · obtain ⟨n, t, _, e1, _⟩ := tupItems_int hs0 h7
              exact ⟨n, t, e1⟩
            · obtain ⟨x, t, _, e1, _⟩ := tupItems_str hs0 h7
              exact ⟨x, t, e1⟩
      obtain ⟨fs, e, t⟩ := tof its fun v hv => hv
      exact tup_kind (s := { s with heap := h' }) (by rw [e]; omega) t hq
    · obtain ⟨z, hz, ez⟩ := valv _ hp
      obtain ⟨y, hy, ey⟩ := valv _ hq
      obtain ⟨b, o, ws, k, f, ys, h1, h2, h3, h4, h5, h6, h7⟩ := val z hz
      obtain ⟨b2, o2, ws2, k2, f2, ys2, g1, g2, g3, g4, g5, g6, g7⟩ := val y hy
      show wpAny _ _ (keyLt' (tuples' true) p.1 q'.1) (fun r s' => s' = _ ∧ r = lexLt itemOrd ((tupKey s.heap (shapeT us) p.1).getD []) ((tupKey s.heap (shapeT us) q'.1).getD [])) _ _
      rw [← ez, ← ey]
      have kz := keyAt h' kp z hz
      have ky := keyAt h' kp y hy
      have kz0 := keyAt s.heap (fun b o e _ => e) z hz
      have ky0 := keyAt s.heap (fun b o e _ => e) y hy
      rw [kz0, ky0, h6, g6]
      rw [h6] at kz
      rw [g6] at ky
      exact tup_ltAt (s := { s with heap := h' }) (shape := shapeT us) true _ _ z.1 y.1 k k2 kz ky ⟨rfl, rfl⟩
  refine Exists.elim (out_is' rv l z1 z2 z3 (key := tupKey s.heap (shapeT us)) (b := true) (fun z hz => ?_) (fun v u k j h1 h2 => ?_) h1 h2) fun ys ⟨g1, g2⟩ => sort_end I hz l g1 g2 q
  · obtain ⟨b, o, ws, k, f, ys, h1, h2, h3, h4, h5, h6, h7⟩ := val z hz
    exact ⟨keyAt s.heap (fun b o e _ => e) z hz, by rw [h6]; rfl, by rw [h5]; rfl⟩
  · show lexLt itemOrd ((tupKey s.heap (shapeT us) v).getD []) ((tupKey s.heap (shapeT us) u).getD []) = _
    rw [h1, h2]
    rfl
theorem cr_sortedT : CallR X (.builtin "sorted") (rSortT X.K) := by
  intro pins s σ H vs us Q I r h
  obtain ⟨W, a, xs, ts, rfl, hs, l, ok, q⟩ := h
  rw [Vals.ref1 r]
  cases ts with
  | nil => exact ints_srt I hs l rfl q
  | cons t ts =>
    cases t with
    | int n => exact ints_srt I hs l (by simpa [okSort, isI] using ok) q
    | str cs => exact strs_srt I hs l (by simpa [okSort, isS] using ok) q
    | tup us =>
      simp only [okSort, Bool.and_eq_true] at ok
      exact tups_srt (us := us) I hs l (by rw [List.all_cons, ok.1, ok.2]; rfl) q
    | _ => simp [okSort] at ok
end
end M3
/-! M3, part k: built-in functions and types. -/
namespace M3
open PySem PySem.Spec PyProof.Rows L2

/-- what a built-in gives of what it only looks at -/
def CK (K : PySem.W.Frag) (r : List V → Hp → VK → Prop) (f : List T → Option T) : Prop :=
  ∀ (W : Addr → Prop) (H : Hp), Muts W H → ∀ vs ts, Paired (IsB K W H) vs ts → ∀ t, f ts = some t → ∀ Q : VK, (∀ v H', Same H H' → Is K W H' v t → Q v H') → r vs H Q
theorem DO.mut {o : HO} {b : Bool} {ks : List T} {ws : List V} (d : DO o b ks ws) : Mut (some o) := by cases d <;> trivial
theorem DO.len {o : HO} {b : Bool} {ks : List T} {ws : List V} (d : DO o b ks ws) : ks.length = ws.length := by cases d <;> simp
/-- .. a fresh list or dict -/
def NewO (K : PySem.W.Frag) (W : Addr → Prop) (H : Hp) (o : HO) : T → Prop
  | .lst us => ∃ xs, o = .lst xs ∧ IsL K W H xs us
  | .dct b ks us => ∃ ws, DO o b ks ws ∧ IsL K W H ws us
  | _ => False
def NK (K : PySem.W.Frag) (r : List V → Hp → VK → Prop) (f : List T → Option T) : Prop :=
  ∀ (W : Addr → Prop) (H : Hp), Muts W H → ∀ vs ts, Paired (IsB K W H) vs ts → ∀ t, f ts = some t → ∀ Q : VK, (∀ p o, H p = none → NewO K W H o t → Q (.ref p) (upd H p o)) → r vs H Q
@[simp] def xCB (f : List T → Option T) (am : AM) : XM := fun env => (am env).bind fun (ts, e1) => match f ts with
  | some t => .ok (t, e1)
  | none => .no
theorem mToB {K : PySem.W.Frag} {W M : Addr → Prop} {H : Hp} : ∀ {vs : List V} {ts : List T}, Paired (IsM K W M H) vs ts → Paired (IsB K W H) vs ts
  | _, _, .nil => .nil
  | _, _, .cons q l => .cons q.toB (mToB l)
section
variable {D : Dat} {r : List V → Hp → VK → Prop} {f : List T → Option T} {am : AM} {ta : TA}
theorem cb_ok (ck : CK D.K r f) (ka : TMok D am ta) : TEok D (xCB f am) (tCB r ta) := by
  intro G W M σ H env re Q q
  refine pstM_bind (P := Pst D G W M σ H Q) ka re (fun c t h => h) (fun h => h) q fun ts e1 vs H1 ev1 re1 l1 q1 => ?_
  dsimp only at q1
  cases z : f ts with
  | none => rw [z] at q1; exact (q1 : False).elim
  | some t => rw [z] at q1; exact ck W H1 re1.muts vs ts (mToB l1) t z Q fun v H' s i => q1 v H' (ev1.trans (.same s)) (re1.same s) i
theorem nb_ok (ck : NK D.K r f) (ka : TMok D am ta) : TNok D (xCB f am) (tCB r ta) := by
  intro G W M σ H env re Q q
  refine pstM_bind (P := PstN D G W M σ H Q) ka re (fun c t h => h) (fun h => h) q fun ts e1 vs H1 ev1 re1 l1 q1 => ?_
  dsimp only at q1
  cases z : f ts with
  | none => rw [z] at q1; exact (q1 : False).elim
  | some t =>
    rw [z] at q1
    refine ck W H1 re1.muts vs ts (mToB l1) t z Q fun p o hp no => ?_
    have s := same_upd (o := o) hp
    have hn : H p = none := by
      cases z : H p with
      | none => rfl
      | some u => exact (ev1.trk p (by rw [z]; exact fun y => nomatch y) hp).elim
    cases t with
    | lst us =>
      obtain ⟨xs, rfl, l⟩ := no
      exact q1 p _ (ev1.trans (.same s)) hn (fun W' h1 h2 => re1.new hp trivial h1 h2) (fun W' hW => ⟨xs, upd_same, l.fut (Fut.new hp hW) re1.muts⟩) (.inl ⟨us, rfl⟩)
    | dct b ks us =>
      obtain ⟨ws, ek, l⟩ := no
      exact q1 p _ (ev1.trans (.same s)) hn (fun W' h1 h2 => re1.new hp ek.mut h1 h2) (fun W' hW => ⟨o, ws, upd_same, ek, l.fut (Fut.new hp hW) re1.muts⟩) (.inr ⟨b, ks, us, rfl⟩)
    | _ => exact (no : False).elim
variable {x : Str} {id T : String} {e : Expr} {es : List Expr} {p pos : Pos}
theorem me_cb (hc : ∀ v, CallR (D.cx v) (.builtin id) r) (ck : CK D.K r f) (hv : bootBuiltins x = some (.builtin id)) (hg : D.sc.names.lookup x = some .globalImplicit) (hm : D.mg x = none) (ha : MM D (e :: es) am) (hn : x ≠ "__name__" := by decide) (hdb : (x == ("__debug__" : Str)) = false := by decide)
    (he : ∀ env, starEach (e :: es) env = (false, eval e env) :: starEach es env := by exact fun _ => rfl) (hpl : ∀ env, (backTo pos (starEach es env)).any (·.1) = false := by exact fun _ => rfl) : ME D (.Call (.Name x p) (e :: es) [] pos) (xCB f am) := by
  obtain ⟨t, pa, ka⟩ := ha
  exact ⟨_, fun v gd => pe_callB (X := D.cx v) (hc v) hg hm hv (pa v gd) hn hdb (he _) (hpl _), cb_ok ck ka⟩
theorem me_ct (hc : ∀ v, CallR (D.cx v) (.type T) r) (ck : CK D.K r f) (hv : bootBuiltins x = some (.type T)) (hg : D.sc.names.lookup x = some .globalImplicit) (hm : D.mg x = none) (ha : MM D (e :: es) am) (hn : x ≠ "__name__" := by decide) (hdb : (x == ("__debug__" : Str)) = false := by decide)
    (he : ∀ env, starEach (e :: es) env = (false, eval e env) :: starEach es env := by exact fun _ => rfl) (hpl : ∀ env, (backTo pos (starEach es env)).any (·.1) = false := by exact fun _ => rfl) : ME D (.Call (.Name x p) (e :: es) [] pos) (xCB f am) := by
  obtain ⟨t, pa, ka⟩ := ha
  exact ⟨_, fun v gd => pe_callTy (X := D.cx v) (hc v) hg hm hv (pa v gd) hn hdb (he _) (hpl _), cb_ok ck ka⟩
theorem mn_cb (hc : ∀ v, CallR (D.cx v) (.builtin id) r) (ck : NK D.K r f) (hv : bootBuiltins x = some (.builtin id)) (hg : D.sc.names.lookup x = some .globalImplicit) (hm : D.mg x = none) (ha : MM D (e :: es) am) (hn : x ≠ "__name__" := by decide) (hdb : (x == ("__debug__" : Str)) = false := by decide)
    (he : ∀ env, starEach (e :: es) env = (false, eval e env) :: starEach es env := by exact fun _ => rfl) (hpl : ∀ env, (backTo pos (starEach es env)).any (·.1) = false := by exact fun _ => rfl) : MN D (.Call (.Name x p) (e :: es) [] pos) (xCB f am) := by
  obtain ⟨t, pa, ka⟩ := ha
  exact ⟨_, fun v gd => pe_callB (X := D.cx v) (hc v) hg hm hv (pa v gd) hn hdb (he _) (hpl _), nb_ok ck ka⟩
theorem mn_ct (hc : ∀ v, CallR (D.cx v) (.type T) r) (ck : NK D.K r f) (hv : bootBuiltins x = some (.type T)) (hg : D.sc.names.lookup x = some .globalImplicit) (hm : D.mg x = none) (ha : MM D (e :: es) am) (hn : x ≠ "__name__" := by decide) (hdb : (x == ("__debug__" : Str)) = false := by decide)
    (he : ∀ env, starEach (e :: es) env = (false, eval e env) :: starEach es env := by exact fun _ => rfl) (hpl : ∀ env, (backTo pos (starEach es env)).any (·.1) = false := by exact fun _ => rfl) : MN D (.Call (.Name x p) (e :: es) [] pos) (xCB f am) := by
  obtain ⟨t, pa, ka⟩ := ha
  exact ⟨_, fun v gd => pe_callTy (X := D.cx v) (hc v) hg hm hv (pa v gd) hn hdb (he _) (hpl _), nb_ok ck ka⟩
end

/-! ### what is looked at: a list, a tuple -/
/-- the items of a list or tuple -/
@[simp] def seqT : T → Option (List T)
  | .tup ts => some ts
  | .lst ts => some ts
  | .frz ts => some ts
  | _ => none
/-- a list's -/
@[simp] def lstT : T → Option (List T)
  | .lst ts => some ts
  | .frz ts => some ts
  | _ => none
section
variable {K : PySem.W.Frag} {W : Addr → Prop} {H : Hp}
theorem IsB.lstE {v : V} {t : T} {ts : List T} (h : IsB K W H v t) (e : lstT t = some ts) : ∃ a xs, v = .ref a ∧ SqL K H a xs ∧ IsL K W H xs ts := by
  rcases h with h | ⟨a, rfl, o⟩
  · cases h with
    | lst n q l => cases e; exact ⟨_, _, rfl, .of q, l⟩
    | frz q l => cases e; exact ⟨_, _, rfl, q.seq, l⟩
    | _ => cases e
  · cases t with
    | lst us => cases e; obtain ⟨xs, q, l⟩ := o; exact ⟨a, xs, rfl, .of q, l⟩
    | dct _ _ _ => cases e
    | _ => exact o.elim
theorem IsB.seq {v : V} {t : T} {ts : List T} (h : IsB K W H v t) (e : seqT t = some ts) : ∃ a xs, v = .ref a ∧ (SqL K H a xs ∨ SqT K H a xs) ∧ IsL K W H xs ts := by
  cases t with
  | tup us =>
    rcases h with h | ⟨a, rfl, o⟩
    · cases h with
      | tup q l => cases e; exact ⟨_, _, rfl, .inr q, l⟩
    · exact o.elim
  | lst us => obtain ⟨a, xs, h1, h2, h3⟩ := h.lstE (ts := us) rfl; cases e; exact ⟨a, xs, h1, .inl h2, h3⟩
  | frz us => obtain ⟨a, xs, h1, h2, h3⟩ := h.lstE (ts := us) rfl; cases e; exact ⟨a, xs, h1, .inl h2, h3⟩
  | _ => cases e
theorem IsB.strE {v : V} {cs : List Nat} (h : IsB K W H v (.str cs)) : v = .str ⟨cs.toArray⟩ ∧ okS cs = true := by
  rcases h with h | ⟨a, rfl, o⟩
  · cases h with
    | str _ h => exact ⟨rfl, h⟩
  · exact o.elim
theorem IsB.dct {v : V} {b : Bool} {ks us : List T} (h : IsB K W H v (.dct b ks us)) : ∃ a o ws, v = .ref a ∧ Rd H a o ∧ DO o b ks ws ∧ IsL K W H ws us := by
  rcases h with h | ⟨a, rfl, o⟩
  · cases h with
    | dct n q d l => cases d with
      | of d => exact ⟨_, _, _, rfl, .inl q, d, l⟩
      | z d => exact ⟨_, _, _, rfl, .inr ⟨_, q⟩, d, l⟩
  · obtain ⟨o, ws, q, e, l⟩ := o; exact ⟨a, o, ws, rfl, .inl q, e, l⟩
theorem pair1 {α β : Type} {F : α → β → Prop} {vs : List α} {t : β} (h : Paired F vs [t]) : ∃ v, vs = [v] ∧ F v t := by
  cases h with
  | cons q l => cases l; exact ⟨_, rfl, q⟩
theorem pair2 {α β : Type} {F : α → β → Prop} {vs : List α} {t u : β} (h : Paired F vs [t, u]) : ∃ v w, vs = [v, w] ∧ F v t ∧ F w u := by
  cases h with
  | cons q l => obtain ⟨w, rfl, p⟩ := pair1 l; exact ⟨_, _, rfl, q, p⟩
end
/-- ints -/
@[simp] def intsT : List T → Option (List Int)
  | [] => some []
  | .int i :: ts => (intsT ts).map (i :: ·)
  | _ => none
@[simp] def boolsT : List T → Option (List Bool)
  | [] => some []
  | .bl i :: ts => (boolsT ts).map (i :: ·)
  | _ => none
section
variable {K : PySem.W.Frag} {W : Addr → Prop} {H : Hp}
theorem IsL.ints : ∀ {vs : List V} {ts : List T} {ns : List Int}, IsL K W H vs ts → intsT ts = some ns → vs = ns.map V.int
  | _, _, _, .nil, e => by cases e; rfl
  | _, _, _, .cons (t := .int i) (ts := ts) q l, e => by
    cases q
    simp only [intsT] at e
    cases z : intsT ts with
    | none => rw [z] at e; cases e
    | some ms => rw [z] at e; cases e; rw [IsL.ints l z]; rfl
  | _, _, _, .cons (t := .non) q l, e | _, _, _, .cons (t := .bl _) q l, e | _, _, _, .cons (t := .str _) q l, e | _, _, _, .cons (t := .tup _) q l, e | _, _, _, .cons (t := .lst _) q l, e | _, _, _, .cons (t := .frz _) q l, e | _, _, _, .cons (t := .dct _ _ _) q l, e => by cases e
theorem IsL.bools : ∀ {vs : List V} {ts : List T} {ns : List Bool}, IsL K W H vs ts → boolsT ts = some ns → vs = ns.map V.bl
  | _, _, _, .nil, e => by cases e; rfl
  | _, _, _, .cons (t := .bl i) (ts := ts) q l, e => by
    cases q
    simp only [boolsT] at e
    cases z : boolsT ts with
    | none => rw [z] at e; cases e
    | some ms => rw [z] at e; cases e; rw [IsL.bools l z]; rfl
  | _, _, _, .cons (t := .non) q l, e | _, _, _, .cons (t := .int _) q l, e | _, _, _, .cons (t := .str _) q l, e | _, _, _, .cons (t := .tup _) q l, e | _, _, _, .cons (t := .lst _) q l, e | _, _, _, .cons (t := .frz _) q l, e | _, _, _, .cons (t := .dct _ _ _) q l, e => by cases e
end

/-! ### the built-ins -/
@[simp] def fLen : List T → Option T
  | [.tup ts] => some (.int ts.length)
  | [.lst ts] => some (.int ts.length)
  | [.frz ts] => some (.int ts.length)
  | [.str cs] => some (.int cs.length)
  | [.dct _ ks _] => some (.int ks.length)
  | _ => none
def rLenA (K : PySem.W.Frag) : List V → Hp → VK → Prop := fun xs H Q => (∃ x n, xs = [x] ∧ LenV K x H n ∧ Q (.int n) H) ∨ (∃ a kvs, xs = [V.ref a] ∧ Rd H a (.dK kvs) ∧ Q (.int kvs.length) H) ∨ ∃ (a : Addr) (kvs : List (List Key × V)), xs = [V.ref a] ∧ Rd H a (.dT kvs) ∧ Q (.int kvs.length) H
theorem cr_len {X : Cx} : CallR X (.builtin "len") (rLenA X.K) := by
  intro pins s σ H xs us Q I r h
  rcases h with h | ⟨a, kvs, rfl, hp, q⟩ | ⟨a, kvs, rfl, hp, q⟩
  · exact call_len pins s σ H xs us Q I r h
  · obtain ⟨u, rfl, ru⟩ := vals1 r
    cases ru
    exact d_len I hp fun t s' I' => ⟨.int kvs.length, H, I', ⟨t, rfl⟩, q⟩
  · obtain ⟨u, rfl, ru⟩ := vals1 r
    cases ru
    obtain ⟨z, hd, ys, rel, dd⟩ := dt_rd I.hok hp
    have hl : kvs.length = ys.length := Paired.length rel
    refine call_len_dictH hd dd (by rw [← hl]; rw [sizeLine_eq] at z; omega) ?_
    rw [← hl]
    exact ⟨.int (kvs.length : Nat), H, I.tok _, ⟨_, rfl⟩, q⟩
theorem ck_len {K : PySem.W.Frag} : CK K (rLenA K) fLen := by
  intro W H mu vs ts l t e Q q
  have seq : ∀ {u : T} {us : List T}, ts = [u] → seqT u = some us → t = .int us.length → rLenA K vs H Q := fun {u us} e1 e2 e3 => by
    subst e1 e3
    obtain ⟨v, rfl, h⟩ := pair1 l
    obtain ⟨a, xs, rfl, h1, h2⟩ := h.seq e2
    refine .inl ⟨_, us.length, rfl, ?_, q _ H (Same.refl _) (.int _)⟩
    rw [← h2.length]
    exact h1.imp (fun z => ⟨xs, z, rfl⟩) fun z => ⟨xs, z, rfl⟩
  unfold fLen at e
  split at e
  · cases e; exact seq rfl rfl rfl
  · cases e; exact seq rfl rfl rfl
  · cases e; exact seq rfl rfl rfl
  · cases e
    obtain ⟨v, rfl, h⟩ := pair1 l
    obtain ⟨rfl, ok⟩ := h.strE
    rename_i cs
    refine .inl ⟨_, cs.length, rfl, ⟨?_, ?_⟩, q _ H (Same.refl _) (.int _)⟩
    · show (cs.toArray).size ≤ _
      rw [List.size_toArray]; exact okS_len ok
    · show _ = (cs.toArray).size
      rw [List.size_toArray]
  · cases e
    obtain ⟨v, rfl, h⟩ := pair1 l
    obtain ⟨a, o, ws, rfl, h1, h2, h3⟩ := h.dct
    cases h2 with
    | k kvs _ => exact .inr (.inl ⟨a, kvs, rfl, h1, by rw [List.length_map] at q; exact q _ H (Same.refl _) (.int _)⟩)
    | t kvs _ => exact .inr (.inr ⟨a, kvs, rfl, h1, by rw [List.length_map] at q; exact q _ H (Same.refl _) (.int _)⟩)
  · cases e
section
variable {K : PySem.W.Frag}
theorem IsB.intE {W : Addr → Prop} {H : Hp} {v : V} {i : Int} (h : IsB K W H v (.int i)) : v = .int i := h.int
@[simp] def fAbs : List T → Option T
  | [.int i] => some (.int (if i < 0 then -i else i))
  | _ => none
theorem ck_abs : CK K (fun xs H Q => ∃ i, xs = [.int i] ∧ Q (.int (if i < 0 then -i else i)) H) fAbs := by
  intro W H mu vs ts l t e Q q
  unfold fAbs at e
  split at e
  · cases e; obtain ⟨v, rfl, h⟩ := pair1 l; cases h.int; exact ⟨_, rfl, q _ H (Same.refl _) (.int _)⟩
  · cases e
@[simp] def fInt : List T → Option T
  | [.int i] => some (.int i)
  | [.bl k] => some (.int (if k then 1 else 0))
  | _ => none
theorem ck_int : CK K (fun xs H Q => (∃ i, xs = [.int i] ∧ Q (.int i) H) ∨ ∃ k, xs = [.bl k] ∧ Q (.int (if k then 1 else 0)) H) fInt := by
  intro W H mu vs ts l t e Q q
  unfold fInt at e
  split at e
  · cases e; obtain ⟨v, rfl, h⟩ := pair1 l; cases h.int; exact .inl ⟨_, rfl, q _ H (Same.refl _) (.int _)⟩
  · cases e; obtain ⟨v, rfl, h⟩ := pair1 l; cases h.bl; exact .inr ⟨_, rfl, q _ H (Same.refl _) (.int _)⟩
  · cases e
@[simp] def fSum : List T → Option T
  | [t] => (lstT t).bind fun ts => (intsT ts).map fun ns => .int ns.sum
  | _ => none
theorem one_seq {α : Type} {o : Option α} {f : α → Option T} {t : T} (e : o.bind f = some t) : ∃ a, o = some a ∧ f a = some t := by
  cases o with
  | none => cases e
  | some a => exact ⟨a, rfl, e⟩
theorem map_some {α β : Type} {o : Option α} {f : α → β} {t : β} (e : o.map f = some t) : ∃ a, o = some a ∧ f a = t := by
  cases o with
  | none => cases e
  | some a => cases e; exact ⟨a, rfl, rfl⟩
theorem ck_sum : CK K (rSum K) fSum := by
  intro W H mu vs ts l t e Q q
  unfold fSum at e
  split at e
  · obtain ⟨us, e1, e2⟩ := one_seq e
    obtain ⟨ns, e3, rfl⟩ := map_some e2
    obtain ⟨v, rfl, h⟩ := pair1 l
    obtain ⟨a, xs, rfl, h1, h2⟩ := h.lstE e1
    rw [h2.ints e3] at h1
    exact ⟨a, ns, rfl, h1, q _ H (Same.refl _) (.int _)⟩
  · cases e
/-- the least, the greatest of ints -/
def minI : Int → List Int → Int
  | m, [] => m
  | m, i :: r => minI (if i < m then i else m) r
def maxI : Int → List Int → Int
  | m, [] => m
  | m, i :: r => maxI (if m < i then i else m) r
theorem minI_ok : ∀ (l : List Int) (m : Int), (minI m l = m ∨ minI m l ∈ l) ∧ minI m l ≤ m ∧ ∀ y ∈ l, minI m l ≤ y
  | [], m => ⟨.inl rfl, Int.le_refl _, fun y h => nomatch h⟩
  | i :: r, m => by
    have h := minI_ok r (if i < m then i else m)
    show (minI (if i < m then i else m) r = m ∨ _) ∧ minI (if i < m then i else m) r ≤ m ∧ _
    obtain ⟨h1, h2, h3⟩ := h
    by_cases c : i < m
    · simp only [c, if_true] at h1 h2 h3 ⊢
      refine ⟨.inr ?_, by omega, fun y hy => ?_⟩
      · rcases h1 with h1 | h1
        · show minI (if i < m then i else m) r ∈ _; simp only [c, if_true]; rw [h1]; exact List.mem_cons_self
        · show minI (if i < m then i else m) r ∈ _; simp only [c, if_true]; exact List.mem_cons_of_mem _ h1
      · show minI (if i < m then i else m) r ≤ y
        simp only [c, if_true]
        rcases List.mem_cons.mp hy with rfl | hy
        · exact h2
        · exact h3 y hy
    · simp only [c, if_false] at h1 h2 h3 ⊢
      refine ⟨h1.imp id fun z => ?_, h2, fun y hy => ?_⟩
      · show minI (if i < m then i else m) r ∈ _; simp only [c, if_false]; exact List.mem_cons_of_mem _ z
      · show minI (if i < m then i else m) r ≤ y
        simp only [c, if_false]
        rcases List.mem_cons.mp hy with rfl | hy
        · omega
        · exact h3 y hy
theorem maxI_ok : ∀ (l : List Int) (m : Int), (maxI m l = m ∨ maxI m l ∈ l) ∧ m ≤ maxI m l ∧ ∀ y ∈ l, y ≤ maxI m l
  | [], m => ⟨.inl rfl, Int.le_refl _, fun y h => nomatch h⟩
  | i :: r, m => by
    have h := maxI_ok r (if m < i then i else m)
    show (maxI (if m < i then i else m) r = m ∨ _) ∧ m ≤ maxI (if m < i then i else m) r ∧ _
    obtain ⟨h1, h2, h3⟩ := h
    by_cases c : m < i
    · simp only [c, if_true] at h1 h2 h3 ⊢
      refine ⟨.inr ?_, by omega, fun y hy => ?_⟩
      · rcases h1 with h1 | h1
        · show maxI (if m < i then i else m) r ∈ _; simp only [c, if_true]; rw [h1]; exact List.mem_cons_self
        · show maxI (if m < i then i else m) r ∈ _; simp only [c, if_true]; exact List.mem_cons_of_mem _ h1
      · show y ≤ maxI (if m < i then i else m) r
        simp only [c, if_true]
        rcases List.mem_cons.mp hy with rfl | hy
        · exact h2
        · exact h3 y hy
    · simp only [c, if_false] at h1 h2 h3 ⊢
      refine ⟨h1.imp id fun z => ?_, h2, fun y hy => ?_⟩
      · show maxI (if m < i then i else m) r ∈ _; simp only [c, if_false]; exact List.mem_cons_of_mem _ z
      · show y ≤ maxI (if m < i then i else m) r
        simp only [c, if_false]
        rcases List.mem_cons.mp hy with rfl | hy
        · omega
        · exact h3 y hy
@[simp] def fMin : List T → Option T
  | [t] => (lstT t).bind fun ts => (intsT ts).bind fun
    | [] => none
    | i :: r => some (.int (minI i r))
  | _ => none
@[simp] def fMax : List T → Option T
  | [t] => (lstT t).bind fun ts => (intsT ts).bind fun
    | [] => none
    | i :: r => some (.int (maxI i r))
  | _ => none
theorem ck_min : CK K (rMin K) fMin := by
  intro W H mu vs ts l t e Q q
  unfold fMin at e
  split at e
  · obtain ⟨us, e1, e2⟩ := one_seq e
    obtain ⟨ns, e3, e4⟩ := one_seq e2
    obtain ⟨v, rfl, h⟩ := pair1 l
    obtain ⟨a, xs, rfl, h1, h2⟩ := h.lstE e1
    rw [h2.ints e3] at h1
    cases ns with
    | nil => cases e4
    | cons i r =>
      cases e4
      refine ⟨a, i :: r, rfl, h1, Nat.succ_pos _, fun m hm hle => ?_⟩
      obtain ⟨k1, k2, k3⟩ := minI_ok r i
      have e5 : m = minI i r := by
        apply Int.le_antisymm
        · rcases k1 with k1 | k1
          · rw [k1]; exact hle i List.mem_cons_self
          · exact hle _ (List.mem_cons_of_mem _ k1)
        · rcases List.mem_cons.mp hm with rfl | hm
          · exact k2
          · exact k3 m hm
      rw [e5]
      exact q _ H (Same.refl _) (.int _)
  · cases e
theorem ck_max : CK K (rMax K) fMax := by
  intro W H mu vs ts l t e Q q
  unfold fMax at e
  split at e
  · obtain ⟨us, e1, e2⟩ := one_seq e
    obtain ⟨ns, e3, e4⟩ := one_seq e2
    obtain ⟨v, rfl, h⟩ := pair1 l
    obtain ⟨a, xs, rfl, h1, h2⟩ := h.lstE e1
    rw [h2.ints e3] at h1
    cases ns with
    | nil => cases e4
    | cons i r =>
      cases e4
      refine ⟨a, i :: r, rfl, h1, Nat.succ_pos _, fun m hm hle => ?_⟩
      obtain ⟨k1, k2, k3⟩ := maxI_ok r i
      have e5 : m = maxI i r := by
        apply Int.le_antisymm
        · rcases List.mem_cons.mp hm with rfl | hm
          · exact k2
          · exact k3 m hm
        · rcases k1 with k1 | k1
          · rw [k1]; exact hle i List.mem_cons_self
          · exact hle _ (List.mem_cons_of_mem _ k1)
      rw [e5]
      exact q _ H (Same.refl _) (.int _)
  · cases e
@[simp] def fMin2 : List T → Option T
  | [.int i, .int j] => some (.int (if j < i then j else i))
  | _ => none
@[simp] def fMax2 : List T → Option T
  | [.int i, .int j] => some (.int (if j > i then j else i))
  | _ => none
theorem ck_min2 : CK K (fun xs H Q => ∃ i j, xs = [.int i, .int j] ∧ Q (.int (if j < i then j else i)) H) fMin2 := by
  intro W H mu vs ts l t e Q q
  unfold fMin2 at e
  split at e
  · cases e; obtain ⟨v, w, rfl, h1, h2⟩ := pair2 l; cases h1.int; cases h2.int; exact ⟨_, _, rfl, q _ H (Same.refl _) (.int _)⟩
  · cases e
theorem ck_max2 : CK K (fun xs H Q => ∃ i j, xs = [.int i, .int j] ∧ Q (.int (if j > i then j else i)) H) fMax2 := by
  intro W H mu vs ts l t e Q q
  unfold fMax2 at e
  split at e
  · cases e; obtain ⟨v, w, rfl, h1, h2⟩ := pair2 l; cases h1.int; cases h2.int; exact ⟨_, _, rfl, q _ H (Same.refl _) (.int _)⟩
  · cases e
@[simp] def fAll : List T → Option T
  | [t] => (lstT t).bind fun ts => (boolsT ts).map fun bs => .bl (bs.all id)
  | _ => none
@[simp] def fAny : List T → Option T
  | [t] => (lstT t).bind fun ts => (boolsT ts).map fun bs => .bl (bs.any id)
  | _ => none
theorem ck_all : CK K (rAll K) fAll := by
  intro W H mu vs ts l t e Q q
  unfold fAll at e
  split at e
  · obtain ⟨us, e1, e2⟩ := one_seq e
    obtain ⟨ns, e3, rfl⟩ := map_some e2
    obtain ⟨v, rfl, h⟩ := pair1 l
    obtain ⟨a, xs, rfl, h1, h2⟩ := h.lstE e1
    rw [h2.bools e3] at h1
    exact ⟨a, ns, rfl, h1, q _ H (Same.refl _) (.bl _)⟩
  · cases e
theorem ck_any : CK K (rAny K) fAny := by
  intro W H mu vs ts l t e Q q
  unfold fAny at e
  split at e
  · obtain ⟨us, e1, e2⟩ := one_seq e
    obtain ⟨ns, e3, rfl⟩ := map_some e2
    obtain ⟨v, rfl, h⟩ := pair1 l
    obtain ⟨a, xs, rfl, h1, h2⟩ := h.lstE e1
    rw [h2.bools e3] at h1
    exact ⟨a, ns, rfl, h1, q _ H (Same.refl _) (.bl _)⟩
  · cases e
@[simp] def fDivmod : List T → Option T
  | [.int i, .int j] => if 0 < j ∧ j < 1073741824 then some (.tup [.int (i / j), .int (i % j)]) else none
  | _ => none
theorem ck_divmod : CK K (fun xs H Q => ∃ i j, xs = [.int i, .int j] ∧ CDiv i j ∧ ∀ p, H p = none → Q (.ref p) (upd H p (.tup [.int (i / j), .int (i % j)]))) fDivmod := by
  intro W H mu vs ts l t e Q q
  unfold fDivmod at e
  split at e
  · split at e
    · rename_i h; cases e; obtain ⟨v, w, rfl, h1, h2⟩ := pair2 l; cases h1.int; cases h2.int
      exact ⟨_, _, rfl, h, fun p hp => q _ _ (same_upd hp) (.tup (.of upd_same) (.cons (.int _) (.cons (.int _) .nil)))⟩
    · cases e
  · cases e
/-- tuple(..) of a list or a tuple -/
@[simp] def fTuple : List T → Option T
  | [t] => (seqT t).map .tup
  | _ => none
theorem ck_tuple : CK K (fun xs H Q => ∃ p ys, xs = [.ref p] ∧ ((SqL K H p ys ∧ ∀ l, H l = none → Q (.ref l) (upd H l (.tup ys))) ∨ (SqT K H p ys ∧ Q (.ref p) H))) fTuple := by
  intro W H mu vs ts l t e Q q
  unfold fTuple at e
  split at e
  · obtain ⟨us, e1, rfl⟩ := map_some e
    obtain ⟨v, rfl, h⟩ := pair1 l
    obtain ⟨a, xs, rfl, h1, h2⟩ := h.seq e1
    refine ⟨a, xs, rfl, ?_⟩
    rcases h1 with h1 | h1
    · exact .inl ⟨h1, fun p hp => q _ _ (same_upd hp) (.tup (.of upd_same) (h2.same (same_upd hp) mu))⟩
    · exact .inr ⟨h1, q _ H (Same.refl _) (.tup h1 h2)⟩
  · cases e
/-- list(..) of one -/
@[simp] def fList : List T → Option T
  | [t] => (seqT t).map .lst
  | _ => none
theorem nk_list : NK K (fun xs H Q => ∃ p ys, xs = [.ref p] ∧ (SqL K H p ys ∨ SqT K H p ys) ∧ ∀ l, H l = none → Q (.ref l) (upd H l (.lst ys))) fList := by
  intro W H mu vs ts l t e Q q
  unfold fList at e
  split at e
  · obtain ⟨us, e1, rfl⟩ := map_some e
    obtain ⟨v, rfl, h⟩ := pair1 l
    obtain ⟨a, xs, rfl, h1, h2⟩ := h.seq e1
    exact ⟨a, xs, rfl, h1, fun p hp => q p _ hp ⟨xs, rfl, h2⟩⟩
  · cases e
/-- sorted(..) of a list -/
def fSort : List T → Option T
  | [t] => (seqT t).bind fun ts => if okSort ts then some (.lst (isortT ts)) else none
  | _ => none
theorem nk_sort : NK K (rSortT K) fSort := by
  intro W H mu vs ts l t e Q q
  unfold fSort at e
  split at e
  · obtain ⟨us, e1, e2⟩ := one_seq e
    split at e2
    · rename_i ho
      cases e2
      obtain ⟨v, rfl, h⟩ := pair1 l
      obtain ⟨a, xs, rfl, h1, h2⟩ := h.seq e1
      exact ⟨W, a, xs, us, rfl, h1, h2, ho, fun p ys hp ly => q p _ hp ⟨ys, rfl, ly⟩⟩
    · cases e2
  · cases e
end

/-! ### isinstance(e, T), T a built-in type -/
def T.ty : T → String
  | .non => "NoneType"
  | .bl _ => "bool"
  | .int _ => "int"
  | .str _ => "str"
  | .tup _ => "tuple"
  | .lst _ => "list"
  | .frz _ => "list"
  | .dct _ _ _ => "dict"
inductive Ty where
  | int | bool | str | tuple | list | dict
def Ty.nm : Ty → String
  | .int => "int"
  | .bool => "bool"
  | .str => "str"
  | .tuple => "tuple"
  | .list => "list"
  | .dict => "dict"
def isT : Ty → T → Bool
  | .int, .int _ => true
  | .int, .bl _ => true
  | .bool, .bl _ => true
  | .str, .str _ => true
  | .tuple, .tup _ => true
  | .list, .lst _ => true
  | .list, .frz _ => true
  | .dict, .dct _ _ _ => true
  | _, _ => false
section
variable {K : PySem.W.Frag} {W : Addr → Prop} {H : Hp}
theorem sqT_ty {a : Addr} {xs : List V} (h : SqT K H a xs) : TyX K H (.ref a) (.type "tuple") := by
  rcases h with (h | ⟨o, h⟩) | ⟨o, its, n, hk, hc, _⟩
  · exact .base (.tup h)
  · exact .fTuple h
  · exact .kTuple hk hc
theorem sqL_ty {a : Addr} {xs : List V} (h : SqL K H a xs) : TyX K H (.ref a) (.type "list") := by
  rcases h with (h | ⟨o, h⟩) | ⟨o, its, n, hk, hc, _⟩
  · exact .base (.lst h)
  · exact .base (.frz h)
  · exact .kList hk hc
/-- not a dict with tuples for keys -/
@[simp] def T.isK : T → Bool
  | .dct true _ _ => false
  | _ => true
theorem Is.ty {v : V} {t : T} (h : Is K W H v t) (hk : t.isK = true) : TyX K H v (.type t.ty) := by
  cases h with
  | non => exact .base .non
  | bl b => exact .base (.bl b)
  | int i => exact .base (.int i)
  | str cs h => exact .base (.str _)
  | tup q l => exact sqT_ty q
  | lst n q l => exact .base (.lst q)
  | frz q l => exact sqL_ty q.seq
  | dct n q d l => cases d with
    | of d => cases d with
      | k kvs _ => exact .base (.dK q)
      | t kvs _ => exact .base (.dT q)
    | z d => cases d with
      | k kvs _ => exact .fDict q
      | t kvs _ => simp [T.isK] at hk
theorem kitT (y : Ty) (t : T) : kitB t.ty y.nm = some (isT y t) := by
  cases y <;> cases t <;> (show kitB _ _ = some _; simp only [T.ty, Ty.nm, isT]; decide +kernel)
end
@[simp] def xIsi (y : Ty) (m : XM) : XM := fun env => (m env).bind fun (t, e1) => if t.isK then .ok (.bl (isT y t), e1) else .no
section
variable {D : Dat} {e : Expr} {m : XM} {p pc pos : Pos} {nx : Str}
theorem me_isi {y : Ty} (hv : bootBuiltins nx = some (.type y.nm)) (hg : D.sc.names.lookup ("isinstance" : Str) = some .globalImplicit) (hm : D.mg "isinstance" = none) (hg2 : D.sc.names.lookup nx = some .globalImplicit) (hm2 : D.mg nx = none) (he : ME D e m)
    (hnn : nx ≠ "__name__" := by decide) (hdb : (nx == ("__debug__" : Str)) = false := by decide) (hs : ∀ env, starEach [e, .Name nx pc] env = (false, eval e env) :: starEach [.Name nx pc] env := by exact fun _ => rfl) (hpl : ∀ env, (backTo pos (starEach [.Name nx pc] env)).any (·.1) = false := by exact fun _ => rfl) :
    ME D (.Call (.Name "isinstance" p) [e, .Name nx pc] [] pos) (xIsi y m) := by
  obtain ⟨t, pe, k⟩ := he
  refine ⟨tCB (rIsi D.K) (tCons t (tCons (tC (.ty y.nm)) tNil)), fun v gd => pe_callB (X := D.cx v) call_isi hg hm rfl (pa_cons (pe v gd) (pa_cons (.up (pe_bltn (X := D.cx v) hg2 hm2 hv rfl hnn hdb)) pa_nil) (hs _)) (by decide) (by decide) (hs _) (hpl _), fun G W M σ H env re Q q => ?_⟩
  refine pst_bind (P := Pst D G W M σ H Q) k re (fun c t h => h) (fun h => h) q fun t e1 v H1 ev1 re1 i1 q1 => ?_
  dsimp only at q1
  split at q1
  · rename_i hk
    exact ⟨v, .ty y.nm, .type t.ty, .type y.nm, isT y t, rfl, .ty y.nm, i1.ty hk, kit_ty (kitT y t), q1 _ H1 ev1 re1 (.bl _)⟩
  · exact (q1 : False).elim
end

/-! ### list(range(..)), tuple(range(..)) -/
/-- lo, lo + 1, .. -/
def upI (lo : Int) (n : Nat) : List T := (List.range n).map fun (i : Nat) => T.int (lo + i)
theorem rgV_is {K : PySem.W.Frag} {W : Addr → Prop} {H : Hp} (a b : Int) : IsL K W H (rgV a b) (upI a (b - a).toNat) := by
  unfold rgV upI
  generalize List.range (b - a).toNat = l
  induction l with
  | nil => exact .nil
  | cons i l ih => exact .cons (.int _) ih
def rgOk (a b : Int) : Bool := Nat.blt a.natAbs 4611686018427387904 && Nat.blt b.natAbs 4611686018427387904 && Nat.ble (b - a).toNat 16777216
theorem rgOk_of {a b : Int} (h : rgOk a b = true) : RgOk a b := by
  unfold rgOk at h
  simp only [Bool.and_eq_true] at h
  obtain ⟨⟨h1, h2⟩, h3⟩ := h
  have h1 : a.natAbs < 4611686018427387904 := Nat.le_of_ble_eq_true h1
  have h2 : b.natAbs < 4611686018427387904 := Nat.le_of_ble_eq_true h2
  have h3 := Nat.le_of_ble_eq_true h3
  exact ⟨by omega, by omega, by omega, by omega, by omega⟩
@[simp] def rg1 (am : AM) : EnvM → R ((Int × Int) × EnvM) := fun env => match am env with
  | .ok ([.int n], e1) => .ok ((0, n), e1)
  | .ok _ => .no
  | .ex c t => .ex c t
  | .no => .no
@[simp] def rg2 (am : AM) : EnvM → R ((Int × Int) × EnvM) := fun env => match am env with
  | .ok ([.int i, .int j], e1) => .ok ((i, j), e1)
  | .ok _ => .no
  | .ex c t => .ex c t
  | .no => .no
@[simp] def xRgL (rm : EnvM → R ((Int × Int) × EnvM)) : XM := fun env => (rm env).bind fun ((a, b), e1) => if rgOk a b then .ok (.lst (upI a (b - a).toNat), e1) else .no
@[simp] def xRgT (rm : EnvM → R ((Int × Int) × EnvM)) : XM := fun env => (rm env).bind fun ((a, b), e1) => if rgOk a b then .ok (.tup (upI a (b - a).toNat), e1) else .no
/-- range(..) itself -/
structure PR (X : Cx) (e : Expr) (t : L2.St → Hp → (Int → Int → Hp → Prop) → Prop) : Prop where
  run : ∀ (pins : List (Addr × Obj)) (s : Shared) (σ : L2.St) (H : Hp) (Q : Int → Int → Hp → Prop), Tk X s → Inv X pins σ H s → t σ H Q →
    wpAny (model X.prog X.w) X.A (eval e X.env) (fun x s' => ∃ r a b t u v H', x = .ref r ∧ IsRange s'.heap r a b 1 t u v ∧ Inv X pins σ H' s' ∧ Q a b H') X.xe s
def MR (D : Dat) (e : Expr) (rm : EnvM → R ((Int × Int) × EnvM)) : Prop := ∃ t, (∀ v, D.Good v → PR (D.cx v) e t) ∧
  ∀ G W M σ H env, RE D.K G W M σ H env → ∀ Q : Int → Int → Hp → Prop, (match rm env with
    | .ok ((a, b), env') => ∀ H', Ev M H H' → RE D.K G W M σ H' env' → Q a b H'
    | .ex c t => ExW D W M H c t
    | .no => False) → t σ H Q
section
variable {D : Dat} {e a b : Expr} {am : AM} {rm : EnvM → R ((Int × Int) × EnvM)} {p p2 pos : Pos}
theorem mr_one (hg : D.sc.names.lookup ("range" : Str) = some .globalImplicit) (hm : D.mg "range" = none) (ha : MA D [a] am) (hs : ∀ env, starEach [a] env = [(false, eval a env)] := by exact fun _ => rfl) : MR D (.Call (.Name "range" p) [a] [] pos) (rg1 am) := by
  obtain ⟨t, pa, k⟩ := ha
  refine ⟨fun σ H Q => t σ H fun vs H1 => ∃ j : Int, vs = [.int j] ∧ Q 0 j H1, fun v gd => ⟨fun pins s σ H Q n I h => ?_⟩, fun G W M σ H env re Q q => k G W M σ H env re _ ?_⟩
  · refine Call_ (ld_blt I hg hm boot_range (PyProof.Rows.callWith_type1 ((pa v gd).go n I h fun us s1 vs H1 n1 I1 r1 q1 => ?_) (hs _) rfl))
    obtain ⟨j, rfl, q⟩ := q1
    cases r1 with
    | cons r rr =>
      cases rr
      obtain ⟨t, rfl⟩ := r
      exact call_range_1 ⟨_, 0, j, _, _, _, H1, rfl, IsRange.new _ _ _ _ _ _ _, I1.kept fun b u e => Heap.get?_push_of_some _ e, q⟩
  · unfold rg1 at q
    cases z : am env with
    | ok w =>
      obtain ⟨ts, e1⟩ := w
      rw [z] at q
      intro vs H1 ev1 re1 l1
      cases l1 with
      | nil => exact q.elim
      | cons i l =>
        cases l with
        | nil =>
          cases i with
          | int i => exact ⟨_, rfl, q H1 ev1 re1⟩
          | _ => exact (q : False).elim
        | cons _ _ => split at q <;> simp_all
    | ex c t => rw [z] at q; exact q
    | no => rw [z] at q; exact q
theorem mr_two (hg : D.sc.names.lookup ("range" : Str) = some .globalImplicit) (hm : D.mg "range" = none) (ha : MA D [a, b] am) (hs : ∀ env, starEach [a, b] env = (false, eval a env) :: starEach [b] env := by exact fun _ => rfl) (hpl : ∀ env, (backTo pos (starEach [b] env)).any (·.1) = false := by exact fun _ => rfl) :
    MR D (.Call (.Name "range" p) [a, b] [] pos) (rg2 am) := by
  obtain ⟨t, pa, k⟩ := ha
  refine ⟨fun σ H Q => t σ H fun vs H1 => ∃ i j : Int, vs = [.int i, .int j] ∧ Q i j H1, fun v gd => ⟨fun pins s σ H Q n I h => ?_⟩, fun G W M σ H env re Q q => k G W M σ H env re _ ?_⟩
  · refine Call_ (ld_blt I hg hm boot_range (PyProof.Rows.callWith_type1 ((pa v gd).go n I h fun us s1 vs H1 n1 I1 r1 q1 => ?_) (hs _) (hpl _)))
    obtain ⟨i, j, rfl, q⟩ := q1
    obtain ⟨u1, u2, rfl, ⟨t1, rfl⟩, ⟨t2, rfl⟩⟩ := vals2 r1
    exact call_range_2 ⟨_, i, j, _, _, _, H1, rfl, IsRange.new _ _ _ _ _ _ _, I1.kept fun b u e => Heap.get?_push_of_some _ e, q⟩
  · unfold rg2 at q
    cases z : am env with
    | ok w =>
      obtain ⟨ts, e1⟩ := w
      rw [z] at q
      intro vs H1 ev1 re1 l1
      split at q
      · rename_i e2
        split at e2
        · rename_i h
          cases h
          cases e2
          cases l1 with
          | cons i l =>
            cases l with
            | cons j l =>
              cases l; cases i; cases j
              exact ⟨_, _, rfl, q H1 ev1 re1⟩
        · cases e2
        · cases e2
        · cases e2
      · rename_i e2; split at e2 <;> simp_all
      · exact q.elim
    | ex c t => rw [z] at q; exact q
    | no => rw [z] at q; exact q
theorem mn_listRg (hg : D.sc.names.lookup ("list" : Str) = some .globalImplicit) (hm : D.mg "list" = none) (he : MR D e rm) (na : ∀ env, starEach [e] env = (false, eval e env) :: starEach [] env := by exact fun _ => rfl) : MN D (.Call (.Name "list" p) [e] [] pos) (xRgL rm) := by
  obtain ⟨t, pe, k⟩ := he
  refine ⟨tLstRg t, fun v gd => ⟨fun pins s σ H Q n I h => ?_⟩, fun G W M σ H env re Q q => k G W M σ H env re _ ?_⟩
  · refine Call_ (ld_blt I hg hm boot_list (PyProof.Rows.callWith_type1 (args_cons (thn ((pe v gd).run pins s σ H _ n I h) fun x s1 ⟨r, a, b, t, u, v, H1, ex, hr, I1, ok, q⟩ => args_nil ?_) (na _)) (na _)))
    subst ex
    obtain ⟨b1, b2, b3, b4, b5⟩ := ok
    refine call_list_range (n := (b - a).toNat) (I1.ok.hd rfl) hr (small_one b1 b2 b3 b4) (rangeSize_nat a b) b5 fun h' tk acc c' hk e' hi => ?_
    exact ⟨.ref s1.heap.objs.size, upd H1 s1.heap.objs.size (.lst (rgV a b)), I1.laid hk (Nat.le_refl _) (show ObjOk _ _ _ _ _ (.lst (rgV a b)) from ⟨by rw [rgV_length]; exact Nat.le_trans b5 (by rw [sizeLine_eq]; decide), acc.toList, c', vals_rg hi, e'⟩), rfl, q _ (I1.hok.fresh (Nat.le_refl _))⟩
  · unfold xRgL at q
    cases z : rm env with
    | ok w =>
      obtain ⟨⟨a, b⟩, e1⟩ := w
      rw [z] at q
      intro H1 ev1 re1
      dsimp only [R.bind] at q
      by_cases hr : rgOk a b = true
      · rw [if_pos hr] at q
        refine ⟨rgOk_of hr, fun p hp => ?_⟩
        have s := same_upd (o := .lst (rgV a b)) hp
        have hn : H p = none := by
          cases z : H p with
          | none => rfl
          | some u => exact (ev1.trk p (by rw [z]; exact fun y => nomatch y) hp).elim
        exact q p _ (ev1.trans (.same s)) hn (fun W' h1 h2 => re1.new hp trivial h1 h2) (fun W' hW => ⟨_, upd_same, rgV_is a b⟩) (.inl ⟨_, rfl⟩)
      · rw [if_neg hr] at q; exact (q : False).elim
    | ex c t => rw [z] at q; exact q
    | no => rw [z] at q; exact q
theorem me_tupRg (hg : D.sc.names.lookup ("tuple" : Str) = some .globalImplicit) (hm : D.mg "tuple" = none) (he : MR D e rm) (na : ∀ env, starEach [e] env = (false, eval e env) :: starEach [] env := by exact fun _ => rfl) : ME D (.Call (.Name "tuple" p) [e] [] pos) (xRgT rm) := by
  obtain ⟨t, pe, k⟩ := he
  refine ⟨tTupRg t, fun v gd => ⟨fun pins s σ H Q n I h => ?_⟩, fun G W M σ H env re Q q => k G W M σ H env re _ ?_⟩
  · refine Call_ (ld_blt I hg hm boot_tuple (PyProof.Rows.callWith_type1 (args_cons (thn ((pe v gd).run pins s σ H _ n I h) fun x s1 ⟨r, a, b, t, u, w, H1, ex, hr, I1, ok, q⟩ => args_nil ?_) (na _)) (na _)))
    subst ex
    obtain ⟨b1, b2, b3, b4, b5⟩ := ok
    refine call_tuple_range (n := (b - a).toNat) (I1.ok.hd rfl) hr (small_one b1 b2 b3 b4) (rangeSize_nat a b) b5 fun h' tk acc hk hi => ?_
    have I2 : Inv (D.cx v) pins σ H1 { s1 with heap := h', toks := tk } := I1.kept hk
    exact ⟨.ref h'.objs.size, upd H1 h'.objs.size (.tup (rgV a b)), I2.laid (t' := tk) (fun c o e => Heap.get?_push_of_some _ e) (Nat.le_refl _) (show ObjOk _ _ _ _ _ (.tup (rgV a b)) from ⟨by rw [rgV_length]; exact Nat.le_trans b5 (by rw [sizeLine_eq]; decide), acc.toList, vals_rg hi, by rw [Array.toArray_toList]; exact IsTup.new _ _⟩), rfl, q _ (I2.hok.fresh (Nat.le_refl _))⟩
  · unfold xRgT at q
    cases z : rm env with
    | ok w =>
      obtain ⟨⟨a, b⟩, e1⟩ := w
      rw [z] at q
      intro H1 ev1 re1
      dsimp only [R.bind] at q
      by_cases hr : rgOk a b = true
      · rw [if_pos hr] at q
        refine ⟨rgOk_of hr, fun p hp => ?_⟩
        have s := same_upd (o := .tup (rgV a b)) hp
        exact q _ _ (ev1.trans (.same s)) (re1.same s) (.tup (.of upd_same) (rgV_is a b))
      · rw [if_neg hr] at q; exact (q : False).elim
    | ex c t => rw [z] at q; exact q
    | no => rw [z] at q; exact q
end
end M3
/-! M3, part l: what is never come to, calls that give fresh things, a fresh thing handed in, pairs of names. -/
namespace M3
open PySem PySem.Spec PyProof.Rows L2

/-! ### never come to -/
theorem ms_no {D : Dat} {st : Stmt} : MS D st (fun _ => .no) := ⟨tNever, fun v _ => ⟨fun _ _ _ _ _ _ _ h => h.elim⟩, fun G W M σ H env re Dn q => q.elim⟩
theorem me_no {D : Dat} {e : Expr} : ME D e (fun _ => .no) := ⟨fun _ _ _ => False, fun v _ => ⟨fun _ _ _ _ _ _ _ h => h.elim⟩, fun G W M σ H env re Q q => q.elim⟩

/-! ### a def's fresh thing -/
theorem IsO.mut {K : PySem.W.Frag} {W : Addr → Prop} {H : Hp} {a : Addr} {t : T} (o : IsO K W H a t) : Mut (H a) := by
  cases t with
  | lst ts => obtain ⟨xs, e, _⟩ := o; rw [e]; trivial
  | dct b ks vs => obtain ⟨o, ws, e, d, _⟩ := o; rw [e]; exact d.mut
  | _ => exact o.elim
theorem IsO.shape {K : PySem.W.Frag} {W : Addr → Prop} {H : Hp} {a : Addr} {t : T} (o : IsO K W H a t) : (∃ ts, t = .lst ts) ∨ ∃ b ks vs, t = .dct b ks vs := by
  cases t with
  | lst ts => exact .inl ⟨ts, rfl⟩
  | dct b ks vs => exact .inr ⟨b, ks, vs, rfl⟩
  | _ => exact o.elim
/-- more is held: p, new -/
theorem RE.grow {K : PySem.W.Frag} {G : Gh} {W W' M : Addr → Prop} {σ : L2.St} {H H' : Hp} {env : EnvM} {p : Addr} (r : RE K G W M σ H env) (s : Same H H') (hp : H p = none) (mu : Mut (H' p)) (h1 : ∀ a, W a → W' a) (h2 : ∀ a, W' a → W a ∨ a = p) : RE K G W' M σ H' env := by
  have f : Fut W H W' H' := ⟨fun a o h _ => s a o h, fun a w h => (h2 a w).resolve_right fun z => h (by rw [z]; exact hp), (Fut.same (W := W) s).trk⟩
  exact {
    len := r.len
    val := fun i t e => by obtain ⟨v, q1, q2⟩ := r.val i t e; exact ⟨v, q1, q2.fut f r.muts⟩
    own := fun i b t e => by
      obtain ⟨a, q1, q2, q3, q4⟩ := r.own i b t e
      have mu := q3.mut
      refine ⟨a, q1, q2, q3.fut f r.muts ?_, q4⟩
      cases z : H a with
      | none => rw [z] at mu; exact mu.elim
      | some o => exact s a o z
    inj := r.inj
    sub := fun a w => h1 a (r.sub a w)
    muts := fun a w => by
      rcases h2 a w with w | rfl
      · have mu := r.muts a w
        cases z : H a with
        | none => rw [z] at mu; exact mu.elim
        | some o => rw [s a o z]; rw [z] at mu; exact mu
      · exact mu
    old := fun a w => h1 a (r.old a w)
    ent := r.ent
    trk := fun a h => f.trk a (r.trk a h) }
section
variable {D : Dat} {e : Expr} {m : XM} {pos p : Pos} {k : Nat} {f : Addr} {fd : FuncData} {ps : List Str} {x : Str} {es : List Expr}
theorem post_new {G : Gh} {W M : Addr → Prop} {σ : L2.St} {H0 H : Hp} {env : EnvM} {Q : VK} {r : R T} (ev0 : Ev M H0 H) (re : RE D.K G W M σ H env) (q : PstN D G W M σ H0 Q (r.bind fun t => .ok (t, env))) : PostN D.K D.mg W H Q D.E r := by
  cases r with
  | ok t =>
    intro p H' s hp io
    have hn : H0 p = none := by
      cases z : H0 p with
      | none => rfl
      | some u => exact (ev0.trk p (by rw [z]; exact fun y => nomatch y) hp).elim
    exact q p H' (ev0.trans (.same s)) hn (fun W' h1 h2 => re.grow s hp io.mut h1 h2) (fun W' h => io.weak fun a w => h a w) io.shape
  | ex c t => exact fun H' C d f v s hC hd i => q H' C d f v (ev0.trans (.same s)) hC hd i
  | no => exact q
theorem mn_call {n : Nat} {g : List T → R T} {am : AM} (F : FnD D x k f fd ps (spN D.K D.mg n g)) (hb : Binds D.K fd ps []) (hg : D.sc.names.lookup x = some .globalImplicit) (ha : MA D (e :: es) am) (hdb : (x == ("__debug__" : Str)) = false := by decide)
    (he : ∀ env, starEach (e :: es) env = (false, eval e env) :: starEach es env := by exact fun _ => rfl) (hpl : ∀ env, (backTo pos (starEach es env)).any (·.1) = false := by exact fun _ => rfl) :
    MN D (.Call (.Name x p) (e :: es) [] pos) (xCall n g am) := by
  obtain ⟨t, pa, ka⟩ := ha
  refine ⟨tCall (spN D.K D.mg n g) [] D.E t, fun v gd => pe_call (X := D.cx v) F.ok gd.tok F.room hg F.mg F.kp hb .nil gd.pas (pa v gd) hdb (he _) (hpl _), fun G W M σ H env re Q q => ?_⟩
  refine pstA_bind (P := PstN D G W M σ H Q) ka re (fun c t h => h) (fun h => h) q fun ts e1 vs H1 ev1 re1 l1 q1 => ?_
  rw [List.append_nil]
  dsimp only at q1
  split at q1
  · rename_i hl
    exact ⟨by rw [l1.length]; exact Nat.eq_of_beq_eq_true hl, W, ts, re1.muts, l1, post_new ev1 re1 q1⟩
  · exact (q1 : False).elim
theorem mn_call0 {g : List T → R T} (F : FnD D x k f fd ps (spN D.K D.mg 0 g)) (hb : Binds D.K fd ps []) (hg : D.sc.names.lookup x = some .globalImplicit) (hdb : (x == ("__debug__" : Str)) = false := by decide) :
    MN D (.Call (.Name x p) [] [] pos) (xCall 0 g aNil) := by
  refine ⟨tCall (spN D.K D.mg 0 g) [] D.E tNil, fun v gd => pe_call0 (X := D.cx v) F.ok gd.tok F.room hg F.mg F.kp hb .nil gd.pas hdb, fun G W M σ H env re Q q => ?_⟩
  exact ⟨rfl, W, [], re.muts, .nil, post_new Ev.refl re q⟩
/-! ### a fresh thing handed in -/
@[simp] def xCallF (n : Nat) (g : T → List T → R (T × T)) (m : XM) (am : AM) : XM := fun env => (m env).bind fun (t, e1) => (am e1).bind fun (ts, e2) => if Nat.beq (ts.length + 1) n then (g t ts).bind fun (u, _) => .ok (u, e2) else .no
theorem me_callF {n : Nat} {g : T → List T → R (T × T)} {am : AM} (F : FnD D x k f fd ps (spI D.K D.mg n g)) (hb : Binds D.K fd ps []) (hg : D.sc.names.lookup x = some .globalImplicit) (h1 : MN D e m) (ha : MA D es am) (hdb : (x == ("__debug__" : Str)) = false := by decide)
    (he : ∀ env, starEach (e :: es) env = (false, eval e env) :: starEach es env := by exact fun _ => rfl) (hpl : ∀ env, (backTo pos (starEach es env)).any (·.1) = false := by exact fun _ => rfl) :
    ME D (.Call (.Name x p) (e :: es) [] pos) (xCallF n g m am) := by
  obtain ⟨t1, p1, k1⟩ := h1
  obtain ⟨t, pa, ka⟩ := ha
  refine ⟨tCall (spI D.K D.mg n g) [] D.E (tCons t1 t), fun v gd => pe_call (X := D.cx v) F.ok gd.tok F.room hg F.mg F.kp hb .nil gd.pas (pa_cons (p1 v gd) (pa v gd) (he _)) hdb (he _) (hpl _), fun G W M σ H env re Q q => k1 G W M σ H env re _ ?_⟩
  unfold xCallF at q
  cases z : m env with
  | ex c t => rw [z] at q; exact q
  | no => rw [z] at q; exact q
  | ok w =>
    obtain ⟨t0, e1⟩ := w
    rw [z] at q
    intro p0 H1 ev1 hp rr oo sh
    have re1 := rr (withP W p0) (fun a w => .inl w) fun a w => w
    have io1 := oo (withP W p0) fun a w => w
    have np : ¬ M p0 := fun m => re.unheld hp (re.sub _ m)
    have nW : ¬ W p0 := re.unheld hp
    refine ka G (withP W p0) M σ H1 e1 re1 _ ?_
    dsimp only [R.bind] at q
    cases z2 : am e1 with
    | ex c t => rw [z2] at q; exact fun H' C d f v ev hC hd i => q H' C d f v (ev1.trans ev) hC hd (i.weak fun a w => .inl w)
    | no => rw [z2] at q; exact q
    | ok w2 =>
      obtain ⟨ts, e2⟩ := w2
      rw [z2] at q
      intro vs H2 ev2 re2 l2
      dsimp only at q
      split at q
      · rename_i hl
        have k2 : H2 p0 = H1 p0 := by
          have mu := io1.mut
          cases z : H1 p0 with
          | none => rw [z] at mu; exact mu.elim
          | some o => exact ev2.keep p0 o z np
        have io2 := io1.fut (ev2.fut re1.sub) re1.muts k2
        have fin : ∀ {H'}, Ev (fun x => x = p0) H2 H' → Ev M H H' ∧ RE D.K G W M σ H' e2 := fun {H'} ev => by
          have kp : ∀ a o, a ≠ p0 → H2 a = some o → H' a = some o := fun a o n h => ev.keep a o h n
          have f : Fut (withP W p0) H2 (withP W p0) H' := ⟨fun a o h n => kp a o (fun z => n (.inr z)) h, fun _ h _ => h, ev.trk⟩
          refine ⟨⟨fun a o h n => kp a o (fun z => by subst z; rw [hp] at h; cases h) ((ev1.trans ev2).keep a o h n), fun a h => ev.trk a ((ev1.trans ev2).trk a h)⟩, ?_⟩
          exact {
            len := re2.len
            val := fun i t e => by obtain ⟨v, q1, q2⟩ := re2.val i t e; exact ⟨v, q1, (q2.fut f re2.muts).weak fun a w => .inl w⟩
            own := fun i b t e => by
              obtain ⟨a, q1, q2, q3, q4⟩ := re2.own i b t e
              have mu := q3.mut
              refine ⟨a, q1, q2, (q3.fut f re2.muts ?_).weak fun a w => .inl w, q4⟩
              cases z : H2 a with
              | none => rw [z] at mu; exact mu.elim
              | some o => exact kp a o (fun z => np (by rw [← z]; exact q2)) z
            inj := re2.inj
            sub := re.sub
            muts := fun a w => by
              have mu := re2.muts a (.inl w)
              cases z : H2 a with
              | none => rw [z] at mu; exact mu.elim
              | some o => rw [kp a o (fun z => nW (by rw [← z]; exact w)) z]; rw [z] at mu; exact mu
            old := re.old
            ent := re.ent
            trk := fun a h => ev.trk a (re2.trk a h) }
        refine ⟨by rw [List.length_append, List.length_cons, l2.length]; simpa using Nat.eq_of_beq_eq_true hl, withP W p0, p0, t0, vs, ts, by simp, re2.muts, .inr rfl, io2, l2, ?_⟩
        cases z3 : g t0 ts with
        | ok w3 =>
          obtain ⟨u, t2⟩ := w3
          rw [z3] at q
          intro v H' ev mu io iv
          obtain ⟨a1, a2⟩ := fin ev
          exact q v H' a1 a2 (iv.weak fun a w => .inl w)
        | ex c t => rw [z3] at q; exact fun H' C d f v ev hC hd i => q H' C d f v (fin ev).1 hC hd (i.weak fun a w => .inl w)
        | no => rw [z3] at q; exact (q : False).elim
      · exact (q : False).elim

/-! ### a row of values and fresh things, stored under names -/
abbrev FM := EnvM → R (List (Bool × T) × EnvM)
inductive FL (K : PySem.W.Frag) (W : Addr → Prop) (H : Hp) : List V → List (Bool × T) → List Addr → Prop
  | nil : FL K W H [] [] []
  | val {v : V} {t : T} {vs : List V} {ts : List (Bool × T)} {ps : List Addr} : Is K W H v t → FL K W H vs ts ps → FL K W H (v :: vs) ((false, t) :: ts) ps
  | new {p : Addr} {t : T} {vs : List V} {ts : List (Bool × T)} {ps : List Addr} : IsO K W H p t → W p → p ∉ ps → FL K W H vs ts ps → FL K W H (.ref p :: vs) ((true, t) :: ts) (p :: ps)
def PstF (D : Dat) (G : Gh) (W M : Addr → Prop) (σ : L2.St) (H : Hp) (Q : List V → Hp → Prop) : R (List (Bool × T) × EnvM) → Prop
  | .ok (ts, env') => ∀ vs ps W' H', Ev M H H' → (∀ a, W a → W' a) → (∀ a, W' a → W a ∨ a ∈ ps) → (∀ p ∈ ps, H p = none) → RE D.K G W' M σ H' env' → FL D.K W' H' vs ts ps → Q vs H'
  | .ex c t => ExW D W M H c t
  | .no => False
def TFok (D : Dat) (m : FM) (ta : TA) : Prop := ∀ G W M σ H env, RE D.K G W M σ H env → ∀ Q, PstF D G W M σ H Q (m env) → ta σ H Q
def MF (D : Dat) (es : List Expr) (m : FM) : Prop := ∃ ta, (∀ v, D.Good v → PA (D.cx v) es ta) ∧ TFok D m ta
def fNil : FM := fun env => .ok ([], env)
def fVal (m : XM) (r : FM) : FM := fun env => (m env).bind fun (t, e1) => (r e1).bind fun (ts, e2) => .ok ((false, t) :: ts, e2)
def fNew (m : XM) (r : FM) : FM := fun env => (m env).bind fun (t, e1) => (r e1).bind fun (ts, e2) => .ok ((true, t) :: ts, e2)
theorem mf_nil : MF D [] fNil := ⟨tNil, fun _ _ => pa_nil, fun G W M σ H env r Q q => q [] [] W H Ev.refl (fun _ h => h) (fun _ h => .inl h) (fun _ h => nomatch h) r .nil⟩
theorem mf_val {r : FM} (h1 : ME D e m) (h2 : MF D es r) (hs : ∀ v : Vr, starEach (e :: es) (D.cx v).env = (false, eval e (D.cx v).env) :: starEach es (D.cx v).env := by intro _; rfl) : MF D (e :: es) (fVal m r) := by
  obtain ⟨t1, p1, k1⟩ := h1
  obtain ⟨t2, p2, k2⟩ := h2
  refine ⟨tCons t1 t2, fun v g => pa_cons (p1 v g) (p2 v g) (hs v), fun G W M σ H env re Q q => ?_⟩
  refine pst_bind (P := PstF D G W M σ H Q) k1 re (fun c t h => h) (fun h => h) q fun t env1 v H1 ev1 re1 i1 q1 => ?_
  refine k2 G W M σ H1 env1 re1 _ ?_
  dsimp only [R.bind] at q1
  cases z : r env1 with
  | ex c t => rw [z] at q1; exact ExW.ev ev1 q1
  | no => rw [z] at q1; exact q1
  | ok w =>
    obtain ⟨ts, e2⟩ := w
    rw [z] at q1
    intro vs ps W' H2 ev2 h1 h2 h3 re2 fl
    have f : Fut W H1 W' H2 := ⟨fun a o h n => ev2.keep a o h fun m => n (re1.sub a m), fun a w h => (h2 a w).resolve_right fun z => h (h3 a z), ev2.trk⟩
    refine q1 (v :: vs) ps W' H2 (ev1.trans ev2) h1 h2 (fun p hp => ?_) re2 (.val (i1.fut f re1.muts) fl)
    cases z : H p with
    | none => rfl
    | some u => exact (ev1.trk p (by rw [z]; exact fun y => nomatch y) (h3 p hp)).elim
theorem mf_new {r : FM} (h1 : MN D e m) (h2 : MF D es r) (hs : ∀ v : Vr, starEach (e :: es) (D.cx v).env = (false, eval e (D.cx v).env) :: starEach es (D.cx v).env := by intro _; rfl) : MF D (e :: es) (fNew m r) := by
  obtain ⟨t1, p1, k1⟩ := h1
  obtain ⟨t2, p2, k2⟩ := h2
  refine ⟨tCons t1 t2, fun v g => pa_cons (p1 v g) (p2 v g) (hs v), fun G W M σ H env re Q q => k1 G W M σ H env re _ ?_⟩
  unfold fNew at q
  cases z : m env with
  | ex c t => rw [z] at q; exact q
  | no => rw [z] at q; exact q
  | ok w =>
    obtain ⟨t0, e1⟩ := w
    rw [z] at q
    intro p0 H1 ev1 hp rr oo sh
    have re1 := rr (withP W p0) (fun a w => .inl w) fun a w => w
    have io1 := oo (withP W p0) fun a w => w
    have np : ¬ M p0 := fun m => re.unheld hp (re.sub _ m)
    refine k2 G (withP W p0) M σ H1 e1 re1 _ ?_
    dsimp only [R.bind] at q
    cases z2 : r e1 with
    | ex c t => rw [z2] at q; exact fun H' C d f v ev hC hd i => q H' C d f v (ev1.trans ev) hC hd (i.weak fun a w => .inl w)
    | no => rw [z2] at q; exact q
    | ok w2 =>
      obtain ⟨ts, e2⟩ := w2
      rw [z2] at q
      intro vs ps W' H2 ev2 h1 h2 h3 re2 fl
      have mu := io1.mut
      obtain ⟨o, ho⟩ : ∃ o, H1 p0 = some o := by
        cases z : H1 p0 with
        | none => rw [z] at mu; exact mu.elim
        | some o => exact ⟨o, rfl⟩
      have nps : p0 ∉ ps := fun z => by have := h3 p0 z; rw [ho] at this; cases this
      have f : Fut (withP W p0) H1 W' H2 := ⟨fun a o h n => ev2.keep a o h fun m => n (re1.sub a m), fun a w h => (h2 a w).resolve_right fun z => h (h3 a z), ev2.trk⟩
      refine q (.ref p0 :: vs) (p0 :: ps) W' H2 (ev1.trans ev2) (fun a w => h1 a (.inl w)) (fun a w => ?_) (fun p hpp => ?_) re2 (.new (io1.fut f re1.muts ?_) (h1 p0 (.inr rfl)) nps fl)
      · rcases h2 a w with (w | rfl) | w
        · exact .inl w
        · exact .inr List.mem_cons_self
        · exact .inr (List.mem_cons_of_mem _ w)
      · rcases List.mem_cons.mp hpp with rfl | hpp
        · exact hp
        · cases z : H p with
          | none => rfl
          | some u => exact (ev1.trk p (by rw [z]; exact fun y => nomatch y) (h3 p hpp)).elim
      · rw [ho]; exact ev2.keep p0 o ho np
end
def setS : L2.St → List Nat → List V → L2.St
  | σ, i :: is, v :: vs => setS (σ.set i (some v)) is vs
  | σ, _, _ => σ
@[simp] def slF : Bool × T → Sl
  | (true, t) => .own false t
  | (false, t) => .val t
@[simp] def setE : EnvM → List Nat → List (Bool × T) → EnvM
  | env, i :: is, t :: ts => setE (env.set i (slF t)) is ts
  | env, _, _ => env
theorem fl_set {K : PySem.W.Frag} {G : Gh} {W : Addr → Prop} {H : Hp} : ∀ {is : List Nat} {vs : List V} {ts : List (Bool × T)} {ps : List Addr} {M : Addr → Prop} {σ : L2.St} {env : EnvM}, FL K W H vs ts ps → RE K G W M σ H env → (∀ p ∈ ps, ¬ M p) → (∀ p ∈ ps, G.H0 p = none) →
    ∃ M', RE K G W M' (setS σ is vs) H (setE env is ts) ∧ (∀ a, M' a → M a ∨ a ∈ ps)
  | [], _, _, _, M, _, _, _, r, _, _ => ⟨M, r, fun a h => .inl h⟩
  | i :: is, _, _, _, M, _, _, .nil, r, _, _ => ⟨M, r, fun a h => .inl h⟩
  | i :: is, _, _, _, M, σ, env, .val q l, r, h1, h2 => fl_set (is := is) l (r.set (i := i) q) h1 h2
  | i :: is, _, _, _, M, σ, env, .new (p := p) (ps := ps) q wp np l, r, h1, h2 => by
    have nM := h1 p List.mem_cons_self
    have r1 := r.setOwn (i := i) (M' := withP M p) (fun a m => .inl m) (.inr rfl) (fun a m => m.elim (r.sub a) fun z => by rw [z]; exact wp) (fun j hj b t ej => by
      obtain ⟨a, e1, e2, _⟩ := r.own j b t ej
      rw [hj] at e1; cases e1
      exact nM e2) q (h2 p List.mem_cons_self)
    obtain ⟨M', r2, h3⟩ := fl_set (is := is) l r1 (fun a ha => fun z => z.elim (h1 a (List.mem_cons_of_mem _ ha)) fun z => np (by rw [← z]; exact ha)) fun a ha => h2 a (List.mem_cons_of_mem _ ha)
    exact ⟨M', r2, fun a ha => (h3 a ha).elim (fun z => z.elim .inl fun z => .inr (by rw [z]; exact List.mem_cons_self)) fun z => .inr (List.mem_cons_of_mem _ z)⟩
theorem FL.length {K : PySem.W.Frag} {W : Addr → Prop} {H : Hp} : ∀ {vs : List V} {ts : List (Bool × T)} {ps : List Addr}, FL K W H vs ts ps → vs.length = ts.length
  | _, _, _, .nil => rfl
  | _, _, _, .val _ l => congrArg (· + 1) l.length
  | _, _, _, .new _ _ _ l => congrArg (· + 1) l.length
section
variable {X : Cx} {a b c : Expr} {ta : TA} {px py pz pt pos : Pos} {kt k2 : Nat} {pt2 : Pos} {i j l : Nat} {x y z : Str}
theorem ps_par {kt k2} (hc : X.calm = true) (hN : X.N.Nodup) (hi : X.N[i]? = some x) (hj : X.N[j]? = some y) (hij : i ≠ j)
    (hx : X.env.scope.names.lookup x = some .local) (hy : X.env.scope.names.lookup y = some .local) (ha : PA X [a, b] ta)
    (hw : swappedStores [.Tuple [.Name x px, .Name y py] kt pt] (.Tuple [a, b] k2 pt2) X.env = pure (some [x, y]))
    (hs : swapsWithSole [.Tuple [.Name x px, .Name y py] kt pt] (.Tuple [a, b] k2 pt2) pos.line X.env = pure false) :
    PS X (.Assign [.Tuple [.Name x px, .Name y py] kt pt] (.Tuple [a, b] k2 pt2) pos) (tPar i j ta) := by
  refine ⟨fun pins s σ H D n I h => ?_⟩
  rw [exec_Assign_arm]
  refine wpAny_bind (wpAny_standAt ?_)
  rw [hs]
  refine wpAny_bind (wpAny_pure ?_)
  rw [if_neg (by decide)]
  refine wpAny_bind (Tuple_ (ha.go n I h fun us s1 vs H1 _ I1 r1 q1 => ?_))
  obtain ⟨v, w, rfl, q1⟩ := q1
  obtain ⟨u1, u2, rfl, rv, rw'⟩ := vals2 r1
  refine wpAny_newObj_type ?_ (by show 2 ≤ sizeLine; decide)
  have I2 : Inv X pins σ H1 { s1 with heap := s1.heap.push { cls := .type "tuple", data := .seq [u1, u2].toArray } } := I1.kept (t' := s1.toks) fun b o e => Heap.get?_push_of_some _ e
  rw [hw]
  refine wpAny_bind (wpAny_pure ?_)
  show wpAny (model X.prog X.w) X.A (do rule "assign.swapped-stores"; let items ← unpackItems (.ref s1.heap.objs.size) 2 none; assignInOrder [fun v => bindName X.env y v, fun v => bindName X.env x v] items.reverse; pure Flow.next) _ _ _
  refine wpAny_bind (wpAny_rule (wpAny_bind (unpackItems_tuple (items := #[u1, u2]) (I.ok.hd hc) (IsTup.new s1.heap _) fun h' hx' => ?_)))
  have I3 := I2.kept (h' := h') (t' := s1.toks) fun b o e => hx' b o (Nat.ne_of_lt (Heap.lt_size e)) e
  show wpAny _ _ (assignInOrder [fun v => bindName X.env y v, fun v => bindName X.env x v] [u2, u1] >>= fun _ => pure Flow.next) _ _ _
  refine wpAny_bind (assignInOrder_cons (wpAny_bindName (store_ok I3 hN hj (.inl hy) rw' (fun s2 I4 => ?_) (.inr hy))))
  refine assignInOrder_cons (wpAny_bindName (store_ok I4 hN hi (.inl hx) rv (fun s3 I5 => assignInOrder_nil (wpAny_pure ?_)) (.inr hx)))
  rw [List.set_comm _ _ (Ne.symm hij)] at I5
  exact ⟨_, H1, I5, q1⟩
theorem ps_par3 {kt k2} (hc : X.calm = true) (hN : X.N.Nodup) (hi : X.N[i]? = some x) (hj : X.N[j]? = some y) (hl : X.N[l]? = some z) (hij : i ≠ j) (hil : i ≠ l) (hjl : j ≠ l)
    (hx : X.env.scope.names.lookup x = some .local) (hy : X.env.scope.names.lookup y = some .local) (hz : X.env.scope.names.lookup z = some .local) (ha : PA X [a, b, c] ta)
    (hw : swappedStores [.Tuple [.Name x px, .Name y py, .Name z pz] kt pt] (.Tuple [a, b, c] k2 pt2) X.env = pure (some [x, y, z]))
    (hs : swapsWithSole [.Tuple [.Name x px, .Name y py, .Name z pz] kt pt] (.Tuple [a, b, c] k2 pt2) pos.line X.env = pure false) :
    PS X (.Assign [.Tuple [.Name x px, .Name y py, .Name z pz] kt pt] (.Tuple [a, b, c] k2 pt2) pos) (tPar3 i j l ta) := by
  refine ⟨fun pins s σ H D n I h => ?_⟩
  rw [exec_Assign_arm]
  refine wpAny_bind (wpAny_standAt ?_)
  rw [hs]
  refine wpAny_bind (wpAny_pure ?_)
  rw [if_neg (by decide)]
  refine wpAny_bind (Tuple_ (ha.go n I h fun us s1 vs H1 _ I1 r1 q1 => ?_))
  obtain ⟨v1, v2, v3, rfl, q1⟩ := q1
  obtain ⟨u1, u2, u3, rfl, r1', r2', r3'⟩ : ∃ u1 u2 u3, us = [u1, u2, u3] ∧ RelV v1 u1 ∧ RelV v2 u2 ∧ RelV v3 u3 := by
    cases r1 with
    | cons p q => obtain ⟨u2, u3, rfl, p2, p3⟩ := vals2 q; exact ⟨_, _, _, rfl, p, p2, p3⟩
  refine wpAny_newObj_type ?_ (by show 3 ≤ sizeLine; decide)
  have I2 : Inv X pins σ H1 { s1 with heap := s1.heap.push { cls := .type "tuple", data := .seq [u1, u2, u3].toArray } } := I1.kept (t' := s1.toks) fun b o e => Heap.get?_push_of_some _ e
  rw [hw]
  refine wpAny_bind (wpAny_pure ?_)
  show wpAny (model X.prog X.w) X.A (do rule "assign.swapped-stores"; let items ← unpackItems (.ref s1.heap.objs.size) 3 none; assignInOrder [fun v => bindName X.env z v, fun v => bindName X.env y v, fun v => bindName X.env x v] items.reverse; pure Flow.next) _ _ _
  refine wpAny_bind (wpAny_rule (wpAny_bind (unpackItems_tuple (items := #[u1, u2, u3]) (I.ok.hd hc) (IsTup.new s1.heap _) fun h' hx' => ?_)))
  have I3 := I2.kept (h' := h') (t' := s1.toks) fun b o e => hx' b o (Nat.ne_of_lt (Heap.lt_size e)) e
  show wpAny _ _ (assignInOrder [fun v => bindName X.env z v, fun v => bindName X.env y v, fun v => bindName X.env x v] [u3, u2, u1] >>= fun _ => pure Flow.next) _ _ _
  refine wpAny_bind (assignInOrder_cons (wpAny_bindName (store_ok I3 hN hl (.inl hz) r3' (fun s2 I4 => ?_) (.inr hz))))
  refine assignInOrder_cons (wpAny_bindName (store_ok I4 hN hj (.inl hy) r2' (fun s3 I5 => ?_) (.inr hy)))
  refine assignInOrder_cons (wpAny_bindName (store_ok I5 hN hi (.inl hx) r1' (fun s4 I6 => assignInOrder_nil (wpAny_pure ?_)) (.inr hx)))
  rw [List.set_comm _ _ (Ne.symm hjl), List.set_comm _ _ (Ne.symm hil), List.set_comm _ _ (Ne.symm hij)] at I6
  exact ⟨_, H1, I6, q1⟩
end
section
variable {D : Dat} {a b c : Expr} {px py pz pt pos pt2 : Pos} {i j l : Nat} {x y z : Str} {fm : FM}
@[simp] def sPar (is : List Nat) (fm : FM) : SM := fun env => (fm env).bind fun (ts, e1) => if Nat.beq ts.length is.length then .ok (.nx, setE e1 is ts) else .no
theorem par_ok {ta : TA} {is : List Nat} {G : Gh} {W M : Addr → Prop} {σ : L2.St} {H : Hp} {env : EnvM} {Dn : Ends} {Q' : List V → Hp → Prop} (k : TFok D fm ta) (re : RE D.K G W M σ H env) (q : PstS D G W M H Dn (sPar is fm env))
    (hQ : ∀ vs H1, vs.length = is.length → Dn.nx (setS σ is vs) H1 → Q' vs H1) : ta σ H Q' := by
  refine k G W M σ H env re _ ?_
  unfold sPar at q
  cases z : fm env with
  | ex c t => rw [z] at q; exact q.exw re.old
  | no => rw [z] at q; exact q
  | ok w =>
    obtain ⟨us, e1⟩ := w
    rw [z] at q
    intro vs ps W' H' ev h1 h2 h3 re1 fl
    dsimp only [R.bind] at q
    split at q
    · rename_i hn
      obtain ⟨M', r2, h4⟩ := fl_set (is := is) fl re1 (fun p hp m => re.unheld (h3 p hp) (re.sub p m)) fun p hp => by
        cases z : G.H0 p with
        | none => rfl
        | some o => exact (re.trk p (by rw [z]; exact fun y => nomatch y) (h3 p hp)).elim
      refine hQ vs H' (by rw [fl.length]; exact Nat.eq_of_beq_eq_true hn) (q W' M' _ H' ⟨ev.keep, ev.trk, fun a w h => (h2 a w).resolve_right fun z => h (h3 a z), fun a w h => (h4 a w).resolve_right fun z => h (h3 a z)⟩ r2)
    · exact (q : False).elim
theorem ms_par {kt k2} (i j : Nat) (hN : D.N.Nodup) (hi : D.N[i]? = some x) (hj : D.N[j]? = some y) (hij : i ≠ j) (hx : D.sc.names.lookup x = some .local) (hy : D.sc.names.lookup y = some .local) (h : MF D [a, b] fm)
    (hw : ∀ v : Vr, swappedStores [.Tuple [.Name x px, .Name y py] kt pt] (.Tuple [a, b] k2 pt2) (D.cx v).env = pure (some [x, y]))
    (hs : ∀ v : Vr, swapsWithSole [.Tuple [.Name x px, .Name y py] kt pt] (.Tuple [a, b] k2 pt2) pos.line (D.cx v).env = pure false := by exact fun _ => rfl) :
    MS D (.Assign [.Tuple [.Name x px, .Name y py] kt pt] (.Tuple [a, b] k2 pt2) pos) (sPar [i, j] fm) := by
  obtain ⟨ta, p, k⟩ := h
  refine ⟨tPar i j ta, fun v g => ps_par (X := D.cx v) rfl hN hi hj hij hx hy (p v g) (hw v) (hs v), fun G W M σ H env re Dn q => par_ok (is := [i, j]) k re q fun vs H1 hl h => ?_⟩
  match vs, hl with
  | [u, v], _ => exact ⟨u, v, rfl, h⟩
theorem ms_par3 {kt k2} (i j l : Nat) (hN : D.N.Nodup) (hi : D.N[i]? = some x) (hj : D.N[j]? = some y) (hl : D.N[l]? = some z) (hij : i ≠ j) (hil : i ≠ l) (hjl : j ≠ l) (hx : D.sc.names.lookup x = some .local) (hy : D.sc.names.lookup y = some .local) (hz : D.sc.names.lookup z = some .local) (h : MF D [a, b, c] fm)
    (hw : ∀ v : Vr, swappedStores [.Tuple [.Name x px, .Name y py, .Name z pz] kt pt] (.Tuple [a, b, c] k2 pt2) (D.cx v).env = pure (some [x, y, z]))
    (hs : ∀ v : Vr, swapsWithSole [.Tuple [.Name x px, .Name y py, .Name z pz] kt pt] (.Tuple [a, b, c] k2 pt2) pos.line (D.cx v).env = pure false := by exact fun _ => rfl) :
    MS D (.Assign [.Tuple [.Name x px, .Name y py, .Name z pz] kt pt] (.Tuple [a, b, c] k2 pt2) pos) (sPar [i, j, l] fm) := by
  obtain ⟨ta, p, k⟩ := h
  refine ⟨tPar3 i j l ta, fun v g => ps_par3 (X := D.cx v) rfl hN hi hj hl hij hil hjl hx hy hz (p v g) (hw v) (hs v), fun G W M σ H env re Dn q => par_ok (is := [i, j, l]) k re q fun vs H1 hl h => ?_⟩
  match vs, hl with
  | [u, v, w], _ => exact ⟨u, v, w, rfl, h⟩
end
end M3
/-! M3, part m: dicts whose keys are ints and texts. -/
namespace M3
open PySem PySem.Spec PyProof.Rows L2

/-! ### keys -/
def keyO : T → Option Key
  | .int i => some (.inl i)
  | .str cs => some (.inr ⟨cs.toArray⟩)
  | _ => none
theorem keyO_keyT (k : Key) : keyO (keyT k) = some k := by
  cases k with
  | inl i => rfl
  | inr x => obtain ⟨a⟩ := x; simp [keyT, keyO]
theorem keyT_of {t : T} {k : Key} (h : keyO t = some k) : keyT k = t := by
  cases t with
  | int i => cases h; rfl
  | str cs => cases h; simp [keyT]
  | _ => cases h
theorem key_val {K : PySem.W.Frag} {W : Addr → Prop} {H : Hp} {v : V} {t : T} {k : Key} (h : keyO t = some k) (i : Is K W H v t) : v = kV k := by
  cases i with
  | int i => cases h; rfl
  | str cs _ => cases h; rfl
  | _ => cases h
/-- the same key -/
def kq : T → T → Bool
  | .int i, .int j => decide (i = j)
  | .str a, .str b => a == b
  | _, _ => false
theorem kq_key (a b : Key) : kq (keyT a) (keyT b) = decide (a = b) := by
  cases a with
  | inl i => cases b with
    | inl j => simp [keyT, kq]
    | inr y => simp [keyT, kq]
  | inr x => cases b with
    | inl j => simp [keyT, kq]
    | inr y =>
      obtain ⟨⟨x⟩⟩ := x
      obtain ⟨⟨y⟩⟩ := y
      by_cases h : x = y
      · subst h; simp [keyT, kq]
      · have h2 : ¬ ((Sum.inr (Str.mk (Array.mk x)) : Key) = Sum.inr (Str.mk (Array.mk y))) := fun z => h (by injection z with z; injection z with z; injection z)
        rw [decide_eq_false h2]
        simp [keyT, kq, h]
def getD : List T → List T → T → Option T
  | k :: ks, v :: vs, t => if kq k t then some v else getD ks vs t
  | _, _, _ => none
def repD : List T → List T → T → T → List T
  | k :: ks, v :: vs, t, u => (if kq k t then u else v) :: repD ks vs t u
  | _, _, _, _ => []
def hasD (ks : List T) (t : T) : Bool := ks.any fun k => kq k t
/-- the keys, the values behind d[t] = u -/
def putD (ks vs : List T) (t u : T) : List T × List T := if hasD ks t then (ks, repD ks vs t u) else (ks ++ [t], vs ++ [u])
section
variable {K : PySem.W.Frag} {W : Addr → Prop} {H : Hp}
theorem getD_some : ∀ {kvs : List (Key × V)} {vs : List T} {k : Key} {u : T}, IsL K W H (kvs.map (·.2)) vs → getD (kvs.map fun p => keyT p.1) vs (keyT k) = some u → ∃ v, valV kvs k = some v ∧ Is K W H v u
  | [], _, _, _, .nil, e => by cases e
  | p :: kvs, _, k, u, .cons q l, e => by
    simp only [List.map_cons, getD, kq_key] at e
    by_cases h : p.1 = k
    · simp only [h, decide_true, if_true] at e
      cases e
      exact ⟨p.2, valV_pos h, q⟩
    · simp only [h, decide_false, Bool.false_eq_true, if_false] at e
      rw [valV_neg h]
      exact getD_some l e
theorem getD_none : ∀ {kvs : List (Key × V)} {vs : List T} {k : Key}, IsL K W H (kvs.map (·.2)) vs → getD (kvs.map fun p => keyT p.1) vs (keyT k) = none → valV kvs k = none
  | [], _, _, .nil, _ => rfl
  | p :: kvs, _, k, .cons q l, e => by
    simp only [List.map_cons, getD, kq_key] at e
    by_cases h : p.1 = k
    · simp only [h, decide_true, if_true] at e; cases e
    · simp only [h, decide_false, Bool.false_eq_true, if_false] at e
      rw [valV_neg h]
      exact getD_none l e
end
theorem hasD_eq (k : Key) : ∀ kvs : List (Key × V), hasD (kvs.map fun p => keyT p.1) (keyT k) = kvs.any fun kv => decide (kv.1 = k)
  | [] => rfl
  | p :: kvs => by
    have := hasD_eq k kvs
    unfold hasD at this ⊢
    simp only [List.map_cons, List.any_cons, kq_key, this]
section
variable {K : PySem.W.Frag} {W : Addr → Prop} {H : Hp}
theorem rep_is {k : Key} {v : V} {u : T} (hu : Is K W H v u) : ∀ {kvs : List (Key × V)} {vs : List T}, IsL K W H (kvs.map (·.2)) vs → IsL K W H ((kvs.map fun kv => if kv.1 = k then (kv.1, v) else kv).map (·.2)) (repD (kvs.map fun p => keyT p.1) vs (keyT k) u)
  | [], _, .nil => .nil
  | p :: kvs, _, .cons q l => by
    simp only [List.map_cons, repD, kq_key]
    refine .cons ?_ (rep_is hu l)
    by_cases h : p.1 = k
    · simp only [h, if_true, decide_true]; exact hu
    · simp only [h, if_false, decide_false, Bool.false_eq_true]; exact q
theorem put_is {k : Key} {v : V} {u : T} {kvs : List (Key × V)} {vs : List T} (l : IsL K W H (kvs.map (·.2)) vs) (hu : Is K W H v u) :
    ((putK kvs k v).map fun p => keyT p.1) = (putD (kvs.map fun p => keyT p.1) vs (keyT k) u).1 ∧ IsL K W H ((putK kvs k v).map (·.2)) (putD (kvs.map fun p => keyT p.1) vs (keyT k) u).2 := by
  unfold putK putD
  rw [hasD_eq]
  split
  · refine ⟨?_, rep_is hu l⟩
    rw [List.map_map]
    apply List.map_congr_left
    intro p _
    simp only [Function.comp]
    split <;> rfl
  · refine ⟨by simp, ?_⟩
    rw [List.map_append]
    exact l.append (.cons hu .nil)
end

theorem key_ok {K : PySem.W.Frag} {W : Addr → Prop} {H : Hp} {v : V} {t : T} {k : Key} (h : keyO t = some k) (i : Is K W H v t) : okKey k = true := by
  cases i with
  | int i => cases h; rfl
  | str cs ok => cases h; simpa [okKey] using ok
  | _ => cases h
theorem put_ok {k : Key} {v : V} {kvs : List (Key × V)} (h : ∀ p ∈ kvs, okKey p.1 = true) (hk : okKey k = true) : ∀ p ∈ putK kvs k v, okKey p.1 = true := by
  intro p hp
  unfold putK at hp
  split at hp
  · obtain ⟨q, hq, rfl⟩ := List.mem_map.mp hp
    split
    · exact h q hq
    · exact h q hq
  · rcases List.mem_append.mp hp with hp | hp
    · exact h p hp
    · rw [List.mem_singleton.mp hp]; exact hk

/-! ### d[k], k in d -/
def rIxDk : R2 := fun x y H Q => ∃ a kvs k v, x = .ref a ∧ Rd H a (.dK kvs) ∧ y = kV k ∧ valV kvs k = some v ∧ Q v H
theorem ix_dk {X : Cx} : IxR X rIxDk := by
  intro value slice pins s σ H x y v u Q I rx ry h hs
  obtain ⟨a, kvs, k, w, rfl, e, rfl, l, q⟩ := h
  cases rx
  obtain ⟨z, hd, vs, rel, dd⟩ := dk_rd I.hok e
  obtain ⟨w', hw, rw'⟩ := RelO.some_of (v := w) (o := valueAt vs k) (by rw [← l]; exact rel.val k)
  exact subscriptTail_builtinR (x := w') dd.typeIs PySem.F.slot_dict_getitem.lookup (wpAny_getItem_of (kV_is ry) dd.mapOf hw ⟨rfl, ⟨w, H, I.tok _, rw', q⟩⟩) hs
@[simp] def oIxA (a b : T) : R T := match a with
  | .dct false ks vs => match keyO b with
    | some _ => match getD ks vs b with
      | some v => .ok v
      | none => .no
    | none => .no
  | _ => oIx a b
def rIxA (K : PySem.W.Frag) : R2 := fun x y H Q => rIx K x y H Q ∨ rIxDk x y H Q
theorem ix_any {X : Cx} : IxR X (rIxA X.K) := ix_seq.or ix_dk
theorem tame_ixA : Tame oIxA := fun a b c t => by
  unfold oIxA
  split
  · split <;> (try split) <;> intro h <;> cases h
  · exact tame_ix a b c t
theorem IsB.keyV {K : PySem.W.Frag} {W : Addr → Prop} {H : Hp} {v : V} {t : T} {k : Key} (h : keyO t = some k) (i : IsB K W H v t) : v = kV k := by
  rcases i with i | ⟨a, rfl, o⟩
  · exact key_val h i
  · cases t with
    | lst _ => cases h
    | dct _ _ _ => cases h
    | _ => exact o.elim
theorem ok_ixA {K : PySem.W.Frag} : OpOK K (rIxA K) oIxA := by
  intro W H x y a b t Q hm ha hb e q
  unfold oIxA at e
  split at e
  · rename_i ks vs
    split at e
    · rename_i k hk
      split at e
      · rename_i u hu
        cases e
        obtain ⟨p, o, ws, rfl, h1, h2, h3⟩ := ha.dct
        cases h2 with
        | k kvs _ =>
          rw [← keyT_of hk] at hu
          obtain ⟨w, hw, iw⟩ := getD_some h3 hu
          exact .inr ⟨p, kvs, k, w, rfl, h1, hb.keyV hk, hw, q w H (Same.refl H) iw⟩
      · cases e
    · cases e
  · exact .inl (ok_ix W H x y a b t Q hm ha hb e q)
def rInDk (neg : Bool) : R2 := fun x y H Q => ∃ a kvs k, y = .ref a ∧ Rd H a (.dK kvs) ∧ x = kV k ∧ Q (.bl (xor neg (valV kvs k).isSome)) H
theorem op_inDk {X : Cx} : OpR X (compareOp .In) (rInDk false) := by
  intro pins s σ H x y v u Q I rx ry h
  obtain ⟨a, kvs, k, rfl, e, rfl, q⟩ := h
  cases ry
  obtain ⟨z, hd, vs, rel, dd⟩ := dk_rd I.hok e
  refine wpAny_in_of (kV_is rx) hd dd.mapOf ?_
  rw [← (rel.val k).isSome_eq]
  exact ⟨.bl (valV kvs k).isSome, H, I.tok _, rfl, by simpa using q⟩
theorem op_notInDk {X : Cx} : OpR X (compareOp .NotIn) (rInDk true) := by
  intro pins s σ H x y v u Q I rx ry h
  obtain ⟨a, kvs, k, rfl, e, rfl, q⟩ := h
  cases ry
  obtain ⟨z, hd, vs, rel, dd⟩ := dk_rd I.hok e
  refine wpAny_notIn_of (kV_is rx) hd dd.mapOf ?_
  rw [← (rel.val k).isSome_eq]
  exact ⟨.bl (!(valV kvs k).isSome), H, I.tok _, rfl, by simpa using q⟩
@[simp] def inTA (a b : T) : R Bool := match b with
  | .dct false ks vs => match keyO a with
    | some _ => .ok (getD ks vs a).isSome
    | none => .no
  | _ => inT a b
@[simp] def oInA (a b : T) : R T := (inTA a b).bind fun r => .ok (.bl r)
@[simp] def oNotInA (a b : T) : R T := (inTA a b).bind fun r => .ok (.bl (!r))
theorem inTA_tame (a b : T) (c : String) (t : T) : inTA a b ≠ .ex c t := by
  unfold inTA
  split
  · split <;> intro h <;> cases h
  · exact inT_tame a b c t
theorem tame_inA : Tame oInA := fun a b c t h => by
  unfold oInA at h
  cases e : inTA a b with
  | ok r => rw [e] at h; cases h
  | ex c t => exact inTA_tame _ _ _ _ e
  | no => rw [e] at h; cases h
theorem tame_notinA : Tame oNotInA := fun a b c t h => by
  unfold oNotInA at h
  cases e : inTA a b with
  | ok r => rw [e] at h; cases h
  | ex c t => exact inTA_tame _ _ _ _ e
  | no => rw [e] at h; cases h
theorem inA_core {K : PySem.W.Frag} {neg : Bool} {W : Addr → Prop} {H : Hp} {x y : V} {a b : T} {r : Bool} {Q : VK} (ha : IsB K W H x a) (hb : IsB K W H y b) (e : inTA a b = .ok r) (q : Q (.bl (xor neg r)) H) : rInA K neg x y H Q ∨ rInDk neg x y H Q := by
  unfold inTA at e
  split at e
  · rename_i ks vs
    split at e
    · rename_i k hk
      cases e
      obtain ⟨p, o, ws, rfl, h1, h2, h3⟩ := hb.dct
      cases h2 with
      | k kvs _ =>
        refine .inr ⟨p, kvs, k, rfl, h1, ha.keyV hk, ?_⟩
        have : (valV kvs k).isSome = (getD (kvs.map fun p => keyT p.1) vs a).isSome := by
          rw [← keyT_of hk]
          cases z : getD (kvs.map fun p => keyT p.1) vs (keyT k) with
          | none => rw [getD_none h3 z]; rfl
          | some u => obtain ⟨w, hw, _⟩ := getD_some h3 z; rw [hw]; rfl
        rw [this]
        exact q
    · cases e
  · exact .inl (in_core ha hb e q)
theorem ok_inA {K : PySem.W.Frag} : OpOK K (fun x y H Q => rInA K false x y H Q ∨ rInDk false x y H Q) oInA := by
  intro W H x y a b t Q hm ha hb e q
  unfold oInA at e
  cases z : inTA a b with
  | ok r => rw [z] at e; cases e; exact inA_core ha hb z (by simpa using q _ H (Same.refl H) (.bl r))
  | ex c t => exact (inTA_tame _ _ _ _ z).elim
  | no => rw [z] at e; cases e
theorem ok_notinA {K : PySem.W.Frag} : OpOK K (fun x y H Q => rInA K true x y H Q ∨ rInDk true x y H Q) oNotInA := by
  intro W H x y a b t Q hm ha hb e q
  unfold oNotInA at e
  cases z : inTA a b with
  | ok r => rw [z] at e; cases e; exact inA_core ha hb z (by simpa using q _ H (Same.refl H) (.bl (!r)))
  | ex c t => exact (inTA_tame _ _ _ _ z).elim
  | no => rw [z] at e; cases e

/-! ### d[k] = .., d a list or a dict of the frame's own -/
def rSetDk : V → V → V → Hp → (Hp → Prop) → Prop := fun o i v H Q => ∃ a kvs k, o = .ref a ∧ i = kV k ∧ H a = some (.dK kvs) ∧ kvs.length < sizeLine ∧ Q (upd H a (.dK (putK kvs k v)))
theorem set_dk {X : Cx} : PSet X rSetDk := by
  intro pins s σ H o i v ov iv u Q I ro ri rv h
  obtain ⟨a, kvs, k, rfl, rfl, e, l, q⟩ := h
  cases ro
  obtain ⟨z, hd, vs, rel, dd⟩ := dk_of I.hok e
  have hz : vs.length ≤ sizeLine := by rw [← rel.length]; exact z
  have hl : (putK kvs k v).length ≤ sizeLine := by have := length_putK kvs k v; omega
  refine wpAny_setItem_pairs (hsz := hz) (kV_is ri) dd fun h' dd' hs => ⟨_, ?_, q⟩
  have he : ∃ q, h'.get? a = some q := let ⟨q, _, _, hq, _⟩ := dd'; ⟨q, hq⟩
  exact d_write I (by rw [e]; exact True.intro) hs he (dk_new hl hd (rel.put k rv) dd')
theorem PSet.or {X : Cx} {r r' : V → V → V → Hp → (Hp → Prop) → Prop} (h : PSet X r) (h' : PSet X r') : PSet X (fun o i v H Q => r o i v H Q ∨ r' o i v H Q) := by
  intro pins s σ H o i v ov iv u Q I ro ri rv q
  rcases q with q | q
  · exact h pins s σ H o i v ov iv u Q I ro ri rv q
  · exact h' pins s σ H o i v ov iv u Q I ro ri rv q
@[simp] def gSbA (i : Nat) (mk : XM) : GM := fun t env => match env[i]? with
  | some (.own _ _) => (mk env).bind fun (k, e1) => match e1[i]? with
    | some (.own b (.lst ts)) => match k with
      | .int n => match ixN ts.length n with
        | some j => .ok (e1.set i (.own b (.lst (ts.set j t))))
        | none => .no
      | _ => .no
    | some (.own b (.dct false ks vs)) => match keyO k with
      | some _ => if Nat.ble ks.length 16777215 then .ok (e1.set i (.own b (.dct false (putD ks vs k t).1 (putD ks vs k t).2))) else .no
      | none => .no
    | _ => .no
  | _ => .no
section
variable {D : Dat} {mk : XM} {pos : Pos}
theorem mg_subA {x : Str} {p1 : Pos} {k : Expr} (i : Nat) (hN : D.N[i]? = some x) (hv : Vis D.sc x) (hk : ME D k mk)
    (ha : ∀ env v, assign (.Subscript (.Name x p1) k pos) env v = (do
      let ov ← holding [v] (eval (.Name x p1) env)
      let iv ← holding [v, ov] (eval k env)
      standAt pos
      holding [v, ov, iv] (setItem ov iv v)
      release [v, ov, iv] []) := by exact fun _ _ => rfl)
    (hd : (x == ("__debug__" : Str)) = false := by decide) (hcd : (x == ("__classdict__" : Str)) = false := by decide) : MG D (.Subscript (.Name x p1) k pos) [] (gSbA i mk) := by
  obtain ⟨t, p, kk⟩ := hk
  refine ⟨gSub (tVar i) t (fun o i v H Q => rSetL o i v H Q ∨ rSetDk o i v H Q), fun v gd => pg_sub (pe_var (X := D.cx v) hN hv hd hcd) (p v gd) (PSet.or set_list set_dk) (ha _), fun G W M σ H env re v t0 iv Q q => ?_⟩
  unfold gSbA at q
  split at q
  · rename_i b0 t1 e0
    obtain ⟨a0, h0, _⟩ := re.own i b0 t1 e0
    refine ⟨.ref a0, h0, ?_⟩
    refine kk G W M σ H env re _ ?_
    cases z : mk env with
    | ex c t => rw [z] at q; exact q.elim
    | no => rw [z] at q; exact q.elim
    | ok w =>
      obtain ⟨kt, e1⟩ := w
      rw [z] at q
      intro kv H1 ev1 re1 i1
      dsimp only [R.bind] at q
      split at q
      · rename_i b ts e2
        split at q
        · rename_i k'
          split at q
          · rename_i j hj
            cases i1
            obtain ⟨a1, h1, hm, ⟨xs, hx, l⟩, _⟩ := re1.own i b _ e2
            rw [h0] at h1; cases h1
            refine .inl ⟨a0, xs, k', j, rfl, rfl, hx, by rw [l.length]; exact hj, ?_⟩
            refine q σ _ (ev1.trans (ev_upd hm)) (re1.write e2 h0 (fun c o e n => by rw [upd_ne n]; exact e) (fun c h => (ev_upd (M := M) hm).trk c h) (by rw [upd_same]; trivial) ⟨_, upd_same, ?_⟩) ⟨rfl, fun _ _ => rfl⟩
            have f : Fut W H1 W (upd H1 a0 (.lst (xs.set j v))) := (ev_upd (M := M) hm).fut re.sub
            exact (l.fut f re1.muts).set j ((iv.ev ev1 re).fut f re1.muts)
          · exact q.elim
        · exact q.elim
      · rename_i b ks vs e2
        split at q
        · rename_i k' hk'
          split at q
          · rename_i hl
            obtain ⟨a1, h1, hm, ⟨o, ws, hx, d, l⟩, _⟩ := re1.own i b _ e2
            rw [h0] at h1; cases h1
            cases d with
            | k kvs hok =>
              have hlen : kvs.length < sizeLine := by rw [List.length_map] at hl; rw [sizeLine_eq]; exact Nat.lt_succ_of_le (Nat.le_of_ble_eq_true hl)
              refine .inr ⟨a0, kvs, k', rfl, key_val hk' i1, hx, hlen, ?_⟩
              have f : Fut W H1 W (upd H1 a0 (.dK (putK kvs k' v))) := (ev_upd (M := M) hm).fut re.sub
              obtain ⟨c1, c2⟩ := put_is (k := k') (l.fut f re1.muts) ((iv.ev ev1 re).fut f re1.muts)
              rw [keyT_of hk'] at c1 c2
              refine q σ _ (ev1.trans (ev_upd hm)) (re1.write e2 h0 (fun c o e n => by rw [upd_ne n]; exact e) (fun c h => (ev_upd (M := M) hm).trk c h) (by rw [upd_same]; trivial) ⟨_, _, upd_same, ?_, c2⟩) ⟨rfl, fun _ _ => rfl⟩
              rw [← c1]
              exact .k _ (put_ok hok (key_ok hk' i1))
          · exact q.elim
        · exact q.elim
      · exact q.elim
  · exact q.elim
/-- {} -/
def xD0 : XM := fun env => .ok (.dct false [] [], env)
theorem mn_dict0 : MN D (.Dict [] [] pos) xD0 := by
  refine ⟨tDNewK, fun v g => .up pe_dnewK, fun G W M σ H env re Q q p hp => ?_⟩
  have s := same_upd (o := .dK []) hp
  exact q p _ (.same s) hp (fun W' h1 h2 => re.new hp trivial h1 h2) (fun W' hW => ⟨_, _, upd_same, .k [] (fun _ h => nomatch h), .nil⟩) (.inr ⟨_, _, _, rfl⟩)
end
end M3
/-! M3, part n: walks over dicts: the dict is locked while it is walked. -/
namespace M3
open PySem PySem.Spec PyProof.Rows L2

/-- the dict at d is locked or unlocked, all else stays -/
structure Chg (d : Addr) (H H' : Hp) : Prop where
  ne : ∀ a, a ≠ d → H' a = H a
  dz : ∀ o b ks ws, H d = some o → DZ o b ks ws → ∃ o', H' d = some o' ∧ DZ o' b ks ws
  isd : ∃ o b ks ws, H d = some o ∧ DZ o b ks ws
theorem DZ.noTup {o : HO} {b : Bool} {ks : List T} {ws : List V} (d : DZ o b ks ws) : (∀ xs, o ≠ .tup xs) ∧ (∀ ob xs, o ≠ .frz ob (.tup xs)) ∧ (∀ xs, o ≠ .lst xs) ∧ ∀ ob xs, o ≠ .frz ob (.lst xs) := by
  cases d with
  | of d => cases d <;> exact ⟨fun _ z => (nomatch z), fun _ _ z => (nomatch z), fun _ z => (nomatch z), fun _ _ z => (nomatch z)⟩
  | z d => cases d <;> exact ⟨fun _ z => (nomatch z), fun _ _ z => by (injection z with _ z; cases z), fun _ z => (nomatch z), fun _ _ z => by (injection z with _ z; cases z)⟩
theorem DO.mut' {o : HO} {b : Bool} {ks : List T} {ws : List V} (d : DO o b ks ws) : Mut (some o) := d.mut
theorem chg_lock {d : Addr} {H : Hp} {u : HO} {od : Obj} {b : Bool} {ks : List T} {ws : List V} (h : H d = some u) (du : DO u b ks ws) : Chg d H (upd H d (.frz od u)) where
  ne := fun a n => upd_ne n
  dz := fun o b' ks' ws' e z => by
    rw [h] at e; cases e
    refine ⟨_, upd_same, ?_⟩
    cases z with
    | of z => exact .z z
    | z z => cases du
  isd := ⟨u, b, ks, ws, h, .of du⟩
theorem chg_unlock {d : Addr} {H : Hp} {u : HO} {od : Obj} {b : Bool} {ks : List T} {ws : List V} (h : H d = some (.frz od u)) (du : DO u b ks ws) : Chg d H (upd H d u) where
  ne := fun a n => upd_ne n
  dz := fun o b' ks' ws' e z => by
    rw [h] at e; cases e
    refine ⟨_, upd_same, ?_⟩
    cases z with
    | of z => cases z
    | z z => exact .of z
  isd := ⟨_, b, ks, ws, h, .z du⟩
section
variable {K : PySem.W.Frag} {W : Addr → Prop} {H H' : Hp} {d : Addr}
theorem Chg.neT (c : Chg d H H') {a : Addr} {xs : List V} (h : Rd H a (.tup xs)) : a ≠ d := fun e => by
  subst e
  obtain ⟨o, b, ks, ws, ho, z⟩ := c.isd
  obtain ⟨n1, n2, _, _⟩ := z.noTup
  rcases h with h | ⟨ob, h⟩
  · rw [ho] at h; cases h; exact n1 _ rfl
  · rw [ho] at h; cases h; exact n2 _ _ rfl
theorem Chg.neL (c : Chg d H H') {a : Addr} {xs : List V} (h : Rd H a (.lst xs)) : a ≠ d := fun e => by
  subst e
  obtain ⟨o, b, ks, ws, ho, z⟩ := c.isd
  obtain ⟨_, _, n1, n2⟩ := z.noTup
  rcases h with h | ⟨ob, h⟩
  · rw [ho] at h; cases h; exact n1 _ rfl
  · rw [ho] at h; cases h; exact n2 _ _ rfl
theorem Chg.rd (c : Chg d H H') {a : Addr} {o : HO} (n : a ≠ d) (h : Rd H a o) : Rd H' a o := by
  rcases h with h | ⟨ob, h⟩
  · exact .inl (by rw [c.ne a n]; exact h)
  · exact .inr ⟨ob, by rw [c.ne a n]; exact h⟩
theorem Chg.sqT (c : Chg d H H') {a : Addr} {xs : List V} (h : SqT K H a xs) : SqT K H' a xs := by
  rcases h with h | h
  · exact .inl (c.rd (c.neT h) h)
  · exact .inr h
theorem Chg.fz (c : Chg d H H') {a : Addr} {xs : List V} (h : Fz K W H a xs) : Fz K W H' a xs := by
  rcases h with ⟨n, h⟩ | h
  · exact .inl ⟨n, c.rd (c.neL h) h⟩
  · exact .inr h
theorem Chg.dct (c : Chg d H H') {a : Addr} {o : HO} {b : Bool} {ks : List T} {ws : List V} {vs : List T} (n : ¬ W a) (q : H a = some o) (z : DZ o b ks ws) (l : IsL K W H' ws vs) : Is K W H' (.ref a) (.dct b ks vs) := by
  by_cases e : a = d
  · subst e
    obtain ⟨o', h1, h2⟩ := c.dz _ _ _ _ q z
    exact .dct n h1 h2 l
  · exact .dct n (by rw [c.ne a e]; exact q) z l
theorem Chg.lst (c : Chg d H H') {a : Addr} {xs : List V} (q : H a = some (.lst xs)) : H' a = some (.lst xs) := by
  rw [c.ne _ (c.neL (.inl q))]; exact q
mutual
theorem Is.chg (c : Chg d H H') : ∀ {v : V} {t : T}, Is K W H v t → Is K W H' v t
  | _, _, .non => .non
  | _, _, .bl b => .bl b
  | _, _, .int i => .int i
  | _, _, .str cs h => .str cs h
  | _, _, .tup q l => .tup (c.sqT q) (IsL.chg c l)
  | _, _, .lst n q l => .lst n (c.lst q) (IsL.chg c l)
  | _, _, .frz q l => .frz (c.fz q) (IsL.chg c l)
  | _, _, .dct n q z l => c.dct n q z (IsL.chg c l)
theorem IsL.chg (c : Chg d H H') : ∀ {vs : List V} {ts : List T}, IsL K W H vs ts → IsL K W H' vs ts
  | _, _, .nil => .nil
  | _, _, .cons q l => .cons (Is.chg c q) (IsL.chg c l)
end
theorem IsO.chg (c : Chg d H H') {a : Addr} {t : T} (n : a ≠ d) (o : IsO K W H a t) : IsO K W H' a t := by
  cases t with
  | lst ts => obtain ⟨xs, e, l⟩ := o; exact ⟨xs, by rw [c.ne a n]; exact e, l.chg c⟩
  | dct b ks vs => obtain ⟨o, ws, e, z, l⟩ := o; exact ⟨o, ws, by rw [c.ne a n]; exact e, z, l.chg c⟩
  | _ => exact o.elim
theorem Chg.trk (c : Chg d H H') (a : Addr) (h : H a ≠ none) : H' a ≠ none := by
  by_cases e : a = d
  · subst e
    obtain ⟨o, b, ks, ws, ho, z⟩ := c.isd
    obtain ⟨o', h1, _⟩ := c.dz _ _ _ _ ho z
    rw [h1]; exact fun y => nomatch y
  · rw [c.ne a e]; exact h
theorem RE.chg (c : Chg d H H') {G : Gh} {M : Addr → Prop} {σ : L2.St} {env : EnvM} (nW : ¬ W d) (r : RE K G W M σ H env) : RE K G W M σ H' env where
  len := r.len
  val := fun i t e => by obtain ⟨v, q1, q2⟩ := r.val i t e; exact ⟨v, q1, q2.chg c⟩
  own := fun i b t e => by
    obtain ⟨a, q1, q2, q3, q4⟩ := r.own i b t e
    exact ⟨a, q1, q2, q3.chg c (fun z => nW (by rw [← z]; exact r.sub a q2)), q4⟩
  inj := r.inj
  sub := r.sub
  muts := fun a w => by rw [c.ne a (fun z => nW (by rw [← z]; exact w))]; exact r.muts a w
  old := r.old
  ent := r.ent
  trk := fun a h => c.trk a (r.trk a h)
/-- the keys, walked -/
theorem walk_keys {kvs : List (Key × V)} {od : Obj} (h : H d = some (.frz od (.dK kvs))) (nW : ¬ W d) (ok : ∀ p ∈ kvs, okKey p.1 = true) : Walk K (Itk d od kvs) W H (kvs.map fun p => keyT p.1) := by
  intro W' H' f _
  have h' := f.keep d _ h nW
  refine ⟨fun i hi => ⟨⟨h', by rw [List.length_map] at hi; exact hi⟩, fun x H2 y => ?_⟩, h', by rw [List.length_map] <;> exact Nat.le_refl _⟩
  obtain ⟨rfl, k, v, e, rfl⟩ := y
  refine ⟨Same.refl _, keyT k, by rw [List.getElem?_map, e]; rfl, ?_⟩
  have hk := ok _ (List.mem_of_getElem? e)
  cases k with
  | inl i => exact .int i
  | inr x => exact .str _ hk
end

/-! ### the judgements, locked -/
section
variable {X : Cx} {e : Expr} {t : TE} {st : Stmt} {ts : TS}
theorem pe_lockD (h : PE X e t) : PE X e (fun σ H Q => t σ H Q ∨ tLockE t σ H Q) := by
  refine ⟨fun pins s σ H Q n I hw => ?_⟩
  rcases hw with hw | ⟨d, u, hd, mu, hw⟩
  · exact h.run pins s σ H Q n I hw
  · obtain ⟨od, I1⟩ := I.lock hd mu
    exact thn (h.run pins s σ _ _ n I1 (hw od)) fun v s1 ⟨x, H1, I2, r, e2, q⟩ => ⟨x, _, I2.unlock e2 (I.nofrz hd mu), r, q⟩
theorem ps_lockD (h : PS X st ts) : PS X st (fun D σ H => ts D σ H ∨ tLock ts D σ H) := by
  refine ⟨fun pins s σ H D n I hw => ?_⟩
  rcases hw with hw | ⟨d, u, hd, mu, hw⟩
  · exact h.run pins s σ H D n I hw
  · obtain ⟨od, I1⟩ := I.lock hd mu
    refine thn (h.run pins s σ _ _ n I1 (hw od)) fun f s1 q => ?_
    cases f with
    | next => obtain ⟨σ', H', I2, e, q⟩ := q; exact ⟨σ', _, I2.unlock e (I.nofrz hd mu), q⟩
    | brk => obtain ⟨σ', H', I2, e, q⟩ := q; exact ⟨σ', _, I2.unlock e (I.nofrz hd mu), q⟩
    | cont => obtain ⟨σ', H', I2, e, q⟩ := q; exact ⟨σ', _, I2.unlock e (I.nofrz hd mu), q⟩
    | ret v => obtain ⟨x, σ', H', I2, r, e, q⟩ := q; exact ⟨x, σ', _, I2.unlock e (I.nofrz hd mu), r, q⟩
end
def keysAt (env : EnvM) (i : Nat) : Option (List T) := match env[i]? with
  | some (.val (.dct false ks _)) => some ks
  | _ => none
theorem keysAt_some {K : PySem.W.Frag} {G : Gh} {W M : Addr → Prop} {σ : L2.St} {H : Hp} {env : EnvM} {i : Nat} {ks : List T} (re : RE K G W M σ H env) (h : keysAt env i = some ks) :
    ∃ d kvs, σ[i]? = some (some (V.ref d)) ∧ ¬ W d ∧ ks = (kvs.map fun p : Key × V => keyT p.1) ∧ (∀ p ∈ kvs, okKey p.1 = true) ∧ ((∃ od, H d = some (.frz od (.dK kvs))) ∨ H d = some (.dK kvs)) := by
  unfold keysAt at h
  split at h
  · rename_i ks' vs e
    cases h
    obtain ⟨v, h1, h2⟩ := re.val i _ e
    cases h2 with
    | dct n q z l =>
      cases z with
      | of z => cases z with
        | k kvs ok => exact ⟨_, kvs, h1, n, rfl, ok, .inr q⟩
      | z z => cases z with
        | k kvs ok => exact ⟨_, kvs, h1, n, rfl, ok, .inl ⟨_, q⟩⟩
  · cases h
section
variable {D : Dat} {elt tg : Expr} {ifs : List Expr} {scope : Scope} {own : List (Str × Nat)} {js : List Nat} {g : GM} {tm : TM} {m : XM} {pos px : Pos} {x : Str}
def xLcD (i : Nat) (vs : List Nat) (g : GM) (tm : TM) (bm : BM) : XM := fun env => match keysAt env i with
  | some ks => match lcM vs g tm bm ks (wipeM vs env) with
    | .ok (us, e2) => if Nat.ble us.length 16777216 then .ok (.lst us, restM vs env e2) else .no
    | _ => .no
  | none => .no
theorem pstN_unlock {G : Gh} {W M : Addr → Prop} {σ : L2.St} {H : Hp} {Q : VK} {d : Addr} {kvs : List (Key × V)} {od : Obj} (hd : H d = some (.dK kvs)) (ok : ∀ p ∈ kvs, okKey p.1 = true) (nW : ¬ W d) (nM : ¬ M d) {us : List T} {e : EnvM} (q : PstN D G W M σ H Q (.ok (.lst us, e))) :
    PstN D G W M σ (upd H d (.frz od (.dK kvs))) (fun v H' => H' d = some (.frz od (.dK kvs)) ∧ Q v (upd H' d (.dK kvs))) (.ok (.lst us, e)) := by
  intro p H' ev hp rr oo sh
  have hz : H' d = some (.frz od (.dK kvs)) := ev.keep d _ upd_same nM
  have c := chg_unlock hz (DO.k kvs ok)
  have npd : p ≠ d := fun z => by subst z; rw [upd_same] at hp; cases hp
  rw [upd_ne npd] at hp
  refine ⟨hz, q p _ ⟨fun a o h n => ?_, fun a h => c.trk a (ev.trk a ((chg_lock (od := od) hd (DO.k kvs ok)).trk a h))⟩ hp (fun W' h1 h2 => ?_) (fun W' h => ?_) sh⟩
  · by_cases e : a = d
    · subst e; rw [upd_same, ← hd]; exact h
    · rw [upd_ne e]; exact ev.keep a o (by rw [upd_ne e]; exact h) n
  · exact (rr W' h1 h2).chg c fun w => (h2 d w).elim nW fun z => npd z.symm
  · exact (oo W' h).chg c npd
theorem mn_lcD (i : Nat) (hN : D.N.Nodup) (ok : BlkOk D.N D.sc scope own) (hi : D.N[i]? = some x) (hv : Vis D.sc x) (hg : MG (D.blk scope) tg js g) (hjs : ∀ j ∈ js, j ∈ own.map (·.2)) (ht : MC (D.blk scope) ifs tm) (he : ME (D.blk scope) elt m)
    (hs : ∀ env y, foldedSetIterable (.Name x px) env y = pure y := by exact fun _ _ => rfl) (hd : (x == ("__debug__" : Str)) = false := by decide) (hcd : (x == ("__classdict__" : Str)) = false := by decide) :
    MN D (.ListComp elt [⟨tg, .Name x px, ifs, 0⟩] scope pos) (xLcD i (own.map (·.2)) g tm (eltM m)) := by
  obtain ⟨t1, p1, k1⟩ := hg
  obtain ⟨t2, p2, k2⟩ := ht
  obtain ⟨t3, p3, k3⟩ := he
  refine ⟨fun σ H Q => tLc (iKeys (tVar i)) t1 t2 t3 (own.map fun x : Str × Nat => x.2) σ H Q ∨ tLockE (tLc (iKeys (tVar i)) t1 t2 t3 (own.map fun x : Str × Nat => x.2)) σ H Q,
    fun v gd => pe_lockD (pe_lc (X := D.cx v) rfl hN ⟨fun pins s σ H R _ I h => (L2.pi_keys (L2.pe_var (X := D.cx v) hi hv hd hcd)).run pins s σ H R I h⟩ ok (fun _ _ _ _ _ n => p1 _ (blk_good gd n)) (fun _ _ _ _ _ n => p2 _ (blk_good gd n)) (fun _ _ _ _ _ n => p3 _ (blk_good gd n)) (hs _)), fun G W M σ H env re Q q => ?_⟩
  unfold xLcD at q
  cases z : keysAt env i with
  | none => rw [z] at q; exact q.elim
  | some ks =>
    rw [z] at q
    obtain ⟨d, kvs, hσ, nW, rfl, okk, hd⟩ := keysAt_some re z
    have nM : ¬ M d := fun m => nW (re.sub d m)
    rcases hd with ⟨od, hd⟩ | hd
    · exact .inl ⟨_, hσ, d, od, rfl, .inl ⟨kvs, hd, lc_rest (D := D) (Db := D.blk scope) rfl k1 hjs k2 (bok_elt k3) re Ev.refl re (walk_keys hd nW okk) q⟩⟩
    · refine .inr ⟨d, .dK kvs, hd, trivial, fun od => ⟨_, hσ, d, od, rfl, .inl ⟨kvs, upd_same, ?_⟩⟩⟩
      have c := chg_lock (od := od) hd (DO.k kvs okk)
      refine lc_rest (D := D) (Db := D.blk scope) (H := upd H d (.frz od (.dK kvs))) (Q := fun v H' => H' d = some (.frz od (.dK kvs)) ∧ Q v (upd H' d (.dK kvs))) rfl k1 hjs k2 (bok_elt k3) (re.chg c nW) Ev.refl (re.chg c nW) (walk_keys upd_same nW okk) ?_
      dsimp only at q
      cases z2 : lcM (own.map fun x : Str × Nat => x.2) g tm (eltM m) (kvs.map fun p => keyT p.1) (wipeM (own.map fun x : Str × Nat => x.2) env) with
      | ex c t => rw [z2] at q; exact q.elim
      | no => rw [z2] at q; exact q.elim
      | ok w =>
        obtain ⟨us, e2⟩ := w
        rw [z2] at q
        dsimp only at q ⊢
        split at q
        · rename_i hl
          rw [if_pos hl]
          exact pstN_unlock hd okk nW nM q
        · exact q.elim
/-- for over a dict's keys -/
def sForD (i : Nat) (g : GM) (body : SM) : SM := fun env => match keysAt env i with
  | some ks => match forM' g body ks env with
    | .ok w => .ok w
    | _ => .no
  | none => .no
theorem pstS_unlock {D : Dat} {G : Gh} {W M : Addr → Prop} {H : Hp} {Dn : Ends} {d : Addr} {kvs : List (Key × V)} {od : Obj} (hd : H d = some (.dK kvs)) (ok : ∀ p ∈ kvs, okKey p.1 = true) (nW : ¬ W d) (nM : ¬ M d) {f : Fl} {e : EnvM} (q : PstS D G W M H Dn (.ok (f, e))) :
    PstS D G W M (upd H d (.frz od (.dK kvs))) ⟨fun σ' H' => H' d = some (.frz od (.dK kvs)) ∧ Dn.nx σ' (upd H' d (.dK kvs)), fun v H' => H' d = some (.frz od (.dK kvs)) ∧ Dn.rt v (upd H' d (.dK kvs)), fun σ' H' => H' d = some (.frz od (.dK kvs)) ∧ Dn.bk σ' (upd H' d (.dK kvs)), fun σ' H' => H' d = some (.frz od (.dK kvs)) ∧ Dn.ct σ' (upd H' d (.dK kvs))⟩ (.ok (f, e)) := by
  intro W' M' σ' H' es re
  have hz : H' d = some (.frz od (.dK kvs)) := es.keep d _ upd_same nM
  have c := chg_unlock hz (DO.k kvs ok)
  have cl := chg_lock (od := od) hd (DO.k kvs ok)
  have nW' : ¬ W' d := fun w => nW (es.hW d w (by rw [upd_same]; exact fun y => nomatch y))
  have z := q W' M' σ' (upd H' d (.dK kvs)) ⟨fun a o h n => by
      by_cases e : a = d
      · subst e; rw [upd_same, ← hd]; exact h
      · rw [upd_ne e]; exact es.keep a o (by rw [upd_ne e]; exact h) n, fun a h => c.trk a (es.trk a (cl.trk a h)), fun a w h => es.hW a w (cl.trk a h), fun a w h => es.hM a w (cl.trk a h)⟩ (re.chg c nW')
  cases f with
  | nx => exact ⟨hz, z⟩
  | bk => exact ⟨hz, z⟩
  | ct => exact ⟨hz, z⟩
  | rt t => exact fun v iv => ⟨hz, z v (iv.chg c)⟩
  | rn t => exact fun p hp io => ⟨hz, z p hp (io.chg c fun e => by have mu := io.mut; rw [e, hz] at mu; exact mu)⟩
theorem ms_forD {sts : List Stmt} {ms : SM} (i : Nat) (hi : D.N[i]? = some x) (hv : Vis D.sc x) (hg : MG D tg js g) (hb : MSs D sts ms)
    (hs : ∀ env y, foldedSetIterable (.Name x px) env y = pure y := by exact fun _ _ => rfl) (hd : (x == ("__debug__" : Str)) = false := by decide) (hcd : (x == ("__classdict__" : Str)) = false := by decide) : MS D (.For tg (.Name x px) sts [] pos) (sForD i g ms) := by
  obtain ⟨t1, p1, k1⟩ := hg
  obtain ⟨t2, p2, k2⟩ := hb
  refine ⟨fun Dn σ H => tFor (iKeys (tVar i)) t1 t2 Dn σ H ∨ tLock (tFor (iKeys (tVar i)) t1 t2) Dn σ H,
    fun v gd => ps_lockD (ps_for gd.own rfl ⟨fun pins s σ H R _ I h => (L2.pi_keys (L2.pe_var (X := D.cx v) hi hv hd hcd)).run pins s σ H R I h⟩ (p1 v gd) (p2 v gd) (hs _)), fun G W M σ H env re Dn q => ?_⟩
  unfold sForD at q
  cases z : keysAt env i with
  | none => rw [z] at q; exact q.elim
  | some ks =>
    rw [z] at q
    obtain ⟨d, kvs, hσ, nW, rfl, okk, hd⟩ := keysAt_some re z
    have nM : ¬ M d := fun m => nW (re.sub d m)
    dsimp only at q
    cases z2 : forM' g ms (kvs.map fun p => keyT p.1) env with
    | ex c t => rw [z2] at q; exact q.elim
    | no => rw [z2] at q; exact q.elim
    | ok w =>
      obtain ⟨f, e2⟩ := w
      rw [z2] at q
      dsimp only at q
      rcases hd with ⟨od, hd⟩ | hd
      · exact .inl ⟨_, hσ, d, od, rfl, .inl ⟨kvs, hd, for_rest (D := D) k1 k2 Ev.refl re (walk_keys hd nW okk) (by rw [z2]; exact q)⟩⟩
      · refine .inr ⟨d, .dK kvs, hd, trivial, fun od => ⟨_, hσ, d, od, rfl, .inl ⟨kvs, upd_same, ?_⟩⟩⟩
        have c := chg_lock (od := od) hd (DO.k kvs okk)
        exact for_rest (D := D) k1 k2 Ev.refl (re.chg c nW) (walk_keys upd_same nW okk) (by rw [z2]; exact pstS_unlock hd okk nW nM q)
end
end M3
/-! M3, part o: starred items of displays. -/
namespace M3
open PySem PySem.Spec PyProof.Rows L2 StX

theorem star_tk {M : Model} {A : Around} {E : Value → Shared → Prop} {s : Shared} {v : Value} {Q Q' : List Value → Shared → Prop} {k : Nat} (h : PySem.W.StarOf M A E v Q s) (n : k ≤ s.toks) (f : ∀ us s', k ≤ s'.toks → Q us s' → Q' us s') : PySem.W.StarOf M A E v Q' s := by
  unfold PySem.W.StarOf at h ⊢
  exact tkm h n fun b s2 n2 ⟨hb, h2⟩ => ⟨hb, tkm h2 n2 f⟩
theorem pa_star {X : Cx} {e : Expr} {es : List Expr} {te : TE} {t : TA} {p : Pos} (he : PE X e te) (hr : PA X es t) (hs : starEach (.Starred e p :: es) X.env = (true, eval e X.env) :: starEach es X.env := by rfl) : PA X (.Starred e p :: es) (tStar X.K te t) := by
  refine ⟨fun pos pins s σ H Q n I h => PySem.W.items_star (he.go n I h fun v s1 y H1 n1 I1 ry ⟨a, xs, ey, hx, q⟩ => ?_) hs⟩
  subst ey
  obtain rfl : v = Value.ref a := ry
  refine star_tk (star_any (Q := fun us s' => Inv X pins σ H1 s' ∧ Vals xs us) I1 hx fun us s2 I2 rv => ⟨I2, rv⟩) n1 fun us s2 n2 ⟨I2, rv⟩ => ?_
  exact hr.go n2 I2 q fun ws s3 vs H3 _ I3 r3 q3 => ⟨xs ++ vs, H3, I3, rv.append r3, q3⟩
@[simp] def aStar (m : XM) (r : AM) : AM := fun env => (m env).bind fun (t, e1) => match seqT t with
  | some us => (r e1).bind fun (ts, e2) => .ok (us ++ ts, e2)
  | none => .no
section
variable {D : Dat} {e : Expr} {es : List Expr} {m : XM} {r : AM} {p : Pos}
theorem ma_star (h1 : MB D e m) (h2 : MA D es r) (hs : ∀ v : Vr, starEach (.Starred e p :: es) (D.cx v).env = (true, eval e (D.cx v).env) :: starEach es (D.cx v).env := by intro _; rfl) : MA D (.Starred e p :: es) (aStar m r) := by
  obtain ⟨t1, p1, k1⟩ := h1
  obtain ⟨t2, p2, k2⟩ := h2
  refine ⟨tStar D.K t1 t2, fun v g => pa_star (p1 v g) (p2 v g) (hs v), fun G W M σ H env re Q q => ?_⟩
  refine pstB_bind (P := PstA D G W M σ H Q) k1 re (fun c t h => h) (fun h => h) q fun t env1 v H1 ev1 re1 i1 q1 => ?_
  dsimp only at q1
  cases z : seqT t with
  | none => rw [z] at q1; exact (q1 : False).elim
  | some us =>
    rw [z] at q1
    obtain ⟨a, xs, rfl, hx, l⟩ := i1.seq z
    refine ⟨a, xs, rfl, hx.symm, ?_⟩
    refine pstA_bind (P := PstA D G W M σ H Q) k2 re1 (fun c t h => ExW.ev ev1 h) (fun h => h) q1 fun ts env2 vs H2 ev2 re2 l2 q2 => ?_
    exact q2 (xs ++ vs) H2 (ev1.trans ev2) re2 ((l.fut (ev2.fut re1.sub) re1.muts).append l2)
end
/-! ### d == {}, d != {} -/
def rEqDk (neg : Bool) : R2 := fun x y H Q => ∃ a b kvs, x = .ref a ∧ y = .ref b ∧ Rd H a (.dK kvs) ∧ Rd H b (.dK []) ∧ Q (.bl (xor neg kvs.isEmpty)) H
theorem op_eqDk {X : Cx} (hu : X.A.units < cLine) : OpR X (compareOp .Eq) (rEqDk false) := by
  intro pins s σ H x y v u Q I rx ry h
  obtain ⟨a, b, kvs, rfl, rfl, ea, eb, q⟩ := h
  cases rx; cases ry
  obtain ⟨_, ya, va, ra, da⟩ := dk_rd I.hok ea
  obtain ⟨_, yb, vb, rb, db⟩ := dk_rd I.hok eb
  cases rb
  refine PySem.W.keq_eq (knd := mixKind X.prog X.w) (r := true) ya yb da db hu (fun hl => ?_) ⟨.bl _, H, I, ?_, q⟩
  · cases va with
    | nil => exact .nil
    | cons _ _ => simp at hl
  · cases ra <;> rfl
theorem op_neDk {X : Cx} (hu : X.A.units < cLine) : OpR X (compareOp .NotEq) (rEqDk true) := by
  intro pins s σ H x y v u Q I rx ry h
  obtain ⟨a, b, kvs, rfl, rfl, ea, eb, q⟩ := h
  cases rx; cases ry
  obtain ⟨_, ya, va, ra, da⟩ := dk_rd I.hok ea
  obtain ⟨_, yb, vb, rb, db⟩ := dk_rd I.hok eb
  cases rb
  refine PySem.W.keq_ne (knd := mixKind X.prog X.w) (r := true) ya yb da db hu (fun hl => ?_) ⟨.bl _, H, I, ?_, q⟩
  · cases va with
    | nil => exact .nil
    | cons _ _ => simp at hl
  · cases ra <;> rfl
@[simp] def oEqA (a b : T) : R T := match a, b with
  | .dct false ks _, .dct false [] [] => .ok (.bl ks.isEmpty)
  | a, b => oEq a b
@[simp] def oNeA (a b : T) : R T := match a, b with
  | .dct false ks _, .dct false [] [] => .ok (.bl (!ks.isEmpty))
  | a, b => oNe a b
theorem tame_eqA : Tame oEqA := fun a b c t => by
  unfold oEqA
  split
  · intro h; cases h
  · exact tame_eq a b c t
theorem tame_neA : Tame oNeA := fun a b c t => by
  unfold oNeA
  split
  · intro h; cases h
  · exact tame_ne a b c t
section
variable {K : PySem.W.Frag} {W : Addr → Prop} {H : Hp}
theorem dk_two {x y : V} {ks us : List T} (ha : IsB K W H x (.dct false ks us)) (hb : IsB K W H y (.dct false [] [])) : ∃ a b kvs, x = .ref a ∧ y = .ref b ∧ Rd H a (.dK kvs) ∧ Rd H b (.dK []) ∧ kvs.isEmpty = ks.isEmpty := by
  obtain ⟨a, o, ws, rfl, h1, h2, h3⟩ := ha.dct
  obtain ⟨b, o', ws', rfl, h1', h2', h3'⟩ := hb.dct
  cases h2 with
  | k kvs _ =>
    have e : ∃ kvs', o' = .dK kvs' ∧ kvs'.length = 0 := by
      have hl := h2'.len
      have hl2 := h3'.length
      generalize hk : ([] : List T) = kk at h2' hl
      cases h2' with
      | k kvs' _ => exact ⟨kvs', rfl, by rw [List.length_map] at hl2; simpa using hl2⟩
    obtain ⟨kvs', rfl, hl⟩ := e
    rw [List.length_eq_zero_iff] at hl
    subst hl
    exact ⟨a, b, kvs, rfl, rfl, h1, h1', by simp⟩
theorem ok_eqA {r : R2} (h : OpOK K r oEq) : OpOK K (fun x y H Q => r x y H Q ∨ rEqDk false x y H Q) oEqA := by
  intro W H x y a b t Q hm ha hb e q
  unfold oEqA at e
  split at e
  · cases e
    obtain ⟨p, p', kvs, rfl, rfl, h1, h2, h3⟩ := dk_two ha hb
    exact .inr ⟨p, p', kvs, rfl, rfl, h1, h2, by rw [h3]; simpa using q _ H (Same.refl H) (.bl _)⟩
  · exact .inl (h W H x y a b t Q hm ha hb e q)
theorem ok_neA {r : R2} (h : OpOK K r oNe) : OpOK K (fun x y H Q => r x y H Q ∨ rEqDk true x y H Q) oNeA := by
  intro W H x y a b t Q hm ha hb e q
  unfold oNeA at e
  split at e
  · cases e
    obtain ⟨p, p', kvs, rfl, rfl, h1, h2, h3⟩ := dk_two ha hb
    exact .inr ⟨p, p', kvs, rfl, rfl, h1, h2, by rw [h3]; simpa using q _ H (Same.refl H) (.bl _)⟩
  · exact .inl (h W H x y a b t Q hm ha hb e q)
end
end M3
/-! M3, part p: a law's defs by their names. -/
namespace M3
open PySem PySem.Spec PyProof.Rows L2

/-- a def of the text, under its name -/
structure Df (K : PySem.W.Frag) (mg : Str → Option Value) (x : Str) (st : Stmt) : Prop where
  ex : ∃ f fd, L2.Fun K x x st f fd ∧ mg x = some (.ref f)
/-- .. that keeps a promise at depth k -/
structure FnX (tk : Nat) (P : Program) (w : World) (K : PySem.W.Frag) (mg : Str → Option Value) (base : Heap) (k : Nat) (x : Str) (st : Stmt) (ps : List Str) (sp : Sp) : Prop where
  ex : ∃ f fd, FnOk tk P w K mg base (L2.CX P w) k f fd ps sp ∧ L2.Fun K x x st f fd ∧ mg x = some (.ref f)
/-- its positional arguments are its parameters -/
def BindsAll (x : Str) (st : Stmt) (ps : List Str) : Prop := ∀ (kV doc pm : Value) (an : Option Addr) (cdv ct : Value) (us : List Value), us.length = ps.length → bindArgs (PySem.W.fnOf x x (defArgs st) (defBody st) (defScope st) .none kV doc pm an cdv ct) ⟨us, []⟩ = pure (ps.zip us)
/-- n positional ones, then keywords ks: perm tells each parameter's place among them -/
def BindsK (x : Str) (st : Stmt) (ps : List Str) (n : Nat) (ks : List Str) (perm : List Nat) : Prop := ∀ (kV doc pm : Value) (an : Option Addr) (cdv ct : Value) (us ws : List Value), us.length = n → ws.length = ks.length →
  bindArgs (PySem.W.fnOf x x (defArgs st) (defBody st) (defScope st) .none kV doc pm an cdv ct) ⟨us, ks.zip ws⟩ = pure (ps.zip (pick perm (us ++ ws)))
section
variable {tk : Nat} {P : Program} {w : World} {K : PySem.W.Frag} {mg : Str → Option Value} {base : Heap} {x : Str} {st : Stmt} {N ps : List Str} {k : Nat} {ms : SM}
theorem FnX.mono {sp : Sp} {j : Nat} (F : FnX tk P w K mg base j x st ps sp) (h : j ≤ k) : FnX tk P w K mg base k x st ps sp := by
  obtain ⟨f, fd, a, b, c⟩ := F.ex
  exact ⟨f, fd, a.mono h, b, c⟩
theorem fx_pure (F : Df K mg x st) (S : FnScope N ps (defScope st)) (h : ∀ A E, Room k A → MSs (Prg.dat P w K mg base tk N (defScope st) A E) (defBody st) ms) : FnX tk P w K mg base (k + 1) x st ps (spP K mg ps.length (fnM N.length ms)) := by
  obtain ⟨f, fd, a, b⟩ := F.ex
  exact ⟨f, fd, fn_pure a S h, a, b⟩
theorem fx_io (F : Df K mg x st) (S : FnScope N ps (defScope st)) (h : ∀ A E, Room k A → MSs (Prg.dat P w K mg base tk N (defScope st) A E) (defBody st) ms) : FnX tk P w K mg base (k + 1) x st ps (spI K mg ps.length (fnI N.length ms)) := by
  obtain ⟨f, fd, a, b⟩ := F.ex
  exact ⟨f, fd, fn_io a S h, a, b⟩
theorem fx_new (F : Df K mg x st) (S : FnScope N ps (defScope st)) (h : ∀ A E, Room k A → MSs (Prg.dat P w K mg base tk N (defScope st) A E) (defBody st) ms) : FnX tk P w K mg base (k + 1) x st ps (spN K mg ps.length (fnN N.length ms)) := by
  obtain ⟨f, fd, a, b⟩ := F.ex
  exact ⟨f, fd, fn_new a S h, a, b⟩
end
/-- a def's promise, at a place of a body -/
abbrev Dat.fx (D : Dat) (k : Nat) (x : Str) (st : Stmt) (ps : List Str) (sp : Sp) : Prop := FnX D.tk D.prog D.w D.K D.mg D.base k x st ps sp
section
variable {D : Dat} {e : Expr} {m : XM} {pos p : Pos} {k : Nat} {x : Str} {st : Stmt} {ps : List Str} {es : List Expr}
theorem FnX.fnd {sp : Sp} (F : D.fx k x st ps sp) (hr : Room k D.A) : ∃ f fd, FnD D x k f fd ps sp ∧ L2.Fun D.K x x st f fd := by
  obtain ⟨f, fd, a, b, c⟩ := F.ex
  exact ⟨f, fd, ⟨a, hr, c, b.kp⟩, b⟩
theorem xe_call {n : Nat} {g : List T → R T} {am : AM} (F : D.fx k x st ps (spP D.K D.mg n g)) (hr : Room k D.A) (hb : BindsAll x st ps) (hg : D.sc.names.lookup x = some .globalImplicit) (ha : MA D (e :: es) am) (hdb : (x == ("__debug__" : Str)) = false := by decide)
    (he : ∀ env, starEach (e :: es) env = (false, eval e env) :: starEach es env := by exact fun _ => rfl) (hpl : ∀ env, (backTo pos (starEach es env)).any (·.1) = false := by exact fun _ => rfl) : ME D (.Call (.Name x p) (e :: es) [] pos) (xCall n g am) := by
  obtain ⟨f, fd, a, b⟩ := F.fnd hr
  exact me_call a (b.binds hb) hg ha hdb he hpl
theorem xe_call0 {g : List T → R T} (F : D.fx k x st ps (spP D.K D.mg 0 g)) (hr : Room k D.A) (hb : BindsAll x st ps) (hg : D.sc.names.lookup x = some .globalImplicit) (hdb : (x == ("__debug__" : Str)) = false := by decide) : ME D (.Call (.Name x p) [] [] pos) (xCall 0 g aNil) := by
  obtain ⟨f, fd, a, b⟩ := F.fnd hr
  exact me_call0 a (b.binds hb) hg hdb
theorem xe_callB {n : Nat} {g : List T → R T} {am : AM} (F : D.fx k x st ps (spP D.K D.mg n g)) (hr : Room k D.A) (hb : BindsAll x st ps) (hg : D.sc.names.lookup x = some .globalImplicit) (ha : MM D (e :: es) am) (hdb : (x == ("__debug__" : Str)) = false := by decide)
    (he : ∀ env, starEach (e :: es) env = (false, eval e env) :: starEach es env := by exact fun _ => rfl) (hpl : ∀ env, (backTo pos (starEach es env)).any (·.1) = false := by exact fun _ => rfl) : ME D (.Call (.Name x p) (e :: es) [] pos) (xCallB n g am) := by
  obtain ⟨f, fd, a, b⟩ := F.fnd hr
  exact me_callB a (b.binds hb) hg ha hdb he hpl
theorem xe_callI {n : Nat} {y : Str} {py : Pos} {g : T → List T → R (T × T)} {am : AM} (i : Nat) (F : D.fx k x st ps (spI D.K D.mg n g)) (hr : Room k D.A) (hb : BindsAll x st ps) (hg : D.sc.names.lookup x = some .globalImplicit) (hN : D.N[i]? = some y) (hv : Vis D.sc y) (ha : MA D es am) (hdb : (x == ("__debug__" : Str)) = false := by decide)
    (he : ∀ env, starEach (.Name y py :: es) env = (false, eval (.Name y py) env) :: starEach es env := by exact fun _ => rfl) (hpl : ∀ env, (backTo pos (starEach es env)).any (·.1) = false := by exact fun _ => rfl)
    (hd : (y == ("__debug__" : Str)) = false := by decide) (hcd : (y == ("__classdict__" : Str)) = false := by decide) : ME D (.Call (.Name x p) (.Name y py :: es) [] pos) (xCallI n i g am) := by
  obtain ⟨f, fd, a, b⟩ := F.fnd hr
  exact me_callI i a (b.binds hb) hg hN hv ha hdb he hpl hd hcd
theorem xe_callF {n : Nat} {g : T → List T → R (T × T)} {am : AM} (F : D.fx k x st ps (spI D.K D.mg n g)) (hr : Room k D.A) (hb : BindsAll x st ps) (hg : D.sc.names.lookup x = some .globalImplicit) (h1 : MN D e m) (ha : MA D es am) (hdb : (x == ("__debug__" : Str)) = false := by decide)
    (he : ∀ env, starEach (e :: es) env = (false, eval e env) :: starEach es env := by exact fun _ => rfl) (hpl : ∀ env, (backTo pos (starEach es env)).any (·.1) = false := by exact fun _ => rfl) : ME D (.Call (.Name x p) (e :: es) [] pos) (xCallF n g m am) := by
  obtain ⟨f, fd, a, b⟩ := F.fnd hr
  exact me_callF a (b.binds hb) hg h1 ha hdb he hpl
theorem xn_call {n : Nat} {g : List T → R T} {am : AM} (F : D.fx k x st ps (spN D.K D.mg n g)) (hr : Room k D.A) (hb : BindsAll x st ps) (hg : D.sc.names.lookup x = some .globalImplicit) (ha : MA D (e :: es) am) (hdb : (x == ("__debug__" : Str)) = false := by decide)
    (he : ∀ env, starEach (e :: es) env = (false, eval e env) :: starEach es env := by exact fun _ => rfl) (hpl : ∀ env, (backTo pos (starEach es env)).any (·.1) = false := by exact fun _ => rfl) : MN D (.Call (.Name x p) (e :: es) [] pos) (xCall n g am) := by
  obtain ⟨f, fd, a, b⟩ := F.fnd hr
  exact mn_call a (b.binds hb) hg ha hdb he hpl
theorem xe_callK {n : Nat} {perm : List Nat} {ks : List Str} {kws : List Keyword} {g : List T → R T} {am ak : AM} (F : D.fx k x st ps (spP D.K D.mg n g)) (hr : Room k D.A) (hb : BindsK x st ps (e :: es).length ks perm) (hg : D.sc.names.lookup x = some .globalImplicit) (ha : MA D (e :: es) am) (hk : MK D kws ak)
    (hall : ∀ env, (backToKw pos (keywordEach kws env)).all (·.1.isSome) = true := by exact fun _ => rfl) (hks : ∀ env, (backToKw pos (keywordEach kws env)).filterMap (·.1) = ks := by exact fun _ => rfl)
    (hdb : (x == ("__debug__" : Str)) = false := by decide) (he : ∀ env, starEach (e :: es) env = (false, eval e env) :: starEach es env := by exact fun _ => rfl)
    (hpl : ∀ env, ((backTo pos (starEach (e :: es) env)).any (·.1) || (backToKw pos (keywordEach kws env)).any (·.1.isNone)) = false := by exact fun _ => rfl) : ME D (.Call (.Name x p) (e :: es) kws pos) (xCallK n (e :: es).length ks.length perm g am ak) := by
  obtain ⟨f, fd, a, b⟩ := F.fnd hr
  exact me_callK a (kbn b hb) hg ha hk hall hks hdb he hpl
theorem xe_callK0 {n : Nat} {perm : List Nat} {ks : List Str} {kws : List Keyword} {g : List T → R T} {ak : AM} (F : D.fx k x st ps (spP D.K D.mg n g)) (hr : Room k D.A) (hb : BindsK x st ps 0 ks perm) (hg : D.sc.names.lookup x = some .globalImplicit) (hk : MK D kws ak)
    (hall : ∀ env, (backToKw pos (keywordEach kws env)).all (·.1.isSome) = true := by exact fun _ => rfl) (hks : ∀ env, (backToKw pos (keywordEach kws env)).filterMap (·.1) = ks := by exact fun _ => rfl)
    (hdb : (x == ("__debug__" : Str)) = false := by decide)
    (hpl : ∀ env, ((backTo pos (starEach [] env)).any (·.1) || (backToKw pos (keywordEach kws env)).any (·.1.isNone)) = false := by exact fun _ => rfl) : ME D (.Call (.Name x p) [] kws pos) (xCallK n 0 ks.length perm g aNil ak) := by
  obtain ⟨f, fd, a, b⟩ := F.fnd hr
  exact me_callK0 a (kbn b hb) hg hk hall hks hdb hpl
end
end M3
/-! M3, part q: the rules in short forms, one for each operator and built-in. -/
namespace M3
open PySem PySem.Spec PyProof.Rows L2
@[simp] def oPopAt : T → List T → R (T × T)
  | .lst ts, [.int i] => if Nat.blt i.natAbs 9223372036854775808 then match seqIndex? i ts.length with
      | some k => match ts[k]? with
        | some u => .ok (u, .lst (ts.eraseIdx k))
        | none => .no
      | none => .no
    else .no
  | _, _ => .no
theorem IsL.erase {K : PySem.W.Frag} {W : Addr → Prop} {H : Hp} : ∀ {xs : List V} {ts : List T} (k : Nat), IsL K W H xs ts → IsL K W H (xs.eraseIdx k) (ts.eraseIdx k)
  | _, _, _, .nil => .nil
  | _, _, 0, .cons _ l => l
  | _, _, k + 1, .cons q l => .cons q (IsL.erase k l)
theorem own_popAt {K : PySem.W.Frag} : OwnOK K rPopAt oPopAt := by
  intro W H a t vs ts u t1 Q hm wa ho l e q
  unfold oPopAt at e
  split at e
  · rename_i us i
    split at e
    · rename_i hr
      have hr : i.natAbs < 9223372036854775808 := Nat.le_of_ble_eq_true hr
      split at e
      · rename_i k hk
        split at e
        · rename_i y hy
          cases e
          obtain ⟨xs, hx, lx⟩ := ho
          cases l with
          | cons ii r =>
            cases r
            cases ii
            obtain ⟨v, hv, iv⟩ := lx.get hy
            refine ⟨a, xs, i, k, v, rfl, rfl, hx, by omega, by omega, by rw [lx.length]; exact hk, hv, ?_⟩
            exact q _ _ ev_eq mut_upd ⟨_, upd_same, (lx.erase k).fut (fut_eq wa) hm⟩ (iv.fut (fut_eq wa) hm)
        · cases e
      · cases e
    · cases e
  · cases e
section
variable {D : Dat} {e a b c : Expr} {es : List Expr} {m ma mb mc : XM} {am : AM} {pos p : Pos} {x : Str} {k : Nat}
theorem bo_add (ha : ME D a ma) (hb : MB D b mb) : ME D (.BinOp a .Add b pos) (x2 oAdd ma mb) := me_bin (fun _ => op_addA) ok_add tame_add ha hb
theorem bo_sub (ha : ME D a ma) (hb : MB D b mb) : ME D (.BinOp a .Sub b pos) (x2 oSub ma mb) := me_bin (fun _ => op_sub) ok_sub tame_I ha hb
theorem bo_mul (ha : ME D a ma) (hb : MB D b mb) : ME D (.BinOp a .Mult b pos) (x2 oMul ma mb) := me_bin (fun _ => op_mulA) ok_mul tame_mul ha hb
theorem bo_fdiv (ha : ME D a ma) (hb : MB D b mb) : ME D (.BinOp a .FloorDiv b pos) (x2 oFdiv ma mb) := me_bin (fun _ => op_fdiv) ok_fdiv tame_I ha hb
theorem bo_mod (ha : ME D a ma) (hb : MB D b mb) : ME D (.BinOp a .Mod b pos) (x2 oMod ma mb) := me_bin (fun _ => op_mod) ok_mod tame_I ha hb
theorem bo_pow (ha : ME D a ma) (hb : MB D b mb) : ME D (.BinOp a .Pow b pos) (x2 oPow ma mb) := me_bin (fun _ => op_pow) ok_pow tame_I ha hb
theorem bo_shl (ha : ME D a ma) (hb : MB D b mb) : ME D (.BinOp a .LShift b pos) (x2 oShl ma mb) := me_bin (fun _ => op_shl) ok_shl tame_I ha hb
theorem ce_lt (ha : ME D a ma) (hb : MB D b mb) : ME D (.Compare a [.Lt] [b] pos) (x2 oLt ma mb) := me_cmp (fun _ => op_lt) ok_lt tame_I ha hb (nomark _)
theorem ct_lt (ha : ME D a ma) (hb : MB D b mb) : MT D (.Compare a [.Lt] [b] pos) (tBl (x2 oLt ma mb)) := mt_cmp (fun _ => op_lt) ok_lt tame_I ha hb (nomark _)
theorem ceo_lt (i : Nat) (hN : D.N[i]? = some x) (hv : Vis D.sc x) (hb : MB D b mb) (hd : (x == ("__debug__" : Str)) = false := by decide) (hcd : (x == ("__classdict__" : Str)) = false := by decide) : ME D (.Compare (.Name x p) [.Lt] [b] pos) (x2o oLt i mb) := me_cmpo i (fun _ => op_lt) ok_lt tame_I hN hv hb (nomark _) hd hcd
theorem cto_lt (i : Nat) (hN : D.N[i]? = some x) (hv : Vis D.sc x) (hb : MB D b mb) (hd : (x == ("__debug__" : Str)) = false := by decide) (hcd : (x == ("__classdict__" : Str)) = false := by decide) : MT D (.Compare (.Name x p) [.Lt] [b] pos) (tBl (x2o oLt i mb)) := mt_cmpo i (fun _ => op_lt) ok_lt tame_I hN hv hb (nomark _) hd hcd
theorem ce_le (ha : ME D a ma) (hb : MB D b mb) : ME D (.Compare a [.LtE] [b] pos) (x2 oLe ma mb) := me_cmp (fun _ => op_le) ok_le tame_I ha hb (nomark _)
theorem ct_le (ha : ME D a ma) (hb : MB D b mb) : MT D (.Compare a [.LtE] [b] pos) (tBl (x2 oLe ma mb)) := mt_cmp (fun _ => op_le) ok_le tame_I ha hb (nomark _)
theorem ceo_le (i : Nat) (hN : D.N[i]? = some x) (hv : Vis D.sc x) (hb : MB D b mb) (hd : (x == ("__debug__" : Str)) = false := by decide) (hcd : (x == ("__classdict__" : Str)) = false := by decide) : ME D (.Compare (.Name x p) [.LtE] [b] pos) (x2o oLe i mb) := me_cmpo i (fun _ => op_le) ok_le tame_I hN hv hb (nomark _) hd hcd
theorem cto_le (i : Nat) (hN : D.N[i]? = some x) (hv : Vis D.sc x) (hb : MB D b mb) (hd : (x == ("__debug__" : Str)) = false := by decide) (hcd : (x == ("__classdict__" : Str)) = false := by decide) : MT D (.Compare (.Name x p) [.LtE] [b] pos) (tBl (x2o oLe i mb)) := mt_cmpo i (fun _ => op_le) ok_le tame_I hN hv hb (nomark _) hd hcd
theorem ce_gt (ha : ME D a ma) (hb : MB D b mb) : ME D (.Compare a [.Gt] [b] pos) (x2 oGt ma mb) := me_cmp (fun _ => op_gt) ok_gt tame_I ha hb (nomark _)
theorem ct_gt (ha : ME D a ma) (hb : MB D b mb) : MT D (.Compare a [.Gt] [b] pos) (tBl (x2 oGt ma mb)) := mt_cmp (fun _ => op_gt) ok_gt tame_I ha hb (nomark _)
theorem ceo_gt (i : Nat) (hN : D.N[i]? = some x) (hv : Vis D.sc x) (hb : MB D b mb) (hd : (x == ("__debug__" : Str)) = false := by decide) (hcd : (x == ("__classdict__" : Str)) = false := by decide) : ME D (.Compare (.Name x p) [.Gt] [b] pos) (x2o oGt i mb) := me_cmpo i (fun _ => op_gt) ok_gt tame_I hN hv hb (nomark _) hd hcd
theorem cto_gt (i : Nat) (hN : D.N[i]? = some x) (hv : Vis D.sc x) (hb : MB D b mb) (hd : (x == ("__debug__" : Str)) = false := by decide) (hcd : (x == ("__classdict__" : Str)) = false := by decide) : MT D (.Compare (.Name x p) [.Gt] [b] pos) (tBl (x2o oGt i mb)) := mt_cmpo i (fun _ => op_gt) ok_gt tame_I hN hv hb (nomark _) hd hcd
theorem ce_ge (ha : ME D a ma) (hb : MB D b mb) : ME D (.Compare a [.GtE] [b] pos) (x2 oGe ma mb) := me_cmp (fun _ => op_ge) ok_ge tame_I ha hb (nomark _)
theorem ct_ge (ha : ME D a ma) (hb : MB D b mb) : MT D (.Compare a [.GtE] [b] pos) (tBl (x2 oGe ma mb)) := mt_cmp (fun _ => op_ge) ok_ge tame_I ha hb (nomark _)
theorem ceo_ge (i : Nat) (hN : D.N[i]? = some x) (hv : Vis D.sc x) (hb : MB D b mb) (hd : (x == ("__debug__" : Str)) = false := by decide) (hcd : (x == ("__classdict__" : Str)) = false := by decide) : ME D (.Compare (.Name x p) [.GtE] [b] pos) (x2o oGe i mb) := me_cmpo i (fun _ => op_ge) ok_ge tame_I hN hv hb (nomark _) hd hcd
theorem cto_ge (i : Nat) (hN : D.N[i]? = some x) (hv : Vis D.sc x) (hb : MB D b mb) (hd : (x == ("__debug__" : Str)) = false := by decide) (hcd : (x == ("__classdict__" : Str)) = false := by decide) : MT D (.Compare (.Name x p) [.GtE] [b] pos) (tBl (x2o oGe i mb)) := mt_cmpo i (fun _ => op_ge) ok_ge tame_I hN hv hb (nomark _) hd hcd
theorem ce_eq (hr : Room k D.A) (ha : ME D a ma) (hb : MB D b mb) : ME D (.Compare a [.Eq] [b] pos) (x2 oEqA ma mb) := me_cmp (fun v => (op_eqD (X := D.cx v) (by have := hr.un; show D.A.units + 64 < cLine; omega)).or (op_eqDk (X := D.cx v) (by have := hr.un; show D.A.units < cLine; omega))) (ok_eqA ok_eq) tame_eqA ha hb (nomark _)
theorem ct_eq (hr : Room k D.A) (ha : ME D a ma) (hb : MB D b mb) : MT D (.Compare a [.Eq] [b] pos) (tBl (x2 oEqA ma mb)) := mt_cmp (fun v => (op_eqD (X := D.cx v) (by have := hr.un; show D.A.units + 64 < cLine; omega)).or (op_eqDk (X := D.cx v) (by have := hr.un; show D.A.units < cLine; omega))) (ok_eqA ok_eq) tame_eqA ha hb (nomark _)
theorem ceo_eq (i : Nat) (hr : Room k D.A) (hN : D.N[i]? = some x) (hv : Vis D.sc x) (hb : MB D b mb) (hd : (x == ("__debug__" : Str)) = false := by decide) (hcd : (x == ("__classdict__" : Str)) = false := by decide) : ME D (.Compare (.Name x p) [.Eq] [b] pos) (x2o oEqA i mb) := me_cmpo i (fun v => (op_eqD (X := D.cx v) (by have := hr.un; show D.A.units + 64 < cLine; omega)).or (op_eqDk (X := D.cx v) (by have := hr.un; show D.A.units < cLine; omega))) (ok_eqA ok_eq) tame_eqA hN hv hb (nomark _) hd hcd
theorem cto_eq (i : Nat) (hr : Room k D.A) (hN : D.N[i]? = some x) (hv : Vis D.sc x) (hb : MB D b mb) (hd : (x == ("__debug__" : Str)) = false := by decide) (hcd : (x == ("__classdict__" : Str)) = false := by decide) : MT D (.Compare (.Name x p) [.Eq] [b] pos) (tBl (x2o oEqA i mb)) := mt_cmpo i (fun v => (op_eqD (X := D.cx v) (by have := hr.un; show D.A.units + 64 < cLine; omega)).or (op_eqDk (X := D.cx v) (by have := hr.un; show D.A.units < cLine; omega))) (ok_eqA ok_eq) tame_eqA hN hv hb (nomark _) hd hcd
theorem ce_ne (hr : Room k D.A) (ha : ME D a ma) (hb : MB D b mb) : ME D (.Compare a [.NotEq] [b] pos) (x2 oNeA ma mb) := me_cmp (fun v => (op_neD (X := D.cx v) (by have := hr.un; show D.A.units + 64 < cLine; omega)).or (op_neDk (X := D.cx v) (by have := hr.un; show D.A.units < cLine; omega))) (ok_neA ok_ne) tame_neA ha hb (nomark _)
theorem ct_ne (hr : Room k D.A) (ha : ME D a ma) (hb : MB D b mb) : MT D (.Compare a [.NotEq] [b] pos) (tBl (x2 oNeA ma mb)) := mt_cmp (fun v => (op_neD (X := D.cx v) (by have := hr.un; show D.A.units + 64 < cLine; omega)).or (op_neDk (X := D.cx v) (by have := hr.un; show D.A.units < cLine; omega))) (ok_neA ok_ne) tame_neA ha hb (nomark _)
theorem ceo_ne (i : Nat) (hr : Room k D.A) (hN : D.N[i]? = some x) (hv : Vis D.sc x) (hb : MB D b mb) (hd : (x == ("__debug__" : Str)) = false := by decide) (hcd : (x == ("__classdict__" : Str)) = false := by decide) : ME D (.Compare (.Name x p) [.NotEq] [b] pos) (x2o oNeA i mb) := me_cmpo i (fun v => (op_neD (X := D.cx v) (by have := hr.un; show D.A.units + 64 < cLine; omega)).or (op_neDk (X := D.cx v) (by have := hr.un; show D.A.units < cLine; omega))) (ok_neA ok_ne) tame_neA hN hv hb (nomark _) hd hcd
theorem cto_ne (i : Nat) (hr : Room k D.A) (hN : D.N[i]? = some x) (hv : Vis D.sc x) (hb : MB D b mb) (hd : (x == ("__debug__" : Str)) = false := by decide) (hcd : (x == ("__classdict__" : Str)) = false := by decide) : MT D (.Compare (.Name x p) [.NotEq] [b] pos) (tBl (x2o oNeA i mb)) := mt_cmpo i (fun v => (op_neD (X := D.cx v) (by have := hr.un; show D.A.units + 64 < cLine; omega)).or (op_neDk (X := D.cx v) (by have := hr.un; show D.A.units < cLine; omega))) (ok_neA ok_ne) tame_neA hN hv hb (nomark _) hd hcd
theorem ce_is (ha : ME D a ma) (hb : MB D b mb) : ME D (.Compare a [.Is] [b] pos) (x2 oIs ma mb) := me_cmp (fun _ => op_isA) ok_is tame_is ha hb (nomark _)
theorem ct_is (ha : ME D a ma) (hb : MB D b mb) : MT D (.Compare a [.Is] [b] pos) (tBl (x2 oIs ma mb)) := mt_cmp (fun _ => op_isA) ok_is tame_is ha hb (nomark _)
theorem ceo_is (i : Nat) (hN : D.N[i]? = some x) (hv : Vis D.sc x) (hb : MB D b mb) (hd : (x == ("__debug__" : Str)) = false := by decide) (hcd : (x == ("__classdict__" : Str)) = false := by decide) : ME D (.Compare (.Name x p) [.Is] [b] pos) (x2o oIs i mb) := me_cmpo i (fun _ => op_isA) ok_is tame_is hN hv hb (nomark _) hd hcd
theorem cto_is (i : Nat) (hN : D.N[i]? = some x) (hv : Vis D.sc x) (hb : MB D b mb) (hd : (x == ("__debug__" : Str)) = false := by decide) (hcd : (x == ("__classdict__" : Str)) = false := by decide) : MT D (.Compare (.Name x p) [.Is] [b] pos) (tBl (x2o oIs i mb)) := mt_cmpo i (fun _ => op_isA) ok_is tame_is hN hv hb (nomark _) hd hcd
theorem ce_isnot (ha : ME D a ma) (hb : MB D b mb) : ME D (.Compare a [.IsNot] [b] pos) (x2 oIsNot ma mb) := me_cmp (fun _ => op_isNotA) ok_isnot tame_isnot ha hb (nomark _)
theorem ct_isnot (ha : ME D a ma) (hb : MB D b mb) : MT D (.Compare a [.IsNot] [b] pos) (tBl (x2 oIsNot ma mb)) := mt_cmp (fun _ => op_isNotA) ok_isnot tame_isnot ha hb (nomark _)
theorem ceo_isnot (i : Nat) (hN : D.N[i]? = some x) (hv : Vis D.sc x) (hb : MB D b mb) (hd : (x == ("__debug__" : Str)) = false := by decide) (hcd : (x == ("__classdict__" : Str)) = false := by decide) : ME D (.Compare (.Name x p) [.IsNot] [b] pos) (x2o oIsNot i mb) := me_cmpo i (fun _ => op_isNotA) ok_isnot tame_isnot hN hv hb (nomark _) hd hcd
theorem cto_isnot (i : Nat) (hN : D.N[i]? = some x) (hv : Vis D.sc x) (hb : MB D b mb) (hd : (x == ("__debug__" : Str)) = false := by decide) (hcd : (x == ("__classdict__" : Str)) = false := by decide) : MT D (.Compare (.Name x p) [.IsNot] [b] pos) (tBl (x2o oIsNot i mb)) := mt_cmpo i (fun _ => op_isNotA) ok_isnot tame_isnot hN hv hb (nomark _) hd hcd
theorem ce_in (hr : Room k D.A) (ha : ME D a ma) (hb : MB D b mb) (hmk : behindInMarks .In b = false := by with_unfolding_all rfl) : ME D (.Compare a [.In] [b] pos) (x2 oInA ma mb) := me_cmp (fun v => (op_inA (X := D.cx v) (by have := hr.un; show D.A.units + 65 < cLine; omega)).or op_inDk) ok_inA tame_inA ha hb (hmk)
theorem ct_in (hr : Room k D.A) (ha : ME D a ma) (hb : MB D b mb) (hmk : behindInMarks .In b = false := by with_unfolding_all rfl) : MT D (.Compare a [.In] [b] pos) (tBl (x2 oInA ma mb)) := mt_cmp (fun v => (op_inA (X := D.cx v) (by have := hr.un; show D.A.units + 65 < cLine; omega)).or op_inDk) ok_inA tame_inA ha hb (hmk)
theorem ceo_in (i : Nat) (hr : Room k D.A) (hN : D.N[i]? = some x) (hv : Vis D.sc x) (hb : MB D b mb) (hmk : behindInMarks .In b = false := by with_unfolding_all rfl) (hd : (x == ("__debug__" : Str)) = false := by decide) (hcd : (x == ("__classdict__" : Str)) = false := by decide) : ME D (.Compare (.Name x p) [.In] [b] pos) (x2o oInA i mb) := me_cmpo i (fun v => (op_inA (X := D.cx v) (by have := hr.un; show D.A.units + 65 < cLine; omega)).or op_inDk) ok_inA tame_inA hN hv hb (hmk) hd hcd
theorem cto_in (i : Nat) (hr : Room k D.A) (hN : D.N[i]? = some x) (hv : Vis D.sc x) (hb : MB D b mb) (hmk : behindInMarks .In b = false := by with_unfolding_all rfl) (hd : (x == ("__debug__" : Str)) = false := by decide) (hcd : (x == ("__classdict__" : Str)) = false := by decide) : MT D (.Compare (.Name x p) [.In] [b] pos) (tBl (x2o oInA i mb)) := mt_cmpo i (fun v => (op_inA (X := D.cx v) (by have := hr.un; show D.A.units + 65 < cLine; omega)).or op_inDk) ok_inA tame_inA hN hv hb (hmk) hd hcd
theorem ce_notin (hr : Room k D.A) (ha : ME D a ma) (hb : MB D b mb) (hmk : behindInMarks .NotIn b = false := by with_unfolding_all rfl) : ME D (.Compare a [.NotIn] [b] pos) (x2 oNotInA ma mb) := me_cmp (fun v => (op_notInA (X := D.cx v) (by have := hr.un; show D.A.units + 65 < cLine; omega)).or op_notInDk) ok_notinA tame_notinA ha hb (hmk)
theorem ct_notin (hr : Room k D.A) (ha : ME D a ma) (hb : MB D b mb) (hmk : behindInMarks .NotIn b = false := by with_unfolding_all rfl) : MT D (.Compare a [.NotIn] [b] pos) (tBl (x2 oNotInA ma mb)) := mt_cmp (fun v => (op_notInA (X := D.cx v) (by have := hr.un; show D.A.units + 65 < cLine; omega)).or op_notInDk) ok_notinA tame_notinA ha hb (hmk)
theorem ceo_notin (i : Nat) (hr : Room k D.A) (hN : D.N[i]? = some x) (hv : Vis D.sc x) (hb : MB D b mb) (hmk : behindInMarks .NotIn b = false := by with_unfolding_all rfl) (hd : (x == ("__debug__" : Str)) = false := by decide) (hcd : (x == ("__classdict__" : Str)) = false := by decide) : ME D (.Compare (.Name x p) [.NotIn] [b] pos) (x2o oNotInA i mb) := me_cmpo i (fun v => (op_notInA (X := D.cx v) (by have := hr.un; show D.A.units + 65 < cLine; omega)).or op_notInDk) ok_notinA tame_notinA hN hv hb (hmk) hd hcd
theorem cto_notin (i : Nat) (hr : Room k D.A) (hN : D.N[i]? = some x) (hv : Vis D.sc x) (hb : MB D b mb) (hmk : behindInMarks .NotIn b = false := by with_unfolding_all rfl) (hd : (x == ("__debug__" : Str)) = false := by decide) (hcd : (x == ("__classdict__" : Str)) = false := by decide) : MT D (.Compare (.Name x p) [.NotIn] [b] pos) (tBl (x2o oNotInA i mb)) := mt_cmpo i (fun v => (op_notInA (X := D.cx v) (by have := hr.un; show D.A.units + 65 < cLine; omega)).or op_notInDk) ok_notinA tame_notinA hN hv hb (hmk) hd hcd
theorem ex_ix (ha : ME D a ma) (hb : MB D b mb) (hs : PlainIx b := by exact fun _ _ => rfl) : ME D (.Subscript a b pos) (x2 oIxA ma mb) := me_ix (fun _ => ix_any) ok_ixA tame_ixA ha hb hs
theorem ex_ixo (i : Nat) (hN : D.N[i]? = some x) (hv : Vis D.sc x) (hb : MB D b mb) (hs : PlainIx b := by exact fun _ _ => rfl) (hd : (x == ("__debug__" : Str)) = false := by decide) (hcd : (x == ("__classdict__" : Str)) = false := by decide) :
    ME D (.Subscript (.Name x p) b pos) (x2o oIxA i mb) := me_ixo i (fun _ => ix_any) ok_ixA tame_ixA hN hv hb hs hd hcd
theorem bf_len (hg : D.sc.names.lookup ("len" : Str) = some .globalImplicit) (hm : D.mg "len" = none) (ha : MM D (e :: es) am)
    (he : ∀ env, starEach (e :: es) env = (false, eval e env) :: starEach es env := by exact fun _ => rfl) (hpl : ∀ env, (backTo pos (starEach es env)).any (·.1) = false := by exact fun _ => rfl) : ME D (.Call (.Name "len" p) (e :: es) [] pos) (xCB fLen am) :=
  me_cb (fun _ => cr_len) ck_len rfl hg hm ha (by decide) (by decide) he hpl
theorem bf_abs (hg : D.sc.names.lookup ("abs" : Str) = some .globalImplicit) (hm : D.mg "abs" = none) (ha : MM D (e :: es) am)
    (he : ∀ env, starEach (e :: es) env = (false, eval e env) :: starEach es env := by exact fun _ => rfl) (hpl : ∀ env, (backTo pos (starEach es env)).any (·.1) = false := by exact fun _ => rfl) : ME D (.Call (.Name "abs" p) (e :: es) [] pos) (xCB fAbs am) :=
  me_cb (fun _ => call_abs) ck_abs rfl hg hm ha (by decide) (by decide) he hpl
theorem bf_sum (hg : D.sc.names.lookup ("sum" : Str) = some .globalImplicit) (hm : D.mg "sum" = none) (ha : MM D (e :: es) am)
    (he : ∀ env, starEach (e :: es) env = (false, eval e env) :: starEach es env := by exact fun _ => rfl) (hpl : ∀ env, (backTo pos (starEach es env)).any (·.1) = false := by exact fun _ => rfl) : ME D (.Call (.Name "sum" p) (e :: es) [] pos) (xCB fSum am) :=
  me_cb (fun _ => cr_sum rfl) ck_sum rfl hg hm ha (by decide) (by decide) he hpl
theorem bf_min (hg : D.sc.names.lookup ("min" : Str) = some .globalImplicit) (hm : D.mg "min" = none) (ha : MM D (e :: es) am)
    (he : ∀ env, starEach (e :: es) env = (false, eval e env) :: starEach es env := by exact fun _ => rfl) (hpl : ∀ env, (backTo pos (starEach es env)).any (·.1) = false := by exact fun _ => rfl) : ME D (.Call (.Name "min" p) (e :: es) [] pos) (xCB fMin am) :=
  me_cb (fun _ => cr_min rfl) ck_min rfl hg hm ha (by decide) (by decide) he hpl
theorem bf_max (hg : D.sc.names.lookup ("max" : Str) = some .globalImplicit) (hm : D.mg "max" = none) (ha : MM D (e :: es) am)
    (he : ∀ env, starEach (e :: es) env = (false, eval e env) :: starEach es env := by exact fun _ => rfl) (hpl : ∀ env, (backTo pos (starEach es env)).any (·.1) = false := by exact fun _ => rfl) : ME D (.Call (.Name "max" p) (e :: es) [] pos) (xCB fMax am) :=
  me_cb (fun _ => cr_max rfl) ck_max rfl hg hm ha (by decide) (by decide) he hpl
theorem bf_min2 (hg : D.sc.names.lookup ("min" : Str) = some .globalImplicit) (hm : D.mg "min" = none) (ha : MM D (e :: es) am)
    (he : ∀ env, starEach (e :: es) env = (false, eval e env) :: starEach es env := by exact fun _ => rfl) (hpl : ∀ env, (backTo pos (starEach es env)).any (·.1) = false := by exact fun _ => rfl) : ME D (.Call (.Name "min" p) (e :: es) [] pos) (xCB fMin2 am) :=
  me_cb (fun _ => call_min2 rfl) ck_min2 rfl hg hm ha (by decide) (by decide) he hpl
theorem bf_max2 (hg : D.sc.names.lookup ("max" : Str) = some .globalImplicit) (hm : D.mg "max" = none) (ha : MM D (e :: es) am)
    (he : ∀ env, starEach (e :: es) env = (false, eval e env) :: starEach es env := by exact fun _ => rfl) (hpl : ∀ env, (backTo pos (starEach es env)).any (·.1) = false := by exact fun _ => rfl) : ME D (.Call (.Name "max" p) (e :: es) [] pos) (xCB fMax2 am) :=
  me_cb (fun _ => call_max2 rfl) ck_max2 rfl hg hm ha (by decide) (by decide) he hpl
theorem bf_all (hg : D.sc.names.lookup ("all" : Str) = some .globalImplicit) (hm : D.mg "all" = none) (ha : MM D (e :: es) am)
    (he : ∀ env, starEach (e :: es) env = (false, eval e env) :: starEach es env := by exact fun _ => rfl) (hpl : ∀ env, (backTo pos (starEach es env)).any (·.1) = false := by exact fun _ => rfl) : ME D (.Call (.Name "all" p) (e :: es) [] pos) (xCB fAll am) :=
  me_cb (fun _ => cr_all rfl) ck_all rfl hg hm ha (by decide) (by decide) he hpl
theorem bf_any (hg : D.sc.names.lookup ("any" : Str) = some .globalImplicit) (hm : D.mg "any" = none) (ha : MM D (e :: es) am)
    (he : ∀ env, starEach (e :: es) env = (false, eval e env) :: starEach es env := by exact fun _ => rfl) (hpl : ∀ env, (backTo pos (starEach es env)).any (·.1) = false := by exact fun _ => rfl) : ME D (.Call (.Name "any" p) (e :: es) [] pos) (xCB fAny am) :=
  me_cb (fun _ => cr_any rfl) ck_any rfl hg hm ha (by decide) (by decide) he hpl
theorem bf_divmod (hg : D.sc.names.lookup ("divmod" : Str) = some .globalImplicit) (hm : D.mg "divmod" = none) (ha : MM D (e :: es) am)
    (he : ∀ env, starEach (e :: es) env = (false, eval e env) :: starEach es env := by exact fun _ => rfl) (hpl : ∀ env, (backTo pos (starEach es env)).any (·.1) = false := by exact fun _ => rfl) : ME D (.Call (.Name "divmod" p) (e :: es) [] pos) (xCB fDivmod am) :=
  me_cb (fun _ => call_divmod) ck_divmod rfl hg hm ha (by decide) (by decide) he hpl
theorem bf_int (hg : D.sc.names.lookup ("int" : Str) = some .globalImplicit) (hm : D.mg "int" = none) (ha : MM D (e :: es) am)
    (he : ∀ env, starEach (e :: es) env = (false, eval e env) :: starEach es env := by exact fun _ => rfl) (hpl : ∀ env, (backTo pos (starEach es env)).any (·.1) = false := by exact fun _ => rfl) : ME D (.Call (.Name "int" p) (e :: es) [] pos) (xCB fInt am) :=
  me_ct (fun _ => call_int1) ck_int rfl hg hm ha (by decide) (by decide) he hpl
theorem bf_tuple (hg : D.sc.names.lookup ("tuple" : Str) = some .globalImplicit) (hm : D.mg "tuple" = none) (ha : MM D (e :: es) am)
    (he : ∀ env, starEach (e :: es) env = (false, eval e env) :: starEach es env := by exact fun _ => rfl) (hpl : ∀ env, (backTo pos (starEach es env)).any (·.1) = false := by exact fun _ => rfl) : ME D (.Call (.Name "tuple" p) (e :: es) [] pos) (xCB fTuple am) :=
  me_ct (fun _ => call_tuple_of) ck_tuple rfl hg hm ha (by decide) (by decide) he hpl
theorem bf_list (hg : D.sc.names.lookup ("list" : Str) = some .globalImplicit) (hm : D.mg "list" = none) (ha : MM D (e :: es) am)
    (he : ∀ env, starEach (e :: es) env = (false, eval e env) :: starEach es env := by exact fun _ => rfl) (hpl : ∀ env, (backTo pos (starEach es env)).any (·.1) = false := by exact fun _ => rfl) : MN D (.Call (.Name "list" p) (e :: es) [] pos) (xCB fList am) :=
  mn_ct (fun _ => call_list_of) nk_list rfl hg hm ha (by decide) (by decide) he hpl
theorem bf_sorted (hg : D.sc.names.lookup ("sorted" : Str) = some .globalImplicit) (hm : D.mg "sorted" = none) (ha : MM D (e :: es) am)
    (he : ∀ env, starEach (e :: es) env = (false, eval e env) :: starEach es env := by exact fun _ => rfl) (hpl : ∀ env, (backTo pos (starEach es env)).any (·.1) = false := by exact fun _ => rfl) : MN D (.Call (.Name "sorted" p) (e :: es) [] pos) (xCB fSort am) :=
  mn_cb (fun _ => cr_sortedT) nk_sort rfl hg hm ha (by decide) (by decide) he hpl
end
end M3
/-! M3, part r: the rules as gen.py prints them: places and kinds of names found by themselves. -/
namespace M3
open PySem PySem.Spec PyProof.Rows L2
section
variable {D : Dat} {e a b c tg : Expr} {es : List Expr} {m ma mb mc mk : XM} {am : AM} {pos p p1 p' py : Pos} {x y : Str} {k : Nat} {st dst : Stmt} {sts : List Stmt} {ms : SM} {ps : List Str}
theorem ev_ (i : Nat) (hN : D.N[i]? = some x := by rfl) (hv : Vis D.sc x := by first | exact .inl rfl | exact .inr (.inl rfl) | exact .inr (.inr rfl)) (hd : (x == ("__debug__" : Str)) = false := by decide) (hcd : (x == ("__classdict__" : Str)) = false := by decide) : ME D (.Name x pos) (xVar i) := me_var i hN hv hd hcd
theorem eo_ (i : Nat) (hN : D.N[i]? = some x := by rfl) (hv : Vis D.sc x := by first | exact .inl rfl | exact .inr (.inl rfl) | exact .inr (.inr rfl)) (hd : (x == ("__debug__" : Str)) = false := by decide) (hcd : (x == ("__classdict__" : Str)) = false := by decide) : MB D (.Name x pos) (xOwn i) := mb_own i hN hv hd hcd
theorem gn_ (nd : D.N.Nodup) (i : Nat) (hN : D.N[i]? = some x := by rfl) (hx : Loc D.sc x := by first | exact .inl rfl | exact .inr rfl) (hf : D.fn x = true ∨ D.sc.names.lookup x = some .local := by first | exact .inl rfl | exact .inr rfl) : MG D (.Name x pos) [i] (gNm i) := mg_name i nd hN hx hf
theorem co_lt (i : Nat) (hb : MB D b mb) (hN : D.N[i]? = some x := by rfl) (hv : Vis D.sc x := by first | exact .inl rfl | exact .inr (.inl rfl) | exact .inr (.inr rfl)) (hd : (x == ("__debug__" : Str)) = false := by decide) (hcd : (x == ("__classdict__" : Str)) = false := by decide) : ME D (.Compare (.Name x p) [.Lt] [b] pos) (x2o oLt i mb) := ceo_lt i hN hv hb hd hcd
theorem to_lt (i : Nat) (hb : MB D b mb) (hN : D.N[i]? = some x := by rfl) (hv : Vis D.sc x := by first | exact .inl rfl | exact .inr (.inl rfl) | exact .inr (.inr rfl)) (hd : (x == ("__debug__" : Str)) = false := by decide) (hcd : (x == ("__classdict__" : Str)) = false := by decide) : MT D (.Compare (.Name x p) [.Lt] [b] pos) (tBl (x2o oLt i mb)) := cto_lt i hN hv hb hd hcd
theorem co_le (i : Nat) (hb : MB D b mb) (hN : D.N[i]? = some x := by rfl) (hv : Vis D.sc x := by first | exact .inl rfl | exact .inr (.inl rfl) | exact .inr (.inr rfl)) (hd : (x == ("__debug__" : Str)) = false := by decide) (hcd : (x == ("__classdict__" : Str)) = false := by decide) : ME D (.Compare (.Name x p) [.LtE] [b] pos) (x2o oLe i mb) := ceo_le i hN hv hb hd hcd
theorem to_le (i : Nat) (hb : MB D b mb) (hN : D.N[i]? = some x := by rfl) (hv : Vis D.sc x := by first | exact .inl rfl | exact .inr (.inl rfl) | exact .inr (.inr rfl)) (hd : (x == ("__debug__" : Str)) = false := by decide) (hcd : (x == ("__classdict__" : Str)) = false := by decide) : MT D (.Compare (.Name x p) [.LtE] [b] pos) (tBl (x2o oLe i mb)) := cto_le i hN hv hb hd hcd
theorem co_gt (i : Nat) (hb : MB D b mb) (hN : D.N[i]? = some x := by rfl) (hv : Vis D.sc x := by first | exact .inl rfl | exact .inr (.inl rfl) | exact .inr (.inr rfl)) (hd : (x == ("__debug__" : Str)) = false := by decide) (hcd : (x == ("__classdict__" : Str)) = false := by decide) : ME D (.Compare (.Name x p) [.Gt] [b] pos) (x2o oGt i mb) := ceo_gt i hN hv hb hd hcd
theorem to_gt (i : Nat) (hb : MB D b mb) (hN : D.N[i]? = some x := by rfl) (hv : Vis D.sc x := by first | exact .inl rfl | exact .inr (.inl rfl) | exact .inr (.inr rfl)) (hd : (x == ("__debug__" : Str)) = false := by decide) (hcd : (x == ("__classdict__" : Str)) = false := by decide) : MT D (.Compare (.Name x p) [.Gt] [b] pos) (tBl (x2o oGt i mb)) := cto_gt i hN hv hb hd hcd
theorem co_ge (i : Nat) (hb : MB D b mb) (hN : D.N[i]? = some x := by rfl) (hv : Vis D.sc x := by first | exact .inl rfl | exact .inr (.inl rfl) | exact .inr (.inr rfl)) (hd : (x == ("__debug__" : Str)) = false := by decide) (hcd : (x == ("__classdict__" : Str)) = false := by decide) : ME D (.Compare (.Name x p) [.GtE] [b] pos) (x2o oGe i mb) := ceo_ge i hN hv hb hd hcd
theorem to_ge (i : Nat) (hb : MB D b mb) (hN : D.N[i]? = some x := by rfl) (hv : Vis D.sc x := by first | exact .inl rfl | exact .inr (.inl rfl) | exact .inr (.inr rfl)) (hd : (x == ("__debug__" : Str)) = false := by decide) (hcd : (x == ("__classdict__" : Str)) = false := by decide) : MT D (.Compare (.Name x p) [.GtE] [b] pos) (tBl (x2o oGe i mb)) := cto_ge i hN hv hb hd hcd
theorem co_eq (i : Nat) (hr : Room k D.A) (hb : MB D b mb) (hN : D.N[i]? = some x := by rfl) (hv : Vis D.sc x := by first | exact .inl rfl | exact .inr (.inl rfl) | exact .inr (.inr rfl)) (hd : (x == ("__debug__" : Str)) = false := by decide) (hcd : (x == ("__classdict__" : Str)) = false := by decide) : ME D (.Compare (.Name x p) [.Eq] [b] pos) (x2o oEqA i mb) := ceo_eq i hr hN hv hb hd hcd
theorem to_eq (i : Nat) (hr : Room k D.A) (hb : MB D b mb) (hN : D.N[i]? = some x := by rfl) (hv : Vis D.sc x := by first | exact .inl rfl | exact .inr (.inl rfl) | exact .inr (.inr rfl)) (hd : (x == ("__debug__" : Str)) = false := by decide) (hcd : (x == ("__classdict__" : Str)) = false := by decide) : MT D (.Compare (.Name x p) [.Eq] [b] pos) (tBl (x2o oEqA i mb)) := cto_eq i hr hN hv hb hd hcd
theorem co_ne (i : Nat) (hr : Room k D.A) (hb : MB D b mb) (hN : D.N[i]? = some x := by rfl) (hv : Vis D.sc x := by first | exact .inl rfl | exact .inr (.inl rfl) | exact .inr (.inr rfl)) (hd : (x == ("__debug__" : Str)) = false := by decide) (hcd : (x == ("__classdict__" : Str)) = false := by decide) : ME D (.Compare (.Name x p) [.NotEq] [b] pos) (x2o oNeA i mb) := ceo_ne i hr hN hv hb hd hcd
theorem to_ne (i : Nat) (hr : Room k D.A) (hb : MB D b mb) (hN : D.N[i]? = some x := by rfl) (hv : Vis D.sc x := by first | exact .inl rfl | exact .inr (.inl rfl) | exact .inr (.inr rfl)) (hd : (x == ("__debug__" : Str)) = false := by decide) (hcd : (x == ("__classdict__" : Str)) = false := by decide) : MT D (.Compare (.Name x p) [.NotEq] [b] pos) (tBl (x2o oNeA i mb)) := cto_ne i hr hN hv hb hd hcd
theorem co_is (i : Nat) (hb : MB D b mb) (hN : D.N[i]? = some x := by rfl) (hv : Vis D.sc x := by first | exact .inl rfl | exact .inr (.inl rfl) | exact .inr (.inr rfl)) (hd : (x == ("__debug__" : Str)) = false := by decide) (hcd : (x == ("__classdict__" : Str)) = false := by decide) : ME D (.Compare (.Name x p) [.Is] [b] pos) (x2o oIs i mb) := ceo_is i hN hv hb hd hcd
theorem to_is (i : Nat) (hb : MB D b mb) (hN : D.N[i]? = some x := by rfl) (hv : Vis D.sc x := by first | exact .inl rfl | exact .inr (.inl rfl) | exact .inr (.inr rfl)) (hd : (x == ("__debug__" : Str)) = false := by decide) (hcd : (x == ("__classdict__" : Str)) = false := by decide) : MT D (.Compare (.Name x p) [.Is] [b] pos) (tBl (x2o oIs i mb)) := cto_is i hN hv hb hd hcd
theorem co_isnot (i : Nat) (hb : MB D b mb) (hN : D.N[i]? = some x := by rfl) (hv : Vis D.sc x := by first | exact .inl rfl | exact .inr (.inl rfl) | exact .inr (.inr rfl)) (hd : (x == ("__debug__" : Str)) = false := by decide) (hcd : (x == ("__classdict__" : Str)) = false := by decide) : ME D (.Compare (.Name x p) [.IsNot] [b] pos) (x2o oIsNot i mb) := ceo_isnot i hN hv hb hd hcd
theorem to_isnot (i : Nat) (hb : MB D b mb) (hN : D.N[i]? = some x := by rfl) (hv : Vis D.sc x := by first | exact .inl rfl | exact .inr (.inl rfl) | exact .inr (.inr rfl)) (hd : (x == ("__debug__" : Str)) = false := by decide) (hcd : (x == ("__classdict__" : Str)) = false := by decide) : MT D (.Compare (.Name x p) [.IsNot] [b] pos) (tBl (x2o oIsNot i mb)) := cto_isnot i hN hv hb hd hcd
theorem co_in (i : Nat) (hr : Room k D.A) (hb : MB D b mb) (hN : D.N[i]? = some x := by rfl) (hv : Vis D.sc x := by first | exact .inl rfl | exact .inr (.inl rfl) | exact .inr (.inr rfl)) (hmk : behindInMarks .In b = false := by with_unfolding_all rfl) (hd : (x == ("__debug__" : Str)) = false := by decide) (hcd : (x == ("__classdict__" : Str)) = false := by decide) : ME D (.Compare (.Name x p) [.In] [b] pos) (x2o oInA i mb) := ceo_in i hr hN hv hb hmk hd hcd
theorem to_in (i : Nat) (hr : Room k D.A) (hb : MB D b mb) (hN : D.N[i]? = some x := by rfl) (hv : Vis D.sc x := by first | exact .inl rfl | exact .inr (.inl rfl) | exact .inr (.inr rfl)) (hmk : behindInMarks .In b = false := by with_unfolding_all rfl) (hd : (x == ("__debug__" : Str)) = false := by decide) (hcd : (x == ("__classdict__" : Str)) = false := by decide) : MT D (.Compare (.Name x p) [.In] [b] pos) (tBl (x2o oInA i mb)) := cto_in i hr hN hv hb hmk hd hcd
theorem co_notin (i : Nat) (hr : Room k D.A) (hb : MB D b mb) (hN : D.N[i]? = some x := by rfl) (hv : Vis D.sc x := by first | exact .inl rfl | exact .inr (.inl rfl) | exact .inr (.inr rfl)) (hmk : behindInMarks .NotIn b = false := by with_unfolding_all rfl) (hd : (x == ("__debug__" : Str)) = false := by decide) (hcd : (x == ("__classdict__" : Str)) = false := by decide) : ME D (.Compare (.Name x p) [.NotIn] [b] pos) (x2o oNotInA i mb) := ceo_notin i hr hN hv hb hmk hd hcd
theorem to_notin (i : Nat) (hr : Room k D.A) (hb : MB D b mb) (hN : D.N[i]? = some x := by rfl) (hv : Vis D.sc x := by first | exact .inl rfl | exact .inr (.inl rfl) | exact .inr (.inr rfl)) (hmk : behindInMarks .NotIn b = false := by with_unfolding_all rfl) (hd : (x == ("__debug__" : Str)) = false := by decide) (hcd : (x == ("__classdict__" : Str)) = false := by decide) : MT D (.Compare (.Name x p) [.NotIn] [b] pos) (tBl (x2o oNotInA i mb)) := cto_notin i hr hN hv hb hmk hd hcd
theorem ix_o (i : Nat) (hb : MB D b mb) (hN : D.N[i]? = some x := by rfl) (hv : Vis D.sc x := by first | exact .inl rfl | exact .inr (.inl rfl) | exact .inr (.inr rfl)) (hs : PlainIx b := by exact fun _ _ => rfl) (hd : (x == ("__debug__" : Str)) = false := by decide) (hcd : (x == ("__classdict__" : Str)) = false := by decide) : ME D (.Subscript (.Name x p) b pos) (x2o oIxA i mb) := ex_ixo i hN hv hb hs hd hcd
theorem sl_o {lo hi : Option Expr} {ml mu : OM} {p2 : Pos} (i : Nat) (hl : MO D lo ml) (hu : MO D hi mu) (hN : D.N[i]? = some x := by rfl) (hv : Vis D.sc x := by first | exact .inl rfl | exact .inr (.inl rfl) | exact .inr (.inr rfl)) (hd : (x == ("__debug__" : Str)) = false := by decide) (hcd : (x == ("__classdict__" : Str)) = false := by decide) : ME D (.Subscript (.Name x p) (.Slice lo hi none p2) pos) (xSlo i ml mu) := me_slo i hN hv hl hu hd hcd
theorem gs_ (i : Nat) (hk : ME D e mk) (hN : D.N[i]? = some x := by rfl) (hv : Vis D.sc x := by first | exact .inl rfl | exact .inr (.inl rfl) | exact .inr (.inr rfl))
    (ha : ∀ env v, assign (.Subscript (.Name x p1) e pos) env v = (do
      let ov ← holding [v] (eval (.Name x p1) env)
      let iv ← holding [v, ov] (eval e env)
      standAt pos
      holding [v, ov, iv] (setItem ov iv v)
      release [v, ov, iv] []) := by exact fun _ _ => rfl) (hd : (x == ("__debug__" : Str)) = false := by decide) (hcd : (x == ("__classdict__" : Str)) = false := by decide) : MG D (.Subscript (.Name x p1) e pos) [] (gSbA i mk) := mg_subA i hN hv hk ha hd hcd
theorem mo_ {r : AM} (i : Nat) (h2 : MM D es r) (hN : D.N[i]? = some x := by rfl) (hv : Vis D.sc x := by first | exact .inl rfl | exact .inr (.inl rfl) | exact .inr (.inr rfl)) (hs : ∀ v : Vr, starEach (.Name x py :: es) (D.cx v).env = (false, eval (.Name x py) (D.cx v).env) :: starEach es (D.cx v).env := by intro _; rfl) (hd : (x == ("__debug__" : Str)) = false := by decide) (hcd : (x == ("__classdict__" : Str)) = false := by decide) : MM D (.Name x py :: es) (aOwn i r) := mm_own i hN hv h2 hs hd hcd
theorem kP_ {n : Nat} {g : List T → R T} (F : D.fx k x dst ps (spP D.K D.mg n g)) (hr : Room k D.A) (hb : BindsAll x dst ps) (ha : MA D (e :: es) am) (hg : D.sc.names.lookup x = some .globalImplicit := by rfl) (hdb : (x == ("__debug__" : Str)) = false := by decide) (he : ∀ env, starEach (e :: es) env = (false, eval e env) :: starEach es env := by exact fun _ => rfl) (hpl : ∀ env, (backTo pos (starEach es env)).any (·.1) = false := by exact fun _ => rfl) : ME D (.Call (.Name x p) (e :: es) [] pos) (xCall n g am) := xe_call F hr hb hg ha hdb he hpl
theorem kB_ {n : Nat} {g : List T → R T} (F : D.fx k x dst ps (spP D.K D.mg n g)) (hr : Room k D.A) (hb : BindsAll x dst ps) (ha : MM D (e :: es) am) (hg : D.sc.names.lookup x = some .globalImplicit := by rfl) (hdb : (x == ("__debug__" : Str)) = false := by decide) (he : ∀ env, starEach (e :: es) env = (false, eval e env) :: starEach es env := by exact fun _ => rfl) (hpl : ∀ env, (backTo pos (starEach es env)).any (·.1) = false := by exact fun _ => rfl) : ME D (.Call (.Name x p) (e :: es) [] pos) (xCallB n g am) := xe_callB F hr hb hg ha hdb he hpl
theorem kN_ {n : Nat} {g : List T → R T} (F : D.fx k x dst ps (spN D.K D.mg n g)) (hr : Room k D.A) (hb : BindsAll x dst ps) (ha : MA D (e :: es) am) (hg : D.sc.names.lookup x = some .globalImplicit := by rfl) (hdb : (x == ("__debug__" : Str)) = false := by decide) (he : ∀ env, starEach (e :: es) env = (false, eval e env) :: starEach es env := by exact fun _ => rfl) (hpl : ∀ env, (backTo pos (starEach es env)).any (·.1) = false := by exact fun _ => rfl) : MN D (.Call (.Name x p) (e :: es) [] pos) (xCall n g am) := xn_call F hr hb hg ha hdb he hpl
theorem kP0_ {g : List T → R T} (F : D.fx k x dst ps (spP D.K D.mg 0 g)) (hr : Room k D.A) (hb : BindsAll x dst ps) (hg : D.sc.names.lookup x = some .globalImplicit := by rfl) (hdb : (x == ("__debug__" : Str)) = false := by decide) : ME D (.Call (.Name x p) [] [] pos) (xCall 0 g aNil) := xe_call0 F hr hb hg hdb
theorem kI_ {n : Nat} {g : T → List T → R (T × T)} (i : Nat) (F : D.fx k x dst ps (spI D.K D.mg n g)) (hr : Room k D.A) (hb : BindsAll x dst ps) (ha : MA D es am) (hg : D.sc.names.lookup x = some .globalImplicit := by rfl) (hN : D.N[i]? = some y := by rfl) (hv : Vis D.sc y := by first | exact .inl rfl | exact .inr (.inl rfl) | exact .inr (.inr rfl)) (hdb : (x == ("__debug__" : Str)) = false := by decide)
    (he : ∀ env, starEach (.Name y py :: es) env = (false, eval (.Name y py) env) :: starEach es env := by exact fun _ => rfl) (hpl : ∀ env, (backTo pos (starEach es env)).any (·.1) = false := by exact fun _ => rfl) (hd : (y == ("__debug__" : Str)) = false := by decide) (hcd : (y == ("__classdict__" : Str)) = false := by decide) :
    ME D (.Call (.Name x p) (.Name y py :: es) [] pos) (xCallI n i g am) := xe_callI i F hr hb hg hN hv ha hdb he hpl hd hcd
theorem kF_ {n : Nat} {g : T → List T → R (T × T)} (F : D.fx k x dst ps (spI D.K D.mg n g)) (hr : Room k D.A) (hb : BindsAll x dst ps) (h1 : MN D e m) (ha : MA D es am) (hg : D.sc.names.lookup x = some .globalImplicit := by rfl) (hdb : (x == ("__debug__" : Str)) = false := by decide) (he : ∀ env, starEach (e :: es) env = (false, eval e env) :: starEach es env := by exact fun _ => rfl) (hpl : ∀ env, (backTo pos (starEach es env)).any (·.1) = false := by exact fun _ => rfl) : ME D (.Call (.Name x p) (e :: es) [] pos) (xCallF n g m am) := xe_callF F hr hb hg h1 ha hdb he hpl
theorem kK_ {n : Nat} {perm : List Nat} {ks : List Str} {kws : List Keyword} {g : List T → R T} {ak : AM} (F : D.fx k x dst ps (spP D.K D.mg n g)) (hr : Room k D.A) (hb : BindsK x dst ps (e :: es).length ks perm) (ha : MA D (e :: es) am) (hk : MK D kws ak) (hg : D.sc.names.lookup x = some .globalImplicit := by rfl) (hall : ∀ env, (backToKw pos (keywordEach kws env)).all (·.1.isSome) = true := by exact fun _ => rfl) (hks : ∀ env, (backToKw pos (keywordEach kws env)).filterMap (·.1) = ks := by exact fun _ => rfl) (hdb : (x == ("__debug__" : Str)) = false := by decide) (he : ∀ env, starEach (e :: es) env = (false, eval e env) :: starEach es env := by exact fun _ => rfl)
    (hpl : ∀ env, ((backTo pos (starEach (e :: es) env)).any (·.1) || (backToKw pos (keywordEach kws env)).any (·.1.isNone)) = false := by exact fun _ => rfl) : ME D (.Call (.Name x p) (e :: es) kws pos) (xCallK n (e :: es).length ks.length perm g am ak) := xe_callK F hr hb hg ha hk hall hks hdb he hpl
theorem kK0_ {n : Nat} {perm : List Nat} {ks : List Str} {kws : List Keyword} {g : List T → R T} {ak : AM} (F : D.fx k x dst ps (spP D.K D.mg n g)) (hr : Room k D.A) (hb : BindsK x dst ps 0 ks perm) (hk : MK D kws ak) (hg : D.sc.names.lookup x = some .globalImplicit := by rfl) (hall : ∀ env, (backToKw pos (keywordEach kws env)).all (·.1.isSome) = true := by exact fun _ => rfl) (hks : ∀ env, (backToKw pos (keywordEach kws env)).filterMap (·.1) = ks := by exact fun _ => rfl) (hdb : (x == ("__debug__" : Str)) = false := by decide)
    (hpl : ∀ env, ((backTo pos (starEach [] env)).any (·.1) || (backToKw pos (keywordEach kws env)).any (·.1.isNone)) = false := by exact fun _ => rfl) : ME D (.Call (.Name x p) [] kws pos) (xCallK n 0 ks.length perm g aNil ak) := xe_callK0 F hr hb hg hk hall hks hdb hpl
theorem m_app (i : Nat) (ha : MA D (e :: es) am) (hN : D.N[i]? = some x := by rfl) (hv : Vis D.sc x := by first | exact .inl rfl | exact .inr (.inl rfl) | exact .inr (.inr rfl))
    (hbase : ∀ env, attributeBase (.Name x p) "append" env (eval (.Name x p) env) = eval (.Name x p) env := by exact fun _ => rfl)
    (hfew : ∀ env, ((backTo pos (starEach (e :: es) env)).all (fun x => !x.1) && (backToKw pos (keywordEach [] env)).all (fun x => x.1.isSome)
      && decide ((e :: es).length + ([] : List Keyword).length + (if ([] : List Keyword).isEmpty then 0 else 1) < 30)) = true := by exact fun _ => rfl)
    (hline : (p1.endLine == pos.line) = true := by rfl) (hs : ∀ env, starEach (e :: es) env = (false, eval e env) :: starEach es env := by exact fun _ => rfl) (hplain : ∀ env, (backTo pos (starEach es env)).any (·.1) = false := by exact fun _ => rfl) (hd : (x == ("__debug__" : Str)) = false := by decide) (hcd : (x == ("__classdict__" : Str)) = false := by decide) :
    ME D (.Call (.Attribute (.Name x p) "append" p1) (e :: es) [] pos) (xOmT "list" i oApp am) := me_om i PySem.F.plainAttrs_list PySem.F.slot_list_append PySem.F.type_list_append (fun v => mt_append) own_app hN hv ha hbase hfew hline hs hplain hd hcd
theorem m_ext (i : Nat) (ha : MA D (e :: es) am) (hN : D.N[i]? = some x := by rfl) (hv : Vis D.sc x := by first | exact .inl rfl | exact .inr (.inl rfl) | exact .inr (.inr rfl))
    (hbase : ∀ env, attributeBase (.Name x p) "extend" env (eval (.Name x p) env) = eval (.Name x p) env := by exact fun _ => rfl)
    (hfew : ∀ env, ((backTo pos (starEach (e :: es) env)).all (fun x => !x.1) && (backToKw pos (keywordEach [] env)).all (fun x => x.1.isSome)
      && decide ((e :: es).length + ([] : List Keyword).length + (if ([] : List Keyword).isEmpty then 0 else 1) < 30)) = true := by exact fun _ => rfl)
    (hline : (p1.endLine == pos.line) = true := by rfl) (hs : ∀ env, starEach (e :: es) env = (false, eval e env) :: starEach es env := by exact fun _ => rfl) (hplain : ∀ env, (backTo pos (starEach es env)).any (·.1) = false := by exact fun _ => rfl) (hd : (x == ("__debug__" : Str)) = false := by decide) (hcd : (x == ("__classdict__" : Str)) = false := by decide) :
    ME D (.Call (.Attribute (.Name x p) "extend" p1) (e :: es) [] pos) (xOmT "list" i oExt am) := me_om i PySem.F.plainAttrs_list PySem.F.slot_list_extend PySem.F.type_list_extend (fun v => mt_extend) own_ext hN hv ha hbase hfew hline hs hplain hd hcd
theorem m_popAt (i : Nat) (ha : MA D (e :: es) am) (hN : D.N[i]? = some x := by rfl) (hv : Vis D.sc x := by first | exact .inl rfl | exact .inr (.inl rfl) | exact .inr (.inr rfl))
    (hbase : ∀ env, attributeBase (.Name x p) "pop" env (eval (.Name x p) env) = eval (.Name x p) env := by exact fun _ => rfl)
    (hfew : ∀ env, ((backTo pos (starEach (e :: es) env)).all (fun x => !x.1) && (backToKw pos (keywordEach [] env)).all (fun x => x.1.isSome)
      && decide ((e :: es).length + ([] : List Keyword).length + (if ([] : List Keyword).isEmpty then 0 else 1) < 30)) = true := by exact fun _ => rfl)
    (hline : (p1.endLine == pos.line) = true := by rfl) (hs : ∀ env, starEach (e :: es) env = (false, eval e env) :: starEach es env := by exact fun _ => rfl) (hplain : ∀ env, (backTo pos (starEach es env)).any (·.1) = false := by exact fun _ => rfl) (hd : (x == ("__debug__" : Str)) = false := by decide) (hcd : (x == ("__classdict__" : Str)) = false := by decide) :
    ME D (.Call (.Attribute (.Name x p) "pop" p1) (e :: es) [] pos) (xOmT "list" i oPopAt am) := me_om i PySem.F.plainAttrs_list PySem.F.slot_list_pop PySem.F.type_list_pop (fun v => mt_popAt) own_popAt hN hv ha hbase hfew hline hs hplain hd hcd
theorem m_pop (i : Nat) (hN : D.N[i]? = some x := by rfl) (hv : Vis D.sc x := by first | exact .inl rfl | exact .inr (.inl rfl) | exact .inr (.inr rfl)) (hbase : ∀ env, attributeBase (.Name x p) "pop" env (eval (.Name x p) env) = eval (.Name x p) env := by exact fun _ => rfl) (hline : (p1.endLine == pos.line) = true := by rfl) (hd : (x == ("__debug__" : Str)) = false := by decide) (hcd : (x == ("__classdict__" : Str)) = false := by decide) :
    ME D (.Call (.Attribute (.Name x p) "pop" p1) [] [] pos) (xOmT "list" i oPop aNil) := me_om0 i PySem.F.plainAttrs_list PySem.F.slot_list_pop PySem.F.type_list_pop (fun v => mt_pop) own_pop hN hv hbase hline hd hcd
theorem ss_ (nd : D.N.Nodup) (i : Nat) (h : ME D e m) (hN : D.N[i]? = some x := by rfl) (hx : Loc D.sc x := by first | exact .inl rfl | exact .inr rfl) (hs : ∀ v : Vr, swapsWith e (some (.Name x p')) pos.line (D.cx v).env = pure false := by exact fun _ => rfl) (hf : D.fn x = true ∨ D.sc.names.lookup x = some .local := by first | exact .inl rfl | exact .inr rfl) : MS D (.Assign [.Name x p'] e pos) (sSet i m) := ms_set i nd hN hx h hs hf
theorem sn_ (nd : D.N.Nodup) (i : Nat) (h : MN D e m) (hN : D.N[i]? = some x := by rfl) (hx : Loc D.sc x := by first | exact .inl rfl | exact .inr rfl) (hs : ∀ v : Vr, swapsWith e (some (.Name x p')) pos.line (D.cx v).env = pure false := by exact fun _ => rfl) (hf : D.fn x = true ∨ D.sc.names.lookup x = some .local := by first | exact .inl rfl | exact .inr rfl) : MS D (.Assign [.Name x p'] e pos) (sSetn i m) := ms_setn (man_of i nd hN hx h hs hf)
end
end M3
/-! M3, part w: what gen.py's print leans on besides. -/
namespace M3
open PySem PySem.Spec PyProof.Rows L2
section
variable {tk : Nat} {P : Program} {w : World} {K : PySem.W.Frag} {mg : Str → Option Value} {base : Heap} {x : Str} {st : Stmt} {ps : List Str} {k : Nat}
theorem ok_never {f : Addr} {fd : FuncData} {sp : Sp} (h : ∀ vs H Q E, ¬ sp vs H Q E) : FnOk tk P w K mg base (L2.CX P w) k f fd ps sp :=
  ⟨fun vs H Q E q => (h vs H Q E q).elim, fun A outer s H args us vs Q E _ _ _ _ _ q => (h vs H Q E q).elim⟩
theorem fx_neverP {n : Nat} (F : Df K mg x st) : FnX tk P w K mg base k x st ps (spP K mg n (fun _ => .no)) := by
  obtain ⟨f, fd, a, b⟩ := F.ex
  exact ⟨f, fd, ok_never fun vs H Q E q => by obtain ⟨_, W, ts, _, _, h⟩ := q; exact h, a, b⟩
theorem fx_neverN {n : Nat} (F : Df K mg x st) : FnX tk P w K mg base k x st ps (spN K mg n (fun _ => .no)) := by
  obtain ⟨f, fd, a, b⟩ := F.ex
  exact ⟨f, fd, ok_never fun vs H Q E q => by obtain ⟨_, W, ts, _, _, h⟩ := q; exact h, a, b⟩
theorem fx_neverI {n : Nat} (F : Df K mg x st) : FnX tk P w K mg base k x st ps (spI K mg n (fun _ _ => .no)) := by
  obtain ⟨f, fd, a, b⟩ := F.ex
  exact ⟨f, fd, ok_never fun vs H Q E q => by obtain ⟨_, W, a, t, vs', ts, _, _, _, _, _, h⟩ := q; exact h, a, b⟩
theorem df_mk {h : Heap} {f : Addr} {od an : Option Addr} {sl : Array (Option Value)} {oc kV dc pm cd ct : Value} (X : K.In h) (G : h.Ns mainGlobals mg)
    (a : PySem.W.nsIn K mainGlobals x = some (some (.ref f))) (l : K.lookup f = some ⟨oc, od, .func (PySem.W.fnOf x x (defArgs st) (defBody st) (defScope st) .none kV dc pm an cd ct), sl⟩) (c : PySem.W.codeIn K cd x = true) (kp : PySem.W.keepIn K (.ref f) = true) : Df K mg x st :=
  ⟨f, _, fun_mk l c kp, PySem.W.mg_of X G a⟩
end
section
variable {D : Dat} {pos p : Pos} {x : Str} {k : Nat} {st : Stmt} {ps : List Str}
theorem gk_int {i : Int} (hg : D.sc.names.lookup x = some .globalImplicit) (hm : ∃ t, D.mg x = some (.int i t)) (hd : (x == ("__debug__" : Str)) = false := by decide) : ME D (.Name x pos) (xC (.int i)) := by
  obtain ⟨t, e⟩ := hm
  exact me_glob (v := .int i) hg e ⟨t, rfl⟩ (fun _ _ => .int i) hd
theorem gk_str {z : Str} (cs : List Nat) (hg : D.sc.names.lookup x = some .globalImplicit) (hm : ∃ t, D.mg x = some (.str z t)) (hc : z.cps.toList = cs := by decide +kernel) (hl : okS cs = true := by decide +kernel) (hd : (x == ("__debug__" : Str)) = false := by decide) : ME D (.Name x pos) (xC (.str cs)) := by
  obtain ⟨t, e⟩ := hm
  subst hc
  refine me_glob (v := .str z) hg e ⟨t, rfl⟩ (fun W H => ?_) hd
  have q := Is.str (K := D.K) (W := W) (H := H) z.cps.toList hl
  rw [str_eta] at q
  exact q
theorem kN0_ {g : List T → R T} (F : D.fx k x st ps (spN D.K D.mg 0 g)) (hr : Room k D.A) (hb : BindsAll x st ps) (hg : D.sc.names.lookup x = some .globalImplicit := by rfl) (hdb : (x == ("__debug__" : Str)) = false := by decide) : MN D (.Call (.Name x p) [] [] pos) (xCall 0 g aNil) := by
  obtain ⟨f, fd, a, b⟩ := F.fnd hr
  exact mn_call0 a (b.binds hb) hg hdb
theorem vis_l {sc : Scope} (h : sc.names.lookup x = some .local ∨ sc.names.lookup x = some .cell ∨ sc.names.lookup x = some .free) : sc.names.lookup x = some .local ∨ sc.names.lookup x = some .cell ∨ sc.names.lookup x = some .free := h
end
end M3
/-! M3, part R: ranges of three ends; chains of other comparisons. -/
namespace M3
open PySem PySem.Spec PyProof.Rows L2
def rgW (a c : Int) (n : Nat) : List V := (List.range n).map fun (k : Nat) => V.int (a + k * c)
theorem vals_rgW {a c : Int} {n : Nat} {acc : Array Value} (h : ItemsOf (fun i v => ∃ t, v = .int (a + i * c) t) acc n) : Vals (rgW a c n) acc.toList := by
  have e : acc.toList.length = n := by rw [Array.length_toList]; exact h.1
  unfold rgW
  rw [← e]
  refine vals_of_get acc.toList _ fun j u hj => ?_
  obtain ⟨t, rfl⟩ := h.2 j u (by rw [← hj, Array.getElem?_toList])
  exact ⟨t, rfl⟩
theorem rgW_length (a c : Int) (n : Nat) : (rgW a c n).length = n := by simp [rgW]
def stI (a c : Int) (n : Nat) : List T := (List.range n).map fun (k : Nat) => T.int (a + k * c)
theorem rgW_is {K : PySem.W.Frag} {W : Addr → Prop} {H : Hp} (a c : Int) (n : Nat) : IsL K W H (rgW a c n) (stI a c n) := by
  unfold rgW stI
  induction List.range n with
  | nil => exact .nil
  | cons k l ih => exact .cons (.int _) ih
/-- going down by one: the items -/
def rg3 : List T → Option (Int × Nat)
  | [.int i, .int j, .int k] => if decide (k = -1) && rgOk j i then some (i, (i - j).toNat) else none
  | _ => none
def tDown (t : TA) : TE := fun σ H Q => t σ H fun vs H1 => ∃ (i j : Int), vs = [.int i, .int j, .int (-1)] ∧ RgOk j i ∧ ∀ p, H1 p = none → Q (.ref p) (upd H1 p (.tup (rgW i (-1) (i - j).toNat)))
def xDown (am : AM) : XM := fun env => (am env).bind fun (ts, e1) => match rg3 ts with
  | some (i, n) => .ok (.tup (stI i (-1) n), e1)
  | none => .no
section
variable {D : Dat} {a b c : Expr} {am : AM} {p p2 pos pos2 : Pos}
theorem vals3 {i j k : Int} {us : List Value} (r : Vals [.int i, .int j, .int k] us) : ∃ t1 t2 t3, us = [.int i t1, .int j t2, .int k t3] := by
  cases r with
  | cons r rr => cases rr with
    | cons r' rr => cases rr with
      | cons r'' rr =>
        cases rr
        obtain ⟨t, rfl⟩ := r
        obtain ⟨t', rfl⟩ := r'
        obtain ⟨t'', rfl⟩ := r''
        exact ⟨_, _, _, rfl⟩
theorem me_tupDown (hg : D.sc.names.lookup ("range" : Str) = some .globalImplicit) (hm : D.mg "range" = none) (hg2 : D.sc.names.lookup ("tuple" : Str) = some .globalImplicit) (hm2 : D.mg "tuple" = none) (ha : MA D [a, b, c] am)
    (hs : ∀ env, starEach [a, b, c] env = (false, eval a env) :: starEach [b, c] env := by exact fun _ => rfl) (hpl : ∀ env, (backTo pos (starEach [b, c] env)).any (·.1) = false := by exact fun _ => rfl)
    (na : ∀ env, starEach [.Call (.Name "range" p) [a, b, c] [] pos] env = (false, eval (.Call (.Name "range" p) [a, b, c] [] pos) env) :: starEach [] env := by exact fun _ => rfl) : ME D (.Call (.Name "tuple" p2) [.Call (.Name "range" p) [a, b, c] [] pos] [] pos2) (xDown am) := by
  obtain ⟨t, pa, k⟩ := ha
  refine ⟨tDown t, fun v gd => ⟨fun pins s σ H Q n I h => ?_⟩, fun G W M σ H env re Q q => k G W M σ H env re _ ?_⟩
  · refine Call_ (ld_blt I hg2 hm2 boot_tuple (PyProof.Rows.callWith_type1 (args_cons ?_ (na _)) (na _)))
    refine Call_ (ld_blt I hg hm boot_range (PyProof.Rows.callWith_type1 ((pa v gd).go n I h fun us s1 vs H1 n1 I1 r1 q1 => ?_) (hs _) (hpl _)))
    obtain ⟨i, j, rfl, ok, q⟩ := q1
    obtain ⟨t1, t2, t3, rfl⟩ := vals3 r1
    obtain ⟨b1, b2, b3, b4, b5⟩ := ok
    obtain ⟨c0, c1, c2, c3⟩ := RgC.neg (i := i) (j := j) (by omega) (by omega) (by omega) (by omega)
    refine call_range_3 c0 ?_ (.inl (PyProof.noPylong_small c1))
    refine args_nil ?_
    have I2 : Inv (D.cx v) pins σ H1 { s1 with heap := s1.heap.push { cls := .type "range", data := .fields #[.int i t1, .int j t2, .int (-1) t3] } } := I1.kept (t' := s1.toks) fun b o e => Heap.get?_push_of_some _ e
    refine call_tuple_range (n := (i - j).toNat) (I2.ok.hd rfl) (IsRange.new _ _ _ _ _ _ _) c2 c3 b5 fun h' tk acc hk hi => ?_
    have I3 : Inv (D.cx v) pins σ H1 { s1 with heap := h', toks := tk } := I2.kept hk
    exact ⟨.ref h'.objs.size, upd H1 h'.objs.size (.tup (rgW i (-1) (i - j).toNat)), I3.laid (t' := tk) (fun c o e => Heap.get?_push_of_some _ e) (Nat.le_refl _) (show ObjOk _ _ _ _ _ (.tup (rgW i (-1) (i - j).toNat)) from ⟨by rw [rgW_length]; exact Nat.le_trans b5 (by rw [sizeLine_eq]; decide), acc.toList, vals_rgW hi, by rw [Array.toArray_toList]; exact IsTup.new _ _⟩), rfl, q _ (I3.hok.fresh (Nat.le_refl _))⟩
  · unfold xDown at q
    cases z : am env with
    | ok w =>
      obtain ⟨ts, e1⟩ := w
      rw [z] at q
      intro vs H1 ev1 re1 l1
      dsimp only [R.bind] at q
      cases z2 : rg3 ts with
      | none => rw [z2] at q; exact (q : False).elim
      | some w2 =>
        obtain ⟨i, n⟩ := w2
        rw [z2] at q
        unfold rg3 at z2
        split at z2
        · rename_i i' j' k'
          split at z2
          · rename_i hk
            cases z2
            obtain ⟨hk1, hk2⟩ := Bool.and_eq_true_iff.mp hk
            have hk1 := of_decide_eq_true hk1
            subst hk1
            cases l1 with
            | cons x l => cases l with
              | cons y l => cases l with
                | cons z l =>
                  cases l; cases x; cases y; cases z
                  refine ⟨i, j', rfl, rgOk_of hk2, fun p hp => ?_⟩
                  have s := same_upd (o := .tup (rgW i (-1) (i - j').toNat)) hp
                  exact q _ _ (ev1.trans (.same s)) (re1.same s) (.tup (.of upd_same) (rgW_is _ _ _))
          · cases z2
        · cases z2
    | ex c t => rw [z] at q; exact q
    | no => rw [z] at q; exact q
end
section
variable {D : Dat} {k : Nat}
theorem ok_eqQ {K : PySem.W.Frag} : OpOK K (fun x y H Q => rEqD K x y H Q ∨ rEqDk false x y H Q) oEqA := ok_eqA ok_eq
theorem ok_neQ {K : PySem.W.Frag} : OpOK K (fun x y H Q => rNeD K x y H Q ∨ rEqDk true x y H Q) oNeA := ok_neA ok_ne
theorem opq_eq (hr : Room k D.A) : ∀ v, OpR (D.cx v) (compareOp .Eq) (fun x y H Q => rEqD D.K x y H Q ∨ rEqDk false x y H Q) := fun v => (op_eqD (X := D.cx v) (by have := hr.un; show D.A.units + 64 < cLine; omega)).or (op_eqDk (X := D.cx v) (by have := hr.un; show D.A.units < cLine; omega))
theorem opq_ne (hr : Room k D.A) : ∀ v, OpR (D.cx v) (compareOp .NotEq) (fun x y H Q => rNeD D.K x y H Q ∨ rEqDk true x y H Q) := fun v => (op_neD (X := D.cx v) (by have := hr.un; show D.A.units + 64 < cLine; omega)).or (op_neDk (X := D.cx v) (by have := hr.un; show D.A.units < cLine; omega))
end
end M3
/-! M3, part H: from a law's mirror to the promise that the law's own head asks for (no lower bound of the tokens). -/
namespace M3
open PySem PySem.Spec PyProof.Rows L2
/-- the law's promise -/
def spLaw (K : PySem.W.Frag) : Sp := fun vs H Q _ => ∃ (a : Addr) (ns : List Int), vs = [.ref a] ∧ SqL K H a (ns.map V.int) ∧ ns.length ≤ 63 ∧ ∀ v H', v = V.bl true → Q v H'
def scr (ns : List Int) : T := .frz (ns.map .int)
section
variable {P : Program} {w : World} {K : PySem.W.Frag} {mg : Str → Option Value} {base : Heap}
theorem isl_ints {W : Addr → Prop} {H : Hp} : ∀ ns : List Int, IsL K W H (ns.map V.int) (ns.map T.int)
  | [] => .nil
  | n :: r => .cons (.int n) (isl_ints r)
theorem spLaw_of {tk k : Nat} {f : Addr} {fd : FuncData} {x : Str} {g : List T → R T} (F : FnOk tk P w K mg base (L2.CX P w) k f fd [x] (spP K mg 1 g)) (h : ∀ ns : List Int, ns.length ≤ 63 → g [scr ns] = .ok (.bl true)) : FnOk tk P w K mg base (L2.CX P w) k f fd [x] (spLaw K) where
  len := fun vs H Q E h => by obtain ⟨a, ns, rfl, _⟩ := h; rfl
  run := fun A outer s H args us vs Q E ht hr he hb hv hs => by
    obtain ⟨a, ns, rfl, hS, hl, q⟩ := hs
    refine F.run A outer s H args us [.ref a] Q E ht hr he hb hv ⟨rfl, fun _ => False, [scr ns], fun _ z => z.elim, .cons (.frz ?_ (isl_ints ns)) .nil, ?_⟩
    · rcases hS with hS | hS
      · exact .inl ⟨fun z => z, hS⟩
      · exact .inr hS
    · rw [h ns hl]
      exact fun v H' _ i => q v H' (by cases i; rfl)
theorem ok_down {CX : CXT} {k : Nat} {f : Addr} {fd : FuncData} {ps : List Str} {sp : Sp} (F : FnOk 0 P w K mg base CX k f fd ps sp) : L2.FnOk P w K mg base CX k f fd ps sp :=
  ⟨F.len, fun A outer s H args us vs Q E => F.run A outer s H args us vs Q E (Nat.zero_le _)⟩
/-- the law's def, its promise over every base -/
theorem law_fd {tk k : Nat} {x y : Str} {st : Stmt} {fa : Addr} {g : List T → R T} (D : Df K mg x st) (hfa : mg x = some (.ref fa)) (hb : BindsAll x st [y]) (h : ∀ ns : List Int, ns.length ≤ 63 → g [scr ns] = .ok (.bl true))
    (X : ∀ base, K.In base → base.Ns mainGlobals mg → FnX tk P w K mg base k x st [y] (spP K mg 1 g)) :
    ∃ fd : FuncData, (∀ (s : Shared) (u : Value), BindsTo s fd ⟨[u], []⟩ [(y, u)]) ∧ ∀ base : Heap, K.In base → base.Ns mainGlobals mg → FnOk tk P w K mg base (L2.CX P w) k fa fd [y] (spLaw K) := by
  obtain ⟨f, fd, hF, hm⟩ := D.ex
  rw [hfa] at hm
  cases hm
  obtain ⟨oc, od, kV, doc, pm, an, cdv, ct, osl, rfl, hl, hc⟩ := hF.ex
  refine ⟨_, fun s u => .of_eq (hb kV doc pm an cdv ct [u] rfl), fun base kin hns => ?_⟩
  obtain ⟨f2, fd2, ok, F2, hm2⟩ := (X base kin hns).ex
  rw [hfa] at hm2
  cases hm2
  obtain ⟨oc2, od2, kV2, doc2, pm2, an2, cdv2, ct2, osl2, e2, hl2, hc2⟩ := F2.ex
  rw [hl] at hl2
  cases hl2
  exact spLaw_of ok h
theorem law_fd0 {k : Nat} {x y : Str} {st : Stmt} {fa : Addr} {g : List T → R T} (D : Df K mg x st) (hfa : mg x = some (.ref fa)) (hb : BindsAll x st [y]) (h : ∀ ns : List Int, ns.length ≤ 63 → g [scr ns] = .ok (.bl true))
    (X : ∀ base, K.In base → base.Ns mainGlobals mg → FnX 0 P w K mg base k x st [y] (spP K mg 1 g)) :
    ∃ fd : FuncData, (∀ (s : Shared) (u : Value), BindsTo s fd ⟨[u], []⟩ [(y, u)]) ∧ ∀ base : Heap, K.In base → base.Ns mainGlobals mg → L2.FnOk P w K mg base (L2.CX P w) k fa fd [y] (spLaw K) := by
  obtain ⟨fd, a, b⟩ := law_fd D hfa hb h X
  exact ⟨fd, a, fun base k1 k2 => ok_down (b base k1 k2)⟩
theorem cx_never {H : Hp} {s : Shared} {e : Value} {s' : Shared} (h : L2.CX P w [] H s (fun _ _ _ => False) e s') : False := by
  obtain ⟨_, _, _, _, _, _, _, _, _, _, _, _, z⟩ := h
  exact z
theorem cg_int {h : Heap} {x : Str} {i : Int} {t : Tok} (X : K.In h) (G : h.Ns mainGlobals mg) (a : PySem.W.nsIn K mainGlobals x = some (some (.int i t))) : ∃ t, mg x = some (.int i t) := ⟨t, PySem.W.mg_of X G a⟩
theorem cg_str {h : Heap} {x : Str} {z : Str} {t : Tok} (X : K.In h) (G : h.Ns mainGlobals mg) (a : PySem.W.nsIn K mainGlobals x = some (some (.str z t))) : ∃ t, mg x = some (.str z t) := ⟨t, PySem.W.mg_of X G a⟩
end
end M3
/-! M3, part S: mirrors read by simp. -/
namespace M3
open PySem PySem.Spec PyProof.Rows L2
@[simp] theorem bind_ok {α β : Type} (a : α) (f : α → R β) : (R.ok a).bind f = f a := rfl
@[simp] theorem bind_no {α β : Type} (f : α → R β) : (R.no : R α).bind f = .no := rfl
@[simp] theorem bind_ex {α β : Type} (c : String) (t : T) (f : α → R β) : (R.ex c t : R α).bind f = .ex c t := rfl
theorem bind_congr {α β : Type} {m m' : R α} (f : α → R β) (h : m = m') : m.bind f = m'.bind f := by rw [h]
@[simp] theorem oSub_ap (a b : T) : oSub a b = oI (fun i j => some (.int (i - j))) a b := rfl
@[simp] theorem oFdiv_ap (a b : T) : oFdiv a b = oI (fun i j => if 0 < j ∧ j < 1073741824 then some (.int (i / j)) else none) a b := rfl
@[simp] theorem oMod_ap (a b : T) : oMod a b = oI (fun i j => if 0 < j then some (.int (i % j)) else none) a b := rfl
@[simp] theorem oLt_ap (a b : T) : oLt a b = oI (fun i j => some (.bl (decide (i < j)))) a b := rfl
@[simp] theorem oLe_ap (a b : T) : oLe a b = oI (fun i j => some (.bl (decide (i ≤ j)))) a b := rfl
@[simp] theorem oGt_ap (a b : T) : oGt a b = oI (fun i j => some (.bl (decide (j < i)))) a b := rfl
@[simp] theorem oGe_ap (a b : T) : oGe a b = oI (fun i j => some (.bl (decide (j ≤ i)))) a b := rfl
@[simp] theorem eq_int (i j : Int) : T.eq (.int i) (.int j) = (i == j) := by unfold T.eq; rfl
@[simp] theorem eq_str (i j : List Nat) : T.eq (.str i) (.str j) = eqN i j := by unfold T.eq; rfl
@[simp] theorem eq_tup (i j : List T) : T.eq (.tup i) (.tup j) = T.eqs i j := by conv => lhs; unfold T.eq
@[simp] theorem eq_lst (i j : List T) : T.eq (.lst i) (.lst j) = T.eqs i j := by conv => lhs; unfold T.eq
@[simp] theorem eq_non : T.eq .non .non = true := by unfold T.eq; rfl
@[simp] theorem eq_bl (i j : Bool) : T.eq (.bl i) (.bl j) = (i == j) := by unfold T.eq; rfl
@[simp] theorem eqs_nil : T.eqs [] [] = true := by unfold T.eqs; rfl
@[simp] theorem eqs_cons (x y : T) (xs ys : List T) : T.eqs (x :: xs) (y :: ys) = (T.eq x y && T.eqs xs ys) := by conv => lhs; unfold T.eqs
@[simp] theorem eqs_nc (y : T) (ys : List T) : T.eqs [] (y :: ys) = false := by unfold T.eqs; rfl
@[simp] theorem eqs_cn (y : T) (ys : List T) : T.eqs (y :: ys) [] = false := by unfold T.eqs; rfl
@[simp] theorem flat_int (n : Nat) (i : Int) : T.flat n (.int i) = true := by cases n <;> (unfold T.flat; rfl)
@[simp] theorem flat_str (n : Nat) (i : List Nat) : T.flat n (.str i) = true := by cases n <;> (unfold T.flat; rfl)
@[simp] theorem flat_non (n : Nat) : T.flat n .non = true := by cases n <;> (unfold T.flat; rfl)
@[simp] theorem flat_bl (n : Nat) (i : Bool) : T.flat n (.bl i) = true := by cases n <;> (unfold T.flat; rfl)
@[simp] theorem flat_tup (n : Nat) (ts : List T) : T.flat (n + 1) (.tup ts) = T.flats n ts := by conv => lhs; unfold T.flat
@[simp] theorem flat_lst (n : Nat) (ts : List T) : T.flat (n + 1) (.lst ts) = T.flats n ts := by conv => lhs; unfold T.flat
@[simp] theorem flat_tup60 (ts : List T) : T.flat 60 (.tup ts) = T.flats 59 ts := flat_tup 59 ts
@[simp] theorem flat_lst60 (ts : List T) : T.flat 60 (.lst ts) = T.flats 59 ts := flat_lst 59 ts
@[simp] theorem flat_tup59 (ts : List T) : T.flat 59 (.tup ts) = T.flats 58 ts := flat_tup 58 ts
@[simp] theorem flat_lst59 (ts : List T) : T.flat 59 (.lst ts) = T.flats 58 ts := flat_lst 58 ts
@[simp] theorem flats_nil (n : Nat) : T.flats n [] = true := by cases n <;> (unfold T.flats; rfl)
@[simp] theorem flats_cons (n : Nat) (t : T) (ts : List T) : T.flats n (t :: ts) = (T.flat n t && T.flats n ts) := by cases n <;> (conv => lhs; unfold T.flats)
@[simp] theorem ixN_sm (n : Nat) (i : Int) : ixN n i = (if 0 ≤ i then if i < (n : Int) then some i.toNat else none else if -(n : Int) ≤ i then some (i + (n : Int)).toNat else none) := rfl
@[simp] theorem atI_sm {α : Type} (xs : List α) (i : Int) : atI xs i = Option.bind (ixN xs.length i) fun j => xs[j]? := rfl
theorem T.ty_tup (ts : List T) : (T.tup ts).ty = "tuple" := rfl
@[simp] theorem isT_1 (y : Ty) (ts : List T) : isT y (.tup ts) = (match y with | .tuple => true | _ => false) := by cases y <;> rfl
@[simp] theorem isT_2 (y : Ty) : isT y .non = false := by cases y <;> rfl
@[simp] theorem isT_3 (y : Ty) (b : Bool) : isT y (.bl b) = (match y with | .int => true | .bool => true | _ => false) := by cases y <;> rfl
@[simp] theorem isT_4 (y : Ty) (i : Int) : isT y (.int i) = (match y with | .int => true | _ => false) := by cases y <;> rfl
@[simp] theorem isT_5 (y : Ty) (s : List Nat) : isT y (.str s) = (match y with | .str => true | _ => false) := by cases y <;> rfl
@[simp] theorem isT_6 (y : Ty) (ts : List T) : isT y (.lst ts) = (match y with | .list => true | _ => false) := by cases y <;> rfl
@[simp] theorem isT_7 (y : Ty) (ts : List T) : isT y (.frz ts) = (match y with | .list => true | _ => false) := by cases y <;> rfl
end M3
namespace M3
open PySem PySem.Spec PyProof.Rows L2
theorem lcM_fm {vs : List Nat} {g : GM} {tm : TM} {bm : BM} (F : T → List T) {env : EnvM} : ∀ {ts : List T}, (∀ t ∈ ts, ∃ e1, g t env = .ok e1 ∧ ((∃ e2, tm e1 = .ok (false, e2) ∧ wipeM vs e2 = env ∧ F t = []) ∨ (∃ e2 e3, tm e1 = .ok (true, e2) ∧ bm e2 = .ok (F t, e3) ∧ wipeM vs e3 = env))) → lcM vs g tm bm ts env = .ok (ts.flatMap F, env)
  | [], _ => rfl
  | t :: ts, h => by
    have ih := lcM_fm F (env := env) (ts := ts) (g := g) (tm := tm) (bm := bm) (vs := vs) fun u hu => h u (List.mem_cons_of_mem _ hu)
    obtain ⟨e1, h1, h2⟩ := h t List.mem_cons_self
    unfold lcM
    rw [h1]
    rcases h2 with ⟨e2, a, b, c⟩ | ⟨e2, e3, a, b, c⟩
    · simp only [a, b, ih, List.flatMap_cons, c, List.nil_append]
    · simp only [a, b, c, ih, List.flatMap_cons]
/-- one value for each item -/
theorem lcM_map {vs : List Nat} {g : GM} {m : XM} (f : T → T) {env : EnvM} {ts : List T} (h : ∀ t ∈ ts, ∃ e1 e2, g t env = .ok e1 ∧ m e1 = .ok (f t, e2) ∧ wipeM vs e2 = env) : lcM vs g tYesM (eltM m) ts env = .ok (ts.map f, env) := by
  rw [lcM_fm (F := fun t => [f t]) fun t ht => by
    obtain ⟨e1, e2, a, b, c⟩ := h t ht
    exact ⟨e1, a, .inr ⟨e1, e2, rfl, by simp [eltM, b], c⟩⟩]
  congr 2
  induction ts with
  | nil => rfl
  | cons t ts ih => simp [List.flatMap_cons, ih (fun u hu => h u (List.mem_cons_of_mem _ hu))]
/-- over what is told by its own type -/
theorem lcM_fmA {α : Type} {vs : List Nat} {g : GM} {tm : TM} {bm : BM} (tt : α → T) (f : α → List T) {env : EnvM} : ∀ {as : List α}, (∀ a ∈ as, ∃ e1, g (tt a) env = .ok e1 ∧ ((∃ e2, tm e1 = .ok (false, e2) ∧ wipeM vs e2 = env ∧ f a = []) ∨ (∃ e2 e3, tm e1 = .ok (true, e2) ∧ bm e2 = .ok (f a, e3) ∧ wipeM vs e3 = env))) → lcM vs g tm bm (as.map tt) env = .ok (as.flatMap f, env)
  | [], _ => rfl
  | t :: ts, h => by
    have ih := lcM_fmA tt f (env := env) (as := ts) (g := g) (tm := tm) (bm := bm) (vs := vs) fun u hu => h u (List.mem_cons_of_mem _ hu)
    obtain ⟨e1, h1, h2⟩ := h t List.mem_cons_self
    rw [List.map_cons]
    unfold lcM
    rw [h1]
    rcases h2 with ⟨e2, a, b, c⟩ | ⟨e2, e3, a, b, c⟩
    · simp only [a, b, ih, List.flatMap_cons, c, List.nil_append]
    · simp only [a, b, c, ih, List.flatMap_cons]
theorem lcM_mapA {α : Type} {vs : List Nat} {g : GM} {m : XM} (tt : α → T) (f : α → T) {env : EnvM} {as : List α} (h : ∀ a ∈ as, ∃ e1 e2, g (tt a) env = .ok e1 ∧ m e1 = .ok (f a, e2) ∧ wipeM vs e2 = env) : lcM vs g tYesM (eltM m) (as.map tt) env = .ok (as.map f, env) := by
  rw [lcM_fmA tt (f := fun a => [f a]) fun t ht => by
    obtain ⟨e1, e2, a, b, c⟩ := h t ht
    exact ⟨e1, a, .inr ⟨e1, e2, rfl, by simp [eltM, b], c⟩⟩]
  congr 2
  exact (List.map_eq_flatMap ..).symm
/-- .. with a test -/
theorem lcM_filA {α : Type} {vs : List Nat} {g : GM} {tm : TM} {m : XM} (tt : α → T) (p : α → Bool) (f : α → T) {env : EnvM} {as : List α} (h : ∀ a ∈ as, ∃ e1 e2, g (tt a) env = .ok e1 ∧ tm e1 = .ok (p a, e2) ∧ wipeM vs e2 = env ∧ (p a = true → ∃ e3, m e2 = .ok (f a, e3) ∧ wipeM vs e3 = env)) : lcM vs g tm (eltM m) (as.map tt) env = .ok ((as.filter p).map f, env) := by
  rw [lcM_fmA tt (f := fun a => if p a then [f a] else []) fun t ht => by
    obtain ⟨e1, e2, a, b, c, d⟩ := h t ht
    refine ⟨e1, a, ?_⟩
    cases hp : p t with
    | false => exact .inl ⟨e2, by rw [b, hp], c, by simp⟩
    | true =>
      obtain ⟨e3, d1, d2⟩ := d hp
      exact .inr ⟨e2, e3, by rw [b, hp], by simp [eltM, d1], d2⟩]
  congr 2
  clear h
  induction as with
  | nil => rfl
  | cons a as ih => cases hp : p a <;> simp [hp, ih]
theorem xLc_of {im : IM} {vs : List Nat} {g : GM} {tm : TM} {bm : BM} {env e1 e2 : EnvM} {ts us : List T} (h1 : im env = .ok (ts, e1)) (h2 : lcM vs g tm bm ts (wipeM vs e1) = .ok (us, e2)) (h3 : us.length ≤ 16777216) : xLc im vs g tm bm env = .ok (.lst us, restM vs e1 e2) := by
  unfold xLc
  rw [h1]
  simp only [bind_ok, h2]
  rw [if_pos (Nat.ble_eq_true_of_le h3)]
theorem xCB_of {f : List T → Option T} {am : AM} {env e1 : EnvM} {ts : List T} {t : T} (h1 : am env = .ok (ts, e1)) (h2 : f ts = some t) : xCB f am env = .ok (t, e1) := by
  unfold xCB
  rw [h1]
  simp only [bind_ok, h2]
theorem one_of {m : XM} {env e1 : EnvM} {t : T} (h : m env = .ok (t, e1)) : aCons m aNil env = .ok ([t], e1) := by
  unfold aCons aNil
  rw [h]
  rfl
theorem forM_inv {g : GM} {body : SM} (I : EnvM → Prop) : ∀ {ts : List T}, (∀ t ∈ ts, ∀ e, I e → ∃ e1 e2, g t e = .ok e1 ∧ body e1 = .ok (.nx, e2) ∧ I e2) → ∀ e, I e → ∃ e2, forM' g body ts e = .ok (.nx, e2) ∧ I e2
  | [], _, e, hI => ⟨e, rfl, hI⟩
  | t :: ts, h, e, hI => by
    obtain ⟨e1, e2, a, b, c⟩ := h t List.mem_cons_self e hI
    obtain ⟨e3, d, f⟩ := forM_inv I (ts := ts) (fun u hu => h u (List.mem_cons_of_mem _ hu)) e2 c
    exact ⟨e3, by unfold forM'; simp only [a, b, bind_ok, d], f⟩
/-- .. the state told by what has been walked -/
theorem forM_fold {α : Type} {g : GM} {body : SM} {S : Type} (tt : α → T) (f : S → α → S) (J : S → EnvM → Prop) : ∀ {ts : List α} {s : S}, (∀ s, ∀ t ∈ ts, ∀ e, J s e → ∃ e1 e2, g (tt t) e = .ok e1 ∧ body e1 = .ok (.nx, e2) ∧ J (f s t) e2) → ∀ e, J s e → ∃ e2, forM' g body (ts.map tt) e = .ok (.nx, e2) ∧ J (ts.foldl f s) e2
  | [], _, _, e, hI => ⟨e, rfl, hI⟩
  | t :: ts, s, h, e, hI => by
    obtain ⟨e1, e2, a, b, c⟩ := h s t List.mem_cons_self e hI
    obtain ⟨e3, d, f'⟩ := forM_fold tt f J (ts := ts) (s := f s t) (fun s u hu => h s u (List.mem_cons_of_mem _ hu)) e2 c
    exact ⟨e3, by rw [List.map_cons]; unfold forM'; simp only [a, b, bind_ok, d], f'⟩
def rgI : Int → Nat → List Int
  | _, 0 => []
  | i, n + 1 => i :: rgI (i + 1) n
theorem upto_rg : ∀ (n : Nat) (i : Int), upto i n = (rgI i n).map T.int
  | 0, _ => rfl
  | n + 1, i => by simp [upto, rgI, upto_rg n]
theorem mem_rgI {i x : Int} {n : Nat} : x ∈ rgI i n ↔ i ≤ x ∧ x < i + n := by
  induction n generalizing i with
  | zero => exact ⟨fun h => (nomatch h), fun h => by omega⟩
  | succ n ih => simp only [rgI, List.mem_cons, ih]; omega
theorem rng1_eq (j : Int) : rng1 [.int j] = if small62 j = true then .ok (upto 0 j.toNat) else .no := rfl
theorem rng1_ok {n : Nat} (h : n ≤ 1000000) : rng1 [.int (n : Int)] = .ok ((rgI 0 n).map .int) := by
  have sm : small62 (n : Int) = true := by unfold small62; simp; omega
  rw [rng1_eq, if_pos sm, Int.toNat_natCast, upto_rg]
theorem rng1_lit (k : Int) (n : Nat) (e : k = n) (h : n ≤ 1000000) : rng1 [.int k] = .ok ((rgI 0 n).map .int) := by
  subst e; exact rng1_ok h
theorem rgI_len : ∀ (n : Nat) (i : Int), (rgI i n).length = n
  | 0, _ => rfl
  | n + 1, i => by simp [rgI, rgI_len n]
@[simp] theorem intsT_map : ∀ ns : List Int, intsT (ns.map T.int) = some ns
  | [] => rfl
  | n :: ns => by simp [intsT, intsT_map ns]
@[simp] theorem boolsT_map : ∀ ns : List Bool, boolsT (ns.map T.bl) = some ns
  | [] => rfl
  | n :: ns => by simp [boolsT, boolsT_map ns]
def ti (a : List Int) : T := .tup (a.map T.int)
mutual
/-- no dict within -/
def T.noD : T → Bool
  | .tup ts => T.noDs ts
  | .lst ts => T.noDs ts
  | .frz ts => T.noDs ts
  | .dct _ _ _ => false
  | _ => true
def T.noDs : List T → Bool
  | [] => true
  | t :: ts => T.noD t && T.noDs ts
end
mutual
theorem T.eq_self : ∀ t : T, T.noD t = true → T.eq t t = true
  | .non, _ => rfl
  | .bl b, _ => by simp [T.eq]
  | .int i, _ => by simp [T.eq]
  | .str cs, _ => by simp [T.eq, eqN_eq]
  | .tup ts, h => by simpa [T.eq] using T.eqs_self ts (by simpa [T.noD] using h)
  | .lst ts, h => by simpa [T.eq] using T.eqs_self ts (by simpa [T.noD] using h)
  | .frz ts, h => by simpa [T.eq] using T.eqs_self ts (by simpa [T.noD] using h)
  | .dct _ _ _, h => by simp [T.noD] at h
theorem T.eqs_self : ∀ ts : List T, T.noDs ts = true → T.eqs ts ts = true
  | [], _ => rfl
  | t :: ts, h => by
    simp only [T.noDs, Bool.and_eq_true] at h
    simp [T.eqs, T.eq_self t h.1, T.eqs_self ts h.2]
end
end M3
/-! M3, part U: tools for the plain laws: exact sameness by evaluation, tuples of ints, steps. -/
namespace M3
open PySem PySem.Spec PyProof.Rows L2
mutual
/-- the same tree, exactly -/
def T.same : T → T → Bool
  | .non, .non => true
  | .bl a, .bl b => a == b
  | .int i, .int j => i == j
  | .str x, .str y => eqN x y
  | .lst xs, .lst ys => T.sames xs ys
  | .frz xs, .frz ys => T.sames xs ys
  | .tup xs, .tup ys => T.sames xs ys
  | _, _ => false
def T.sames : List T → List T → Bool
  | [], [] => true
  | x :: xs, y :: ys => T.same x y && T.sames xs ys
  | _, _ => false
end
mutual
theorem T.same_ok : ∀ {a b : T}, T.same a b = true → a = b
  | .non, .non, _ => rfl
  | .bl a, .bl b, h => by unfold T.same at h; rw [eq_of_beq h]
  | .int i, .int j, h => by unfold T.same at h; rw [eq_of_beq h]
  | .str x, .str y, h => by
    unfold T.same at h
    rw [eqN_eq] at h
    rw [of_decide_eq_true h]
  | .lst xs, .lst ys, h => by unfold T.same at h; rw [T.sames_ok h]
  | .frz xs, .frz ys, h => by unfold T.same at h; rw [T.sames_ok h]
  | .tup xs, .tup ys, h => by unfold T.same at h; rw [T.sames_ok h]
  | .dct _ _ _, b, h => by cases b <;> (unfold T.same at h; cases h)
  | .non, .bl _, h => by unfold T.same at h; cases h
  | .non, .int _, h => by unfold T.same at h; cases h
  | .non, .str _, h => by unfold T.same at h; cases h
  | .non, .lst _, h => by unfold T.same at h; cases h
  | .non, .frz _, h => by unfold T.same at h; cases h
  | .non, .tup _, h => by unfold T.same at h; cases h
  | .non, .dct _ _ _, h => by unfold T.same at h; cases h
  | .bl _, .non, h => by unfold T.same at h; cases h
  | .bl _, .int _, h => by unfold T.same at h; cases h
  | .bl _, .str _, h => by unfold T.same at h; cases h
  | .bl _, .lst _, h => by unfold T.same at h; cases h
  | .bl _, .frz _, h => by unfold T.same at h; cases h
  | .bl _, .tup _, h => by unfold T.same at h; cases h
  | .bl _, .dct _ _ _, h => by unfold T.same at h; cases h
  | .int _, .non, h => by unfold T.same at h; cases h
  | .int _, .bl _, h => by unfold T.same at h; cases h
  | .int _, .str _, h => by unfold T.same at h; cases h
  | .int _, .lst _, h => by unfold T.same at h; cases h
  | .int _, .frz _, h => by unfold T.same at h; cases h
  | .int _, .tup _, h => by unfold T.same at h; cases h
  | .int _, .dct _ _ _, h => by unfold T.same at h; cases h
  | .str _, .non, h => by unfold T.same at h; cases h
  | .str _, .bl _, h => by unfold T.same at h; cases h
  | .str _, .int _, h => by unfold T.same at h; cases h
  | .str _, .lst _, h => by unfold T.same at h; cases h
  | .str _, .frz _, h => by unfold T.same at h; cases h
  | .str _, .tup _, h => by unfold T.same at h; cases h
  | .str _, .dct _ _ _, h => by unfold T.same at h; cases h
  | .lst _, .non, h => by unfold T.same at h; cases h
  | .lst _, .bl _, h => by unfold T.same at h; cases h
  | .lst _, .int _, h => by unfold T.same at h; cases h
  | .lst _, .str _, h => by unfold T.same at h; cases h
  | .lst _, .frz _, h => by unfold T.same at h; cases h
  | .lst _, .tup _, h => by unfold T.same at h; cases h
  | .lst _, .dct _ _ _, h => by unfold T.same at h; cases h
  | .frz _, .non, h => by unfold T.same at h; cases h
  | .frz _, .bl _, h => by unfold T.same at h; cases h
  | .frz _, .int _, h => by unfold T.same at h; cases h
  | .frz _, .str _, h => by unfold T.same at h; cases h
  | .frz _, .lst _, h => by unfold T.same at h; cases h
  | .frz _, .tup _, h => by unfold T.same at h; cases h
  | .frz _, .dct _ _ _, h => by unfold T.same at h; cases h
  | .tup _, .non, h => by unfold T.same at h; cases h
  | .tup _, .bl _, h => by unfold T.same at h; cases h
  | .tup _, .int _, h => by unfold T.same at h; cases h
  | .tup _, .str _, h => by unfold T.same at h; cases h
  | .tup _, .lst _, h => by unfold T.same at h; cases h
  | .tup _, .frz _, h => by unfold T.same at h; cases h
  | .tup _, .dct _ _ _, h => by unfold T.same at h; cases h
theorem T.sames_ok : ∀ {a b : List T}, T.sames a b = true → a = b
  | [], [], _ => rfl
  | x :: xs, y :: ys, h => by
    unfold T.sames at h
    obtain ⟨h1, h2⟩ := Bool.and_eq_true_iff.mp h
    rw [T.same_ok h1, T.sames_ok h2]
  | [], _ :: _, h => by unfold T.sames at h; cases h
  | _ :: _, [], h => by unfold T.sames at h; cases h
end
/-- the mirror answers just this -/
def isR (r : R T) (t : T) : Bool := match r with
  | .ok u => T.same u t
  | _ => false
theorem isR_ok {r : R T} {t : T} (h : isR r t = true) : r = .ok t := by
  unfold isR at h
  split at h
  · rw [T.same_ok h]
  · cases h
/-! ### tuples of ints -/
theorem flats_int : ∀ (n : Nat) (a : List Int), T.flats n (a.map .int) = true
  | _, [] => by simp
  | n, x :: a => by cases n <;> simp [flats_int _ a]
theorem flats_ti (n : Nat) : ∀ L : List (List Int), T.flats (n + 1) (L.map ti) = true
  | [] => by simp
  | a :: L => by simp [ti, flats_int, flats_ti n L]
theorem eqs_int : ∀ a b : List Int, T.eqs (a.map .int) (b.map .int) = decide (a = b)
  | [], [] => by simp
  | [], _ :: _ => by simp
  | _ :: _, [] => by simp
  | x :: a, y :: b => by
    have ih := eqs_int a b
    by_cases h : x = y <;> simp [ih, h]
theorem eq_ti (a b : List Int) : T.eq (ti a) (ti b) = decide (a = b) := by simp [ti, eqs_int]
theorem flat_ti (a : List Int) : T.flat 60 (ti a) = true := by simp [ti, flats_int]
theorem eqA_ti (a b : List Int) : oEqA (ti a) (ti b) = .ok (.bl (decide (a = b))) := by
  simp [ti, flats_int, eqs_int]
theorem neA_ti (a b : List Int) : oNeA (ti a) (ti b) = .ok (.bl (!decide (a = b))) := by
  simp [ti, flats_int, eqs_int]
theorem memT_ti (a : List Int) : ∀ L : List (List Int), memT (ti a) (L.map ti) = decide (a ∈ L)
  | [] => rfl
  | b :: L => by
    show (T.eq (ti b) (ti a) || memT (ti a) (L.map ti)) = _
    rw [memT_ti a L, eq_ti]
    by_cases h : a = b
    · subst h; simp
    · simp [h, Ne.symm h]
theorem len_ti (a : List Int) : fLen [ti a] = some (.int a.length) := by simp [ti]
/-! ### steps -/
theorem x2_of {f : T → T → R T} {ma mb : XM} {env e1 e2 : EnvM} {a b t : T} (h1 : ma env = .ok (a, e1)) (h2 : mb e1 = .ok (b, e2)) (h3 : f a b = .ok t) : x2 f ma mb env = .ok (t, e2) := by
  unfold x2
  rw [h1]
  simp only [bind_ok, h2, h3]
theorem seq_of {m r : SM} {env e1 : EnvM} {x : R (Fl × EnvM)} (h : m env = .ok (.nx, e1)) (h2 : r e1 = x) : sSeq m r env = x := by
  unfold sSeq
  rw [h]
  exact h2
theorem if_no {c : TM} {a : SM} {env e1 : EnvM} (h : c env = .ok (false, e1)) : sIf c a sNil env = .ok (.nx, e1) := by
  unfold sIf
  rw [h]
  rfl
theorem set_of {i : Nat} {m : XM} {env e1 : EnvM} {t : T} (h : m env = .ok (t, e1)) : sSet i m env = .ok (.nx, e1.set i (.val t)) := by
  unfold sSet
  rw [h]
  rfl
theorem ret_of {m : XM} {env e1 : EnvM} {t : T} (h : m env = .ok (t, e1)) : sRet m env = .ok (.rt t, e1) := by
  unfold sRet
  rw [h]
  rfl
theorem tbl_of {m : XM} {env e1 : EnvM} {b : Bool} (h : m env = .ok (.bl b, e1)) : tBl m env = .ok (b, e1) := by
  unfold tBl
  rw [h]
  rfl
theorem for_of {im : IM} {g : GM} {b : SM} {env e1 : EnvM} {ts : List T} {x : R (Fl × EnvM)} (h : im env = .ok (ts, e1)) (h2 : forM' g b ts e1 = x) : sFor im g b env = x := by
  unfold sFor
  rw [h]
  exact h2
end M3
/-! M3, part T: a law's head that tells, besides, that at least tk tokens are out where the law is called. -/
namespace M3
open PySem PySem.W PySem.Spec PySem.Calls PyProof.Rows
/-- what is asked of the law's call, tokens told -/
abbrev CallT (tk n : Nat) (l : OpenLaw) (q : Program) (loose : List Str) (XP : (Str → Option Value) → Heap → Prop) (YP : World → Heap → Prop) (d : DefRec) : Prop :=
  ∀ (w : World) (s₀ s₁ : Shared) (mg mb : Str → Option Value) (fa : Addr) (o : Obj) (pm cd doc : Value) (a : Addr) (vs : List Value) (ns : List Int), Ground q loose [] XP w s₀ mg mb s₁.heap → YP w s₁.heap → tk ≤ s₁.toks → s₁.heap.get? fa = some o →
    o.data = .func (docDef d.name d.params d.body d.scope pm cd doc) → s₁.heap.CodeRec cd d.name → mg d.name = some (.ref fa) → s₁.heap.get? a = some { cls := .type "list", data := .seq vs.toArray } → IntsAre vs ns → ns.length ≤ n → s₁.gens = #[] →
    codeAny (model l.prog w) callerA (.call (.ref fa) ⟨[.ref a], []⟩) (fun r s' => r = .ok (.ret (.bool true)) ∧ OldK s₁.heap s'.heap ∧ s'.os = s₁.os ∧ AllBare s'.gens) s₁
theorem holdsT {l : OpenLaw} {q : Program} {loose : List Str} {Xt : Shared → Bool} {XP : (Str → Option Value) → Heap → Prop} {α : Type} {Yf : Shared → α} {Ya : World → α} {YP : World → Heap → Prop} {d : DefRec} {N n tk : Nat}
    (left : LeftO l.row.prog q loose Xt Yf Ya N) (hY : ∀ w s, Yf s = Ya w → YP w s.heap) (hYk : ∀ w h h', YP w h → (∀ b o, h.get? b = some o → h'.get? b = some o) → YP w h') (hT : ∀ w s, Yf s = Ya w → tk ≤ s.toks)
    (hX : ∀ s, Xt s = true → XP (s.heap.nsMap mainGlobals) s.heap) (hXk : ∀ mg h h', XP mg h → (∀ b o, h.get? b = some o → h'.get? b = some o) → XP mg h')
    (hdef : defOf q l.row.name = some (d, [])) (hp : l.row.prog.theDef l.row.name = some (d.params, d.body, d.scope)) (hk : kwWritten? d.params.kwonlyargs d.params.kw_defaults = some []) (hRf : ∀ s, Xt s = true → RecFacts l.row.records s.heap)
    (hwr : (!l.row.writes || l.row.records.isEmpty) = true) (k1 : l.row.wellSaid = true) (ok : (chainsOk q && opensWell l.row.prog && (frees l.row.toRowW && l.row.within.isEmpty)) = true) (hb : l.row.prog.bare) (hw : l.row.toRowW.promised)
    (hn : l.most = some n) (hdf : d.params.defaults = []) (call : CallT tk n l q loose XP YP d) : l.row.Holds := by
  refine ⟨k1, hw, ?_⟩
  obtain ⟨ok, k5⟩ := Bool.and_eq_true_iff.mp ok
  obtain ⟨hch, o1⟩ := Bool.and_eq_true_iff.mp ok
  obtain ⟨k5, k6⟩ := Bool.and_eq_true_iff.mp k5
  obtain ⟨hsame, hu, ha, hap, hm⟩ := frees_parts k5
  have H := left.behind (XP := fun mg h => XP mg h ∧ RecFacts l.row.records h) (fun s hs => ⟨hX s hs, hRf s hs⟩) hch
  refine ⟨⟨hb, o1, by show l.row.toRowW.makers.map l.row.toRowW.maker = []; rw [show l.row.toRowW.makers = [] from hm]; rfl⟩, hw.witness, fun w => ⟨(left.behind hX hch w).1, fun s' hs' => ?_⟩⟩
  obtain ⟨s₀, hf, hg0, s, hTp, hz, hgens, hg, Gr, y⟩ := (H w).2 s' hs'
  have G0 : Ground q loose [] XP w s (s.heap.nsMap mainGlobals) (s.heap.nsMap builtinsNs) s.heap :=
    { T := Gr.T, B := Gr.B, D := Gr.D, TE := Gr.TE, TD := Gr.TD, W := Gr.W, X := Gr.X.1, cls := Gr.cls, has := Gr.has, apart := Gr.apart, once := Gr.once, K := Gr.K }
  have RF := Gr.X.2
  have tks := hT w s y
  refine ⟨s₀, hf, hg0, s, hTp, fun x hx => ?_, RF.1, RF.2.1, ?_⟩
  · obtain rfl : x = l.row.name := by split at hx <;> simp_all
    exact pinned_of_view hg G0 hdef hp hk
  have ge : s.gens = #[] := Array.eq_empty_of_size_eq_zero (beq_iff_eq.mp hgens)
  have G : Ground q loose l.row.records XP w s _ _ s.heap := RF.ground G0
  refine ClaimW.callFrom_of_specG (c := l.row.toRowW.claim) hz ge fun args hpre hlay ord hord => ?_
  obtain ⟨⟨vs, s₁⟩, hlaid⟩ := Option.isSome_iff_exists.mp (layAllW_isSome (P := w.params) (ord := ord) G.has args l.row.args s (pre_splitW hpre).1)
  have grows := layAllW_grows _ _ _ hlaid
  have keeps := grows.keeps
  have hal := grows.alike
  obtain ⟨as, hrd, hin, hold⟩ := reads_layAllW hord _ _ _ hlaid hlay s₁.heap (fun _ _ e => e)
  have L : Laid l.row.records w s s₁ args vs as := ⟨⟨ord, hord, hlaid⟩, hrd, hin, hold, keeps, hal.1.trans ge, hal.2.2.1⟩
  have G₁ := G.keeps hXk keeps
  obtain ⟨fa, o, pm, cd, doc, dV, kV, h1, h2, h3, h4, h5⟩ := G₁.fn hdef
  have hnm : s.heap.nsMap mainGlobals d.name = some (.ref fa) := defOf_name hdef ▸ h1
  obtain rfl : dV = .none := Dflts.none h5 hdf
  obtain rfl : kV = .none := Dflts.noKw h5
  obtain ⟨a, us, ns, rfl, rfl, hobj, hints, hlen⟩ := Att.script_of hn hpre L.well
  have hc := call w s s₁ _ _ fa o pm cd doc a us ns G₁ (hYk _ _ _ (hY w s y) keeps) (Nat.le_trans tks grows.toks) h2 (fd_plain h3) h4 hnm hobj hints hlen L.gens
  have h := enter_call (c := l.row.toRowW.claim) (cl := classAt s.heap) (mean := ExcName.means s.heap) (args := [.list (ns.map .int)]) (s₁ := s₁) (codeAny_mono hc fun r s' hq => by
    obtain ⟨rfl, q2, q3, q4⟩ := hq
    exact ⟨.inl ⟨.bool true, .bool true, [], rfl, fun _ => rfl, .bool true, Att.post_true l _, fun _ => ⟨List.Pairwise.nil, fun _ hm => (nomatch hm)⟩⟩, q2, q3, q4⟩)
  have hi := ident_freeW hu ha hap
  have hwi : l.row.toRowW.claim.within = [] := List.isEmpty_iff.mp k6
  refine ⟨_, s₁, hlaid, ?_⟩
  refine wpAny_bind (wpAny_nsGet G₁.T.g ?_)
  rw [h1]
  refine wpAny_bind (wpAny_mono h (fun v s' g => wpAny_pure ?_) fun e s' g => ?_)
  · have z := g.laid (c := l.row.toRowW.claim) hsame hwi hi L
    exact ⟨_, rfl, z.1, z.2.1, z.2.2, fun q => ⟨namesKept_of hTp hg _ keeps g.2.1.old, noTable hwr q⟩⟩
  · have z := g.laid (c := l.row.toRowW.claim) hsame hwi hi L
    exact ⟨z.1, z.2.1, z.2.2, fun q => ⟨namesKept_of hTp hg _ keeps g.2.1.old, noTable hwr q⟩⟩
section
open L2
variable {P : Program} {w : World} {K : PySem.W.Frag} {mg mb : Str → Option Value} {tk k : Nat} {fa a : Addr} {fd : FuncData} {x : Str} {s₁ : Shared} {vs : List Value} {ns : List Int}
/-- the call of a law whose promise asks for so many tokens: at an abstract heap with the script alone in it -/
theorem law_core (KX : K.In s₁.heap) (hns : s₁.heap.Ns mainGlobals mg) (hb : s₁.heap.Ns builtinsNs mb) (hbb : ∀ x : Str, x ≠ "__name__" → mb x = bootBuiltins x) (hlim : s₁.heap.NoLimit) (hg : s₁.gens = #[]) (ht : tk ≤ s₁.toks)
    (ha : s₁.heap.get? a = some { cls := .type "list", data := .seq vs.toArray }) (hn : ns.length ≤ 63) (hr : Room k callerA)
    (F : ∀ base : Heap, K.In base → base.Ns mainGlobals mg → M3.FnOk tk P w K mg base (L2.CX P w) k fa fd [x] (spLaw K)) (hbind : ∀ (s : Shared) (u : Value), BindsTo s fd ⟨[u], []⟩ [(x, u)])
    (H : Hp) (hO : Only H) (hS : SqL K H a (ns.map V.int)) (hok : HOk P w H s₁.heap) (hA : ∀ b, H b ≠ none → b = a) (hK : H a ≠ none → K.lookup a = none) :
    codeAny (model P w) callerA (.call (.ref fa) ⟨[.ref a], []⟩) (fun r s' => r = .ok (.ret (.bool true)) ∧ OldK s₁.heap s'.heap ∧ s'.os = s₁.os ∧ AllBare s'.gens) s₁ := by
  have free : ∀ {b : Addr} {o : Obj}, s₁.heap.get? b = some o → (H b ≠ none → False) → (hidT s₁.heap H).get? b = some o := fun {b o} e n => hidT_get e (by
    cases q : H b with
    | none => rfl
    | some u => exact (n (by rw [q]; simp)).elim)
  have nsT : ∀ {b : Addr} {m : Str → Option Value}, s₁.heap.Ns b m → (hidT s₁.heap H).Ns b m := fun {b m} h => by
    obtain ⟨o, es, ep, e, dd, r⟩ := h
    refine ⟨o, es, ep, free e fun n => ?_, dd, r⟩
    obtain rfl := hA b n
    rw [ha] at e
    cases e
    have z : Data.seq vs.toArray _ = Data.dict es ep := dd
    cases z
  have inT : K.In (hidT s₁.heap H) := fun b o e => free (KX b o e) fun n => by
    obtain rfl := hA b n
    rw [hK n] at e
    cases e
  have hM : Mod K mg (hidT s₁.heap H) := ⟨inT, nsT hns, ⟨mb, nsT hb, hbb⟩, by obtain ⟨mc, h1, h2⟩ := hlim; exact ⟨mc, nsT h1, h2⟩⟩
  have none_in : ∀ b : Addr, b ∈ ([] : List Addr) → False := fun b z => by cases z
  have e0 : Env0 P w K mg (hidT s₁.heap H) callerA [] s₁ H := ⟨rfl, hM, fun b o e => of_hidT e, Nat.le_of_eq (hidT_size _ _), trivial, fun b z => (none_in b z).elim, hok, .of_eq hg⟩
  have run := (F _ inT (nsT hns)).run callerA [] s₁ H ⟨[.ref a], []⟩ [.ref a] [.ref a] (fun v _ => v = .bl true) (fun _ _ _ => False) ht hr e0 (hbind s₁ (.ref a)) (.cons rfl .nil) ⟨a, ns, rfl, hS, hn, fun _ _ e => e⟩
  refine codeAny_mono run fun r s' h => ?_
  cases r with
  | error e => exact (cx_never h).elim
  | ok f =>
    cases f with
    | ret u =>
      obtain ⟨v, H', os, bare, un, hok', r', q⟩ := h
      cases q
      cases r'
      refine ⟨rfl, OldK.of_keep fun b o e => ?_, os, bare⟩
      cases q : H b with
      | none => exact un.keep b o e q (fun z => none_in b z) (by simp)
      | some u =>
        rcases hO b with z | ⟨ob, xs, z⟩
        · rw [q] at z; cases z
        · have g1 := (hok b _ z).1
          have g2 := (hok' b _ (un.frzs b ob _ z)).1
          rw [e] at g1
          cases g1
          exact g2
    | _ => exact False.elim h
theorem law_callT (KX : K.In s₁.heap) (hns : s₁.heap.Ns mainGlobals mg) (hb : s₁.heap.Ns builtinsNs mb) (hbb : ∀ x : Str, x ≠ "__name__" → mb x = bootBuiltins x) (hlim : s₁.heap.NoLimit) (hg : s₁.gens = #[]) (ht : tk ≤ s₁.toks)
    (ha : s₁.heap.get? a = some { cls := .type "list", data := .seq vs.toArray }) (hi : IntsAre vs ns) (hn : ns.length ≤ 63) (hr : Room k callerA)
    (F : ∀ base : Heap, K.In base → base.Ns mainGlobals mg → M3.FnOk tk P w K mg base (L2.CX P w) k fa fd [x] (spLaw K)) (hbind : ∀ (s : Shared) (u : Value), BindsTo s fd ⟨[u], []⟩ [(x, u)]) :
    codeAny (model P w) callerA (.call (.ref fa) ⟨[.ref a], []⟩) (fun r s' => r = .ok (.ret (.bool true)) ∧ OldK s₁.heap s'.heap ∧ s'.os = s₁.os ∧ AllBare s'.gens) s₁ := by
  have rv := vals_ints hi
  have hz : ns.length ≤ sizeLine := by rw [sizeLine_eq]; omega
  have lv := hi.length
  by_cases hk : K.lookup a = none
  · let ob : Obj := { cls := .type "list", data := .seq vs.toArray }
    refine law_core KX hns hb hbb hlim hg ht ha hn hr F hbind (fun b => if b = a then some (.frz ob (.lst (ns.map V.int))) else none) (fun b => ?_) (.inl (.inr ⟨ob, if_pos rfl⟩)) (fun b u z => ?_) (fun b z => ?_) fun _ => hk
    · by_cases h : b = a
      · exact .inr ⟨_, _, if_pos h⟩
      · exact .inl (if_neg h)
    · by_cases h : b = a
      · subst h
        cases (if_pos rfl).symm.trans z
        exact ⟨ha, by rw [List.length_map]; exact hz, vs, _, rv, ha⟩
      · cases (if_neg h).symm.trans z
    · by_cases h : b = a
      · exact h
      · exact (z (if_neg h)).elim
  · obtain ⟨o, ho⟩ := Option.ne_none_iff_exists'.mp hk
    have e := KX a o ho
    rw [ha] at e
    cases e
    exact law_core KX hns hb hbb hlim hg ht ha hn hr F hbind (fun _ => none) (fun _ => .inl rfl) (.inr ⟨_, vs.toArray, _, ho, rfl, rfl, rfl, by rw [List.size_toArray, lv]; exact hz, by simpa using rv⟩) (fun b u z => by cases z) (fun b z => absurd rfl z) fun z => absurd rfl z
end
/-- the call's wish from the law's promise -/
theorem callT_of {tk k : Nat} {l : OpenLaw} {q : Program} {loose : List Str} {XP : (Str → Option Value) → Heap → Prop} {YP : World → Heap → Prop} {d : DefRec} {x : Str} (hr : L2.Room k callerA)
    (F : ∀ (w : World) (mg : Str → Option Value) (fa : Addr) (h : Heap), YP w h → h.Ns mainGlobals mg → mg d.name = some (.ref fa) → ∃ (K : PySem.W.Frag) (fd : FuncData), K.In h ∧ (∀ (s : Shared) (u : Value), BindsTo s fd ⟨[u], []⟩ [(x, u)]) ∧
      ∀ base : Heap, K.In base → base.Ns mainGlobals mg → M3.FnOk tk l.prog w K mg base (L2.CX l.prog w) k fa fd [x] (spLaw K)) : CallT tk 63 l q loose XP YP d := by
  intro w s₀ s₁ mg mb fa o pm cd doc a vs ns G Y ht ho hd hcd hmg hobj hints hlen hg
  obtain ⟨K, fd, KX, hb, hF⟩ := F w mg fa _ Y G.T.g hmg
  exact law_callT KX G.T.g G.T.b G.T.builtins G.T.nolimit hg ht hobj hints hlen hr hF hb
end M3
namespace M3
open PySem PySem.W PySem.Spec PySem.Calls PyProof.Rows
/-! ### the head by facts off the tree, tokens told -/
/-- the module's name x is the text z, its token above 0 and below tk -/
def strB (K : PySem.W.Frag) (x z : Str) (tk : Nat) : Bool := match PySem.W.nsIn K mainGlobals x with
  | some (some (.str y t)) => decide (y = z) && (Nat.blt 0 t && Nat.blt t tk)
  | _ => false
theorem strB_ok {K : PySem.W.Frag} {h : Heap} {mg : Str → Option Value} {x z : Str} {tk : Nat} (X : K.In h) (G : h.Ns mainGlobals mg) (c : strB K x z tk = true) : ∃ t, mg x = some (.str z t) ∧ 0 < t ∧ t < tk := by
  unfold strB at c
  cases e : PySem.W.nsIn K mainGlobals x with
  | none => rw [e] at c; cases c
  | some o =>
    rw [e] at c
    cases o with
    | none => cases c
    | some v =>
      cases v with
      | str y t =>
        obtain ⟨h1, h2⟩ := Bool.and_eq_true_iff.mp c
        obtain ⟨h3, h4⟩ := Bool.and_eq_true_iff.mp h2
        have e1 : y = z := of_decide_eq_true h1
        subst e1
        exact ⟨t, PySem.W.mg_of X G e, Nat.le_of_ble_eq_true h3, Nat.le_of_ble_eq_true h4⟩
      | _ => cases c
def obK (fa : List He.Fa) (fn : List He.DefD) (xs : List (Str × Str)) (tk : Nat) (K : PySem.W.Frag) : He.AlD × Bool := (He.obsD fa fn K, xs.all fun p => strB K p.1 p.2 tk)
def obG (n : Nat) (fa : List He.Fa) (fn : List He.DefD) (xs : List (Str × Str)) (tk : Nat) (g : Addr → Option Obj) : He.AlD × Bool := obK fa fn xs tk (He.frG g (He.asD g n))
def obT (n : Nat) (fa : List He.Fa) (fn : List He.DefD) (xs : List (Str × Str)) (tk : Nat) (s : SharedT) : (He.AlD × Bool) × Bool := (obG n fa fn xs tk (HandSHeadRun.getT s), Nat.ble tk s.toks)
def obS (n : Nat) (fa : List He.Fa) (fn : List He.DefD) (xs : List (Str × Str)) (tk : Nat) (s : Shared) : (He.AlD × Bool) × Bool := (obG n fa fn xs tk s.heap.get?, Nat.ble tk s.toks)
theorem obT_eq {n : Nat} {fa : List He.Fa} {fn : List He.DefD} {xs : List (Str × Str)} {tk : Nat} (s : SharedT) : obT n fa fn xs tk s = obS n fa fn xs tk s.abs := by
  have e : HandSHeadRun.getT s = s.abs.heap.get? := funext (HandSHeadRun.getT_eq s)
  unfold obT obS
  rw [e]
  rfl
/-- what the head tells of the heap -/
def SaysT (fa : List He.Fa) (fn : List He.DefD) (xs : List (Str × Str)) (tk : Nat) (h : Heap) : Prop := ∃ K : PySem.W.Frag, K.In h ∧ He.SaysD fa fn K ∧ (xs.all fun p => strB K p.1 p.2 tk) = true
theorem head_T {l : OpenLaw} {q : Program} {loose : List Str} {d : DefRec} {n tk M : Nat} {fa : List He.Fa} {fn : List He.DefD} {xs : List (Str × Str)} (e : opening l.row.prog = plainProg l.row.prog.main.scope.names) (f : ∀ s, fenceModules? l.row.prog s = some s)
    (run : ∀ (w : World) (os : OsState), (HandSHeadRun.endF (HandSHeadRun.stepQ (HandSHeadRun.denQ HandSHeadRun.tabQ) l.row.prog w) M l.row.prog w os).map (fun s => (HandSHeadRun.looksF l.row.prog (boot_heap w.params) s.abs, HandSHeadRun.seenQ q loose (importedModules l.row.prog.main.body) (fun s => xlAt q [] s && recOk l.row.toRowW.records s) s.abs, obT n fa fn xs tk s)) = some (true, openGood q loose, (((true, fn.map He.DefD.val), true), true)))
    (hdef : defOf q l.row.name = some (d, [])) (hp : l.row.prog.theDef l.row.name = some (d.params, d.body, d.scope)) (hk : kwWritten? d.params.kwonlyargs d.params.kw_defaults = some [])
    (hwr : (!l.row.writes || l.row.records.isEmpty) = true) (k1 : l.row.wellSaid = true) (ok : (chainsOk q && opensWell l.row.prog && (frees l.row.toRowW && l.row.within.isEmpty)) = true) (hb : l.row.prog.bare) (hw : l.row.toRowW.promised) (hn : l.most = some 63) (hdf : d.params.defaults = [])
    (call : CallT tk 63 l q loose (XL q []) (fun _ h => SaysT fa fn xs tk h) d) : l.row.Holds := by
  have left : LeftO l.row.prog q loose (fun s => xlAt q [] s && recOk l.row.toRowW.records s) (obS n fa fn xs tk) (fun _ => (((true, fn.map He.DefD.val), true), true)) (M + 600) true :=
    HandSHeadRun.left_one (M := M) e (Nat.ble_eq_true_of_le (by omega)) f (Nat.ble_eq_true_of_le (by omega)) fun w os => by
      have z := run w os
      have eo : obT n fa fn xs tk = fun s => obS n fa fn xs tk s.abs := funext obT_eq
      rw [eo] at z
      simp only [HandSHeadRun.endQ_eq, HandSHeadRun.seenQ_eq]
      exact z
  refine holdsT (XP := XL q []) (YP := fun _ h => SaysT fa fn xs tk h) left (fun w s y => ?_) (fun w h h' y kp => ?_) (fun w s y => ?_) (fun s z => xl_of s (Bool.and_eq_true_iff.mp z).1) XL.keeps hdef hp hk (fun s z => recFacts_of (Bool.and_eq_true_iff.mp z).2) hwr k1 ok hb hw hn hdf call
  · have y1 : obG n fa fn xs tk s.heap.get? = ((true, fn.map He.DefD.val), true) := congrArg (fun z : (He.AlD × Bool) × Bool => z.1) y
    have y2 : He.obsD fa fn (He.frG s.heap.get? (He.asD s.heap.get? n)) = (true, fn.map He.DefD.val) := congrArg (fun z : He.AlD × Bool => z.1) y1
    have y3 : (xs.all fun p => strB (He.frG s.heap.get? (He.asD s.heap.get? n)) p.1 p.2 tk) = true := congrArg (fun z : He.AlD × Bool => z.2) y1
    exact ⟨_, He.frG_in, y2, y3⟩
  · obtain ⟨K, h1, h2, h3⟩ := y
    exact ⟨K, PySem.W.Frag.In.keeps h1 kp, h2, h3⟩
  · exact Nat.le_of_ble_eq_true (congrArg (fun z : (He.AlD × Bool) × Bool => z.2) y)
theorem df_T {K : PySem.W.Frag} {h : Heap} {mg : Str → Option Value} {fa : List He.Fa} {fn : List He.DefD} {x : Str} {st : Stmt} (X : K.In h) (G : h.Ns mainGlobals mg) (c : He.SaysD fa fn K) (i j : Nat) (hf : fa[i]? = some (.glo x)) (hd : fn[j]? = some ⟨(x, none), x, x, L2.defArgs st, L2.defBody st, L2.defScope st, [], []⟩) : Df K mg x st := by
  obtain ⟨fd, F⟩ := c.def_ j hd
  have g := He.glo_ok X G (c.fact i hf)
  refine ⟨He.ga K x, fd, ?_, g⟩
  have kp := F.kp
  obtain ⟨oc, od, dV, kV, doc, pm, an, cdv, ct, osl, e1, e2, e3, e4, e5⟩ := F.ex
  have hv : dV = .none := by
    rcases e4 with ⟨_, h⟩ | ⟨h, _⟩
    · exact h
    · exact absurd rfl h
  subst hv
  exact ⟨⟨oc, od, kV, doc, pm, an, cdv, ct, osl, e1, e2, e3⟩, kp⟩
end M3
/-! M3, part D: e.replace(NAME, ''), sep.join(..), dict(..) of a list of pairs. -/
namespace M3
open PySem PySem.Spec PyProof.Rows L2
section
variable {D : Dat} {e : Expr} {es : List Expr} {m : XM} {am : AM} {apos pos p : Pos}
/-! ### a sign struck out -/
def xStrike (c : Nat) (m : XM) : XM := fun env => (m env).bind fun (t, e1) => match t with
  | .str cs => .ok (.str (cs.filter fun x => !Nat.beq x c), e1)
  | _ => .no
theorem okS_filter {cs : List Nat} {f : Nat → Bool} (h : okS cs = true) : okS (cs.filter f) = true :=
  okS_of (Nat.le_trans (List.length_filter_le _ _) (okS_len h)) fun c hc => okS_all h c (List.mem_filter.mp hc).1
theorem s_strike {nx y z : Str} {j : Nat} {c0 c1 : Pos} (c : Nat) (h : ME D e m) (hg : D.sc.names.lookup nx = some .globalImplicit) (hm : ∃ t, D.mg nx = some (.str y t) ∧ 0 < t ∧ t < D.tk) (hy : y = ⟨#[c]⟩ := by decide +kernel) (hz : z = ⟨#[]⟩ := by decide +kernel)
    (hyz : (y == z) = false := by decide +kernel) (hdb : (nx == ("__debug__" : Str)) = false := by decide)
    (hst : ∀ env, starEach [.Name nx c0, .Constant (.str z) j c1] env = [(false, eval (.Name nx c0) env), (false, eval (.Constant (.str z) j c1) env)] := by exact fun _ => rfl)
    (hbase : ∀ env, attributeBase e "replace" env (eval e env) = eval e env := by exact fun _ => rfl) (hline : (apos.endLine == pos.line) = true := by rfl) :
    ME D (.Call (.Attribute e "replace" apos) [.Name nx c0, .Constant (.str z) j c1] [] pos) (xStrike c m) := by
  obtain ⟨te, pe, k⟩ := h
  obtain ⟨t, hm, h0, h1⟩ := hm
  refine ⟨tRepK te y z, fun v gd => pe_repK (X := D.cx v) (pe v gd) hg hm (by cases t with | zero => cases h0 | succ t => rfl) (Nat.lt_of_lt_of_le h1 gd.tok) hyz hdb (hst _) (hbase _) hline, fun G W M σ H env re Q q => ?_⟩
  refine pst_bind (P := Pst D G W M σ H Q) k re (fun c t h => h) (fun h => h) q fun t e1 v H1 ev1 re1 i1 q1 => ?_
  dsimp only at q1
  split at q1
  · rename_i cs
    cases i1 with
    | str _ hk =>
      have el : (⟨cs.toArray⟩ : Str).length = cs.length := by show cs.toArray.size = _; simp
      have zl : z.length = 0 := by rw [hz]; rfl
      refine ⟨⟨cs.toArray⟩, rfl, by rw [zl, el]; have := okS_len hk; rw [sizeLine_eq] at this; omega, ?_⟩
      have r := PyProof.Rows.replace_strikes ⟨cs.toArray⟩ c
      rw [← hy, ← hz] at r
      have r2 : (Txt.replace ⟨cs.toArray⟩ y z) = ⟨(cs.filter fun x => !Nat.beq x c).toArray⟩ := by
        rw [← str_eta (Txt.replace ⟨cs.toArray⟩ y z), r]
        have fe : (fun x : Nat => x != c) = fun x => !Nat.beq x c := by
          funext x
          cases hx : Nat.beq x c with
          | true => rw [Nat.eq_of_beq_eq_true hx]; simp
          | false =>
            have : x ≠ c := fun h => by subst h; rw [Nat.beq_refl] at hx; cases hx
            simp [this]
        rw [fe]
      rw [r2]
      exact q1 _ H1 ev1 re1 (.str _ (okS_filter hk))
  · exact (q1 : False).elim
/-! ### texts joined -/
def strsT : List T → Option (List (List Nat))
  | [] => some []
  | .str cs :: ts => (strsT ts).map (cs :: ·)
  | _ => none
theorem IsL.strs {K : PySem.W.Frag} {W : Addr → Prop} {H : Hp} : ∀ {vs : List V} {ts : List T} {ys : List (List Nat)}, IsL K W H vs ts → strsT ts = some ys → vs = (ys.map SX.S).map V.str
  | _, _, _, .nil, e => by cases e; rfl
  | _, _, _, .cons i l, e => by
    cases i <;> simp only [strsT] at e <;> try (cases e; done)
    obtain ⟨zs, e1, rfl⟩ := map_some e
    rw [IsL.strs l e1]
    rfl
def rJoin (K : PySem.W.Frag) : V → List V → Hp → VK → Prop := fun x xs H Q => ∃ a p, ∃ ys : List Str, x = .str a ∧ xs = [.ref p] ∧ (SqL K H p (ys.map V.str) ∨ SqT K H p (ys.map V.str)) ∧ (ys.map (·.length)).sum + ys.length * a.length ≤ 16777216 ∧ Q (.str (Txt.join a ys)) H
def joinT (a : List Nat) (ts : List T) : R T := match strsT ts with
  | some ys => if Nat.ble ((ys.map List.length).sum + ys.length * a.length) 16777216 && okS (TL.joinL a ys) then .ok (.str (TL.joinL a ys)) else .no
  | none => .no
def xJoin (m : XM) (am : AM) : XM := fun env => (m env).bind fun (t, e1) => match t with
  | .str a => (am e1).bind fun (us, e2) => match us with
    | [u] => match seqT u with
      | some ts => (joinT a ts).bind fun r => .ok (r, e2)
      | none => .no
    | _ => .no
  | _ => .no
theorem s_join (h : ME D e m) {x : Expr} (ha : MM D [x] am) (hbase : ∀ env, attributeBase e "join" env (eval e env) = eval e env := by exact fun _ => rfl)
    (hfew : ∀ env, ((backTo pos (starEach [x] env)).all (fun x => !x.1) && (backToKw pos (keywordEach [] env)).all (fun x => x.1.isSome) && decide ([x].length + ([] : List Keyword).length + (if ([] : List Keyword).isEmpty then 0 else 1) < 30)) = true := by exact fun _ => rfl)
    (hline : (apos.endLine == pos.line) = true := by rfl) (hs : ∀ env, starEach [x] env = (false, eval x env) :: starEach [] env := by exact fun _ => rfl) (hplain : ∀ env, (backTo pos (starEach [] env)).any (·.1) = false := by exact fun _ => rfl) :
    ME D (.Call (.Attribute e "join" apos) [x] [] pos) (xJoin m am) := by
  obtain ⟨te, pe, k⟩ := h
  obtain ⟨ta, pa, ka⟩ := ha
  refine ⟨tBM D.K "str" (rJoin D.K) te ta, fun v gd => pe_bm (X := D.cx v) (r := rJoin D.K) PySem.F.plainAttrs_str PySem.F.slot_str_join PySem.F.type_str_join (mt_join (X := D.cx v)) (pe v gd) (pa v gd) (hbase _) (hfew _) hline (hs _) (hplain _), fun G W M σ H env re Q q => ?_⟩
  refine pst_bind (P := Pst D G W M σ H Q) k re (fun c t h => h) (fun h => h) q fun t e1 v H1 ev1 re1 i1 q1 => ?_
  dsimp only at q1
  split at q1
  · rename_i a
    cases i1 with
    | str _ hk =>
      refine ⟨rfl, ka G W M σ H1 e1 re1 _ ?_⟩
      cases z : am e1 with
      | ex c t => rw [z] at q1; exact ExW.ev ev1 q1
      | no => rw [z] at q1; exact (q1 : False).elim
      | ok w =>
        obtain ⟨us, e2⟩ := w
        rw [z] at q1
        intro vs H2 ev2 re2 l2
        dsimp only [R.bind] at q1
        split at q1
        · rename_i u
          cases z2 : seqT u with
          | none => rw [z2] at q1; exact (q1 : False).elim
          | some ts =>
            rw [z2] at q1
            dsimp only at q1
            obtain ⟨vv, rfl, iu⟩ := pair1 l2
            obtain ⟨ad, xs, rfl, hx, lx⟩ := iu.toB.seq z2
            unfold joinT at q1
            cases z3 : strsT ts with
            | none => rw [z3] at q1; exact (q1 : False).elim
            | some ys =>
              rw [z3] at q1
              by_cases hb : (Nat.ble ((ys.map List.length).sum + ys.length * a.length) 16777216 && okS (TL.joinL a ys)) = true
              · dsimp only at q1
                rw [if_pos hb] at q1
                dsimp only [R.bind] at q1
                obtain ⟨hb1, hb2⟩ := Bool.and_eq_true_iff.mp hb
                have ex := lx.strs z3
                subst ex
                refine ⟨⟨a.toArray⟩, ad, ys.map SX.S, rfl, rfl, hx, ?_, ?_⟩
                · have := Nat.le_of_ble_eq_true hb1
                  rw [SX.lens, List.length_map]
                  show _ + ys.length * (SX.S a).length ≤ _
                  rw [SX.S_len]
                  exact this
                · have j := SX.join_S a ys
                  rw [show (⟨a.toArray⟩ : Str) = SX.S a from rfl, j]
                  exact q1 _ H2 (ev1.trans ev2) re2 (.str _ hb2)
              · dsimp only at q1
                rw [if_neg hb] at q1
                exact (q1 : False).elim
        · exact (q1 : False).elim
  · exact (q1 : False).elim
end
/-! ### dict(..) of a list of pairs -/
def pairsT : List T → Option (List (T × T))
  | [] => some []
  | .tup [k, v] :: ts => match keyO k with
    | some _ => (pairsT ts).map ((k, v) :: ·)
    | none => none
  | _ => none
def mergeT (ks vs : List T) : List (T × T) → List T × List T
  | [] => (ks, vs)
  | (k, v) :: r => mergeT (putD ks vs k v).1 (putD ks vs k v).2 r
def fDictP : List T → Option T
  | [t] => (lstT t).bind fun ts => (pairsT ts).map fun ps => .dct false (mergeT [] [] ps).1 (mergeT [] [] ps).2
  | _ => none
section
variable {K : PySem.W.Frag} {W : Addr → Prop} {H : Hp}
theorem pairs_is : ∀ {xs : List V} {ts : List T} {ps : List (T × T)}, IsL K W H xs ts → pairsT ts = some ps → ∃ (as : List Addr) (kvs : List (Key × V)), xs = as.map V.ref ∧ Paired (fun p kv => SqT K H p [kV kv.1, kv.2]) as kvs ∧
    (∀ kv ∈ kvs, okKey kv.1 = true) ∧ Paired (fun (kv : Key × V) (q : T × T) => keyT kv.1 = q.1 ∧ Is K W H kv.2 q.2) kvs ps
  | _, _, _, .nil, e => by cases e; exact ⟨[], [], rfl, .nil, (fun _ h => nomatch h), .nil⟩
  | _, _, _, .cons i l, e => by
    unfold pairsT at e
    split at e
    · rename_i h0; exact nomatch h0
    · rename_i k v ts e0
      cases e0
      cases hk : keyO k with
      | none => rw [hk] at e; cases e
      | some key =>
        rw [hk] at e
        obtain ⟨ps, e1, rfl⟩ := map_some e
        obtain ⟨as, kvs, h1, h2, h3, h4⟩ := pairs_is l e1
        cases i with
        | tup hx lx =>
          rename_i a xs
          cases lx with
          | cons ik lx => cases lx with
            | cons iv lx =>
              cases lx
              have ev := key_val hk ik
              subst ev
              refine ⟨a :: as, (key, _) :: kvs, by rw [h1]; rfl, .cons hx h2, fun kv hm => ?_, .cons ⟨keyT_of hk, iv⟩ h4⟩
              rcases List.mem_cons.mp hm with rfl | hm
              · exact key_ok hk ik
              · exact h3 kv hm
    · cases e
theorem merge_is : ∀ {kvs : List (Key × V)} {ps : List (T × T)} {acc : List (Key × V)} {vs : List T}, Paired (fun (kv : Key × V) (q : T × T) => keyT kv.1 = q.1 ∧ Is K W H kv.2 q.2) kvs ps → (∀ kv ∈ kvs, okKey kv.1 = true) → (∀ kv ∈ acc, okKey kv.1 = true) → IsL K W H (acc.map (·.2)) vs →
    (mergeT (acc.map fun p => keyT p.1) vs ps).1 = (mergeK acc kvs).map (fun p => keyT p.1) ∧ IsL K W H ((mergeK acc kvs).map (·.2)) (mergeT (acc.map fun p => keyT p.1) vs ps).2 ∧ ∀ kv ∈ mergeK acc kvs, okKey kv.1 = true
  | _, _, acc, vs, .nil, _, h2, l => ⟨rfl, l, h2⟩
  | (k, v) :: kvs, (kt, vt) :: ps, acc, vs, .cons ⟨e1, e2⟩ r, h1, h2, l => by
    dsimp only at e1 e2
    subst e1
    obtain ⟨q1, q2⟩ := put_is (k := k) l e2
    have h3 := put_ok (v := v) h2 (h1 (k, v) List.mem_cons_self)
    have ih := merge_is (acc := putK acc k v) (vs := (putD (acc.map fun p => keyT p.1) vs (keyT k) vt).2) r (fun kv hm => h1 kv (List.mem_cons_of_mem _ hm)) h3 q2
    rw [q1] at ih
    exact ih
theorem nk_dictP : NK K (fun xs H Q => ∃ (a : Addr) (ps : List Addr) (kvs : List (Key × V)), xs = [.ref a] ∧ SqL K H a (ps.map V.ref) ∧ Paired (fun p kv => SqT K H p [kV kv.1, kv.2]) ps kvs ∧ ∀ p, H p = none → Q (.ref p) (upd H p (.dK (mergeK [] kvs)))) fDictP := by
  intro W H mu vs ts l t e Q q
  unfold fDictP at e
  split at e
  · obtain ⟨us, e1, e2⟩ := one_seq e
    obtain ⟨ps, e3, rfl⟩ := map_some e2
    obtain ⟨v, rfl, h⟩ := pair1 l
    obtain ⟨a, xs, rfl, h1, h2⟩ := h.lstE e1
    obtain ⟨as, kvs, rfl, k1, k2, k3⟩ := pairs_is h2 e3
    obtain ⟨m1, m2, m3⟩ := merge_is (acc := []) (vs := []) k3 k2 (fun _ h => nomatch h) .nil
    refine ⟨a, as, kvs, rfl, h1, k1, fun p hp => q p _ hp ?_⟩
    refine ⟨_, ?_, m2⟩
    have d := DO.k (mergeK [] kvs) m3
    rw [← m1] at d
    exact d
  · cases e
end
section
variable {D : Dat} {e : Expr} {es : List Expr} {am : AM} {pos p : Pos}
theorem bf_dict (hg : D.sc.names.lookup ("dict" : Str) = some .globalImplicit) (hm : D.mg "dict" = none) (ha : MM D (e :: es) am)
    (he : ∀ env, starEach (e :: es) env = (false, eval e env) :: starEach es env := by exact fun _ => rfl) (hpl : ∀ env, (backTo pos (starEach es env)).any (·.1) = false := by exact fun _ => rfl) : MN D (.Call (.Name "dict" p) (e :: es) [] pos) (xCB fDictP am) :=
  mn_ct (fun _ => call_dictP rfl) nk_dictP rfl hg hm ha (by decide) (by decide) he hpl
end
end M3
namespace M3
open PySem PySem.Spec PyProof.Rows L2
/-! ### min, max of a tuple of ints -/
theorem minOf_I : ∀ (ns : List Int) (n : Int), PySem.W.minOf n ns = minI n ns
  | [], n => rfl
  | y :: r, n => by
    show PySem.W.minOf (if PySem.W.DatumOrd.lt y n = true then y else n) r = minI (if y < n then y else n) r
    rw [← minOf_I r]
    congr 1
    show (if decide (y < n) = true then y else n) = _
    simp
theorem maxOf_I : ∀ (ns : List Int) (n : Int), PySem.W.maxOf n ns = maxI n ns
  | [], n => rfl
  | y :: r, n => by
    show PySem.W.maxOf (if PySem.W.DatumOrd.lt n y = true then y else n) r = maxI (if n < y then y else n) r
    rw [← maxOf_I r]
    congr 1
    show (if decide (n < y) = true then y else n) = _
    simp
theorem holdI : ∀ {h : Heap} {vs : List Value} {ns : List Int}, IntsAre vs ns → PySem.W.HoldAll h vs ns
  | _, _, _, .nil => .nil
  | _, _, _, .cons _ _ i => .cons (PySem.W.holds_int _ _) (holdI i)
theorem hold_int {h : Heap} {v : Value} {n : Int} (H : PySem.W.Holds h v n) : ∃ t, v = .int n t := by
  obtain ⟨as, r⟩ := H
  cases r
  exact ⟨_, rfl⟩
def rMinT (K : PySem.W.Frag) : List V → Hp → VK → Prop := fun vs H Q => ∃ (a : Addr) (n : Int) (ns : List Int), vs = [V.ref a] ∧ SqT K H a ((n :: ns).map V.int) ∧ Q (.int (minI n ns)) H
def rMaxT (K : PySem.W.Frag) : List V → Hp → VK → Prop := fun vs H Q => ∃ (a : Addr) (n : Int) (ns : List Int), vs = [V.ref a] ∧ SqT K H a ((n :: ns).map V.int) ∧ Q (.int (maxI n ns)) H
theorem cr_minT {X : Cx} (hc : X.calm = true) (hu : X.A.units + 1 < cLine) : CallR X (.builtin "min") (rMinT X.K) := by
  intro pins s σ H vs us Q I r h
  obtain ⟨a, n, ns, rfl, hs, q⟩ := h
  obtain ⟨its, rv, hl, _⟩ := I.tuple hs
  rw [Vals.ref1 r]
  refine PySem.W.min_tuple_datum (I.ok.hd hc) hl (holdI (by rw [List.toList_toArray]; exact rv.ints)) hu fun i v h' tk _ hv hk => ?_
  obtain ⟨t, rfl⟩ := hold_int hv
  rw [minOf_I] at *
  exact ⟨.int _, H, I.kept hk, ⟨_, rfl⟩, q⟩
theorem cr_maxT {X : Cx} (hc : X.calm = true) (hu : X.A.units + 1 < cLine) : CallR X (.builtin "max") (rMaxT X.K) := by
  intro pins s σ H vs us Q I r h
  obtain ⟨a, n, ns, rfl, hs, q⟩ := h
  obtain ⟨its, rv, hl, _⟩ := I.tuple hs
  rw [Vals.ref1 r]
  refine PySem.W.max_tuple_datum (I.ok.hd hc) hl (holdI (by rw [List.toList_toArray]; exact rv.ints)) hu fun i v h' tk _ hv hk => ?_
  obtain ⟨t, rfl⟩ := hold_int hv
  rw [maxOf_I] at *
  exact ⟨.int _, H, I.kept hk, ⟨_, rfl⟩, q⟩
@[simp] def fMinQ : List T → Option T
  | [t] => (seqT t).bind fun ts => (intsT ts).bind fun
    | [] => none
    | i :: r => some (.int (minI i r))
  | _ => none
@[simp] def fMaxQ : List T → Option T
  | [t] => (seqT t).bind fun ts => (intsT ts).bind fun
    | [] => none
    | i :: r => some (.int (maxI i r))
  | _ => none
theorem ck_minQ {K : PySem.W.Frag} : CK K (fun vs H Q => rMin K vs H Q ∨ rMinT K vs H Q) fMinQ := by
  intro W H mu vs ts l t e Q q
  unfold fMinQ at e
  split at e
  · rename_i t0
    obtain ⟨us, e1, e2⟩ := one_seq e
    cases t0 with
    | lst us' => cases e1; exact .inl (ck_min W H mu _ _ l t e2 Q q)
    | frz us' => cases e1; exact .inl (ck_min W H mu _ _ l t e2 Q q)
    | tup us' =>
      cases e1
      obtain ⟨ns, e3, e4⟩ := one_seq e2
      obtain ⟨v, rfl, h⟩ := pair1 l
      rcases h with h | ⟨a, rfl, o⟩
      · cases h with
        | tup h1 h2 =>
          rw [h2.ints e3] at h1
          cases ns with
          | nil => cases e4
          | cons i r => cases e4; exact .inr ⟨_, i, r, rfl, h1, q _ H (Same.refl _) (.int _)⟩
      · exact (o : False).elim
    | _ => cases e1
  · cases e
theorem ck_maxQ {K : PySem.W.Frag} : CK K (fun vs H Q => rMax K vs H Q ∨ rMaxT K vs H Q) fMaxQ := by
  intro W H mu vs ts l t e Q q
  unfold fMaxQ at e
  split at e
  · rename_i t0
    obtain ⟨us, e1, e2⟩ := one_seq e
    cases t0 with
    | lst us' => cases e1; exact .inl (ck_max W H mu _ _ l t e2 Q q)
    | frz us' => cases e1; exact .inl (ck_max W H mu _ _ l t e2 Q q)
    | tup us' =>
      cases e1
      obtain ⟨ns, e3, e4⟩ := one_seq e2
      obtain ⟨v, rfl, h⟩ := pair1 l
      rcases h with h | ⟨a, rfl, o⟩
      · cases h with
        | tup h1 h2 =>
          rw [h2.ints e3] at h1
          cases ns with
          | nil => cases e4
          | cons i r => cases e4; exact .inr ⟨_, i, r, rfl, h1, q _ H (Same.refl _) (.int _)⟩
      · exact (o : False).elim
    | _ => cases e1
  · cases e
section
variable {D : Dat} {e : Expr} {es : List Expr} {am : AM} {pos p : Pos} {k : Nat}
theorem bf_minQ (hr : Room k D.A) (hg : D.sc.names.lookup ("min" : Str) = some .globalImplicit) (hm : D.mg "min" = none) (ha : MM D (e :: es) am)
    (he : ∀ env, starEach (e :: es) env = (false, eval e env) :: starEach es env := by exact fun _ => rfl) (hpl : ∀ env, (backTo pos (starEach es env)).any (·.1) = false := by exact fun _ => rfl) : ME D (.Call (.Name "min" p) (e :: es) [] pos) (xCB fMinQ am) :=
  me_cb (fun v => (cr_min (X := D.cx v) rfl).or (cr_minT (X := D.cx v) rfl (by have := hr.un; show D.A.units + 1 < cLine; omega))) ck_minQ rfl hg hm ha (by decide) (by decide) he hpl
theorem bf_maxQ (hr : Room k D.A) (hg : D.sc.names.lookup ("max" : Str) = some .globalImplicit) (hm : D.mg "max" = none) (ha : MM D (e :: es) am)
    (he : ∀ env, starEach (e :: es) env = (false, eval e env) :: starEach es env := by exact fun _ => rfl) (hpl : ∀ env, (backTo pos (starEach es env)).any (·.1) = false := by exact fun _ => rfl) : ME D (.Call (.Name "max" p) (e :: es) [] pos) (xCB fMaxQ am) :=
  me_cb (fun v => (cr_max (X := D.cx v) rfl).or (cr_maxT (X := D.cx v) rfl (by have := hr.un; show D.A.units + 1 < cLine; omega))) ck_maxQ rfl hg hm ha (by decide) (by decide) he hpl
end
end M3
/-! iceyards_k43_turned_yards: derivations printed by gen.py -/
namespace LK
open PySem PySem.Spec PyProof.Rows L2 M3
abbrev prog : Program := PySem.Challenge.pw_iceyards_k43_turned_yards
def st (i : Nat) : Stmt := prog.main.body.getD i (.Pass ⟨0, 0, 0, 0⟩)
structure CG (tk : Nat) (K : PySem.W.Frag) (mg : Str → Option Value) : Prop where
  b_len : mg "len" = none
  b_int : mg "int" = none
  b_sum : mg "sum" = none
  b_abs : mg "abs" = none
  b_sorted : mg "sorted" = none
  b_range : mg "range" = none
  b_tuple : mg "tuple" = none
  b_max : mg "max" = none
  b_min : mg "min" = none
  b_isinstance : mg "isinstance" = none
  b_list : mg "list" = none
  b_all : mg "all" = none
  b_bool : mg "bool" = none
  b_str : mg "str" = none
  b_zip : mg "zip" = none
  b_any : mg "any" = none
  b_divmod : mg "divmod" = none
  b_dict : mg "dict" = none
  c_SIGNS : ∃ t, mg "SIGNS" = some (.str "+-0" t)
  c_PLUS : ∃ t, mg "PLUS" = some (.str "+" t)
  c_MINUS : ∃ t, mg "MINUS" = some (.str "-" t)
  c_MOST_ROWS : ∃ t, mg "MOST_ROWS" = some (.int 5 t)
  c_MIRROR : ∃ t, mg "MIRROR" = some (.str "mirror" t)
  c_OVER : ∃ t, mg "OVER" = some (.str "over" t)
  c_SWAP : ∃ t, mg "SWAP" = some (.str "swap" t)
  c_WHEEL : ∃ t, mg "WHEEL" = some (.str "wheel" t)
  r_ZERO : ∃ t, mg "ZERO" = some (.str "0" t) ∧ 0 < t ∧ t < tk
/-! _law_well -/
abbrev st__law_well : Stmt := st 34
abbrev N__law_well : List Str := ["script", "turn", "own", "stir", "cell"]
abbrev P__law_well : List Str := ["script", "turn"]
theorem S__law_well : FnScope N__law_well P__law_well (defScope st__law_well) := ⟨rfl, rfl, rfl, by decide +kernel, rfl, by decide +kernel, by decide +kernel⟩
theorem B__law_well : BindsAll "_law_well" st__law_well P__law_well := fun _ _ _ _ _ _ us h => match us, h with | [_, _], _ => rfl
theorem nd__law_well : List.Nodup N__law_well := by decide +kernel
def M__law_well : { m : SM // ∀ {tk : Nat} {P : Program} {w : World} {K : PySem.W.Frag} {mg : Str → Option Value} {base : Heap} {A : Around} {E : XK} {k : Nat} (cg : CG tk K mg) (hr : Room k A), MSs (Prg.dat P w K mg base tk N__law_well (defScope st__law_well) A E) (defBody st__law_well) m } := ⟨_, fun cg hr =>
  (mss_cons (ss_ nd__law_well 2 (me_if (ct_lt (ev_ 1) (mb_of (bf_len (by rfl) cg.b_len (mm_val (ev_ 0) mm_nil)))) (bf_int (by rfl) cg.b_int (mm_val (ex_ix (ev_ 0) (mb_of (ev_ 1))) mm_nil)) (bo_add (bo_add (bo_mul me_int (mb_of (ev_ 1))) (mb_of (bo_mod (bf_int (by rfl) cg.b_int (mm_val (bf_sum (by rfl) cg.b_sum (mm_val (me_sl (ev_ 0) mo_none (mo_some me_int)) mm_nil)) mm_nil)) (mb_of me_int)))) (mb_of me_int)))) (mss_cons (ss_ nd__law_well 3 (bo_add me_int (mb_of (bo_mul me_int (mb_of (ev_ 1)))))) (mss_cons (ms_for (mi_any (bo_add (me_sl (ev_ 0) mo_none (mo_some me_int)) (mb_of (me_of_new (mn_lst (ma_cons (ev_ 2) ma_nil)))))) (gn_ nd__law_well 4) (mss_one (ss_ nd__law_well 3 (bo_mod (bf_int (by rfl) cg.b_int (mm_val (bo_add (bo_add (bo_mul (ev_ 3) (mb_of me_int)) (mb_of (bo_mod (bf_int (by rfl) cg.b_int (mm_val (ev_ 4) mm_nil)) (mb_of me_int)))) (mb_of me_int)) mm_nil)) (mb_of me_int))))) (mss_one (ms_retF (mn_lst (ma_cons (me_if (mt_w (mw_or (ct_lt (ev_ 2) (mb_of me_int)) (mw_or1 (ct_ge (ev_ 2) (mb_of (bo_pow me_int (mb_of me_int))))))) (bf_abs (by rfl) cg.b_abs (mm_val (ev_ 2) mm_nil)) me_int) (ma_cons (ev_ 3) (ma_cons me_int ma_nil)))))))))⟩
def g__law_well := fnN N__law_well.length M__law_well.1
-- depth 1 kind N
/-! _law_lines -/
abbrev st__law_lines : Stmt := st 38
abbrev N__law_lines : List Str := ["many", "found", "line", "text", "total"]
abbrev P__law_lines : List Str := ["many"]
theorem S__law_lines : FnScope N__law_lines P__law_lines (defScope st__law_lines) := ⟨rfl, rfl, rfl, by decide +kernel, rfl, by decide +kernel, by decide +kernel⟩
theorem B__law_lines : BindsAll "_law_lines" st__law_lines P__law_lines := fun _ _ _ _ _ _ us h => match us, h with | [_], _ => rfl
theorem nd__law_lines : List.Nodup N__law_lines := by decide +kernel
def M__law_lines : { m : SM // ∀ {tk : Nat} {P : Program} {w : World} {K : PySem.W.Frag} {mg : Str → Option Value} {base : Heap} {A : Around} {E : XK} {k : Nat} (cg : CG tk K mg) (hr : Room k A), MSs (Prg.dat P w K mg base tk N__law_lines (defScope st__law_lines) A E) (defBody st__law_lines) m } := ⟨_, fun cg hr =>
  (mss_cons (ms_par 1 2 nd__law_lines (by rfl) (by rfl) (by decide) (by rfl) (by rfl) (mf_new (mn_lst ma_nil) (mf_new (mn_lst (ma_cons (me_tup (ma_cons (me_str []) (ma_cons me_int ma_nil))) ma_nil)) mf_nil)) (fun _ => rfl)) (mss_cons (ms_while 3000 (to_ne 2 hr (mb_of (me_of_new (mn_lst ma_nil)))) (mss_cons (ms_asg (mg_tup (mgs_cons (gn_ nd__law_lines 3) (mgs_cons (gn_ nd__law_lines 4) mgs_nil))) (m_pop 2)) (mss_one (ms_if (ct_eq hr (bf_len (by rfl) cg.b_len (mm_val (ev_ 3) mm_nil)) (mb_of (ev_ 0))) (mss_one (ms_if (ct_eq hr (ev_ 4) (mb_of me_int)) (mss_one (ms_expr (m_app 1 (ma_cons (ev_ 3) ma_nil)))) mss_nil)) (mss_cons (ms_expr (m_app 2 (ma_cons (me_tup (ma_cons (bo_add (ev_ 3) (mb_of (me_str [48]))) (ma_cons (ev_ 4) ma_nil))) ma_nil))) (mss_one (ms_expr (m_app 2 (ma_cons (me_if (ct_eq hr (ev_ 4) (mb_of me_int)) (me_tup (ma_cons (bo_add (ev_ 3) (mb_of (me_str [45]))) (ma_cons me_int ma_nil))) (me_tup (ma_cons (bo_add (ev_ 3) (mb_of (me_str [43]))) (ma_cons me_int ma_nil)))) ma_nil))))))))) (mss_one (ms_ret (me_of_new (bf_sorted (by rfl) cg.b_sorted (mo_ 1 mm_nil)))))))⟩
def g__law_lines := fnM N__law_lines.length M__law_lines.1
-- depth 1 kind P
/-! _law_yards -/
abbrev st__law_yards : Stmt := st 39
abbrev N__law_yards : List Str := ["many", "turn", "rows", "found", "later", "yard", "totals", "row", "sums", "at"]
abbrev P__law_yards : List Str := ["many"]
theorem S__law_yards : FnScope N__law_yards P__law_yards (defScope st__law_yards) := ⟨rfl, rfl, rfl, by decide +kernel, rfl, by decide +kernel, by decide +kernel⟩
theorem B__law_yards : BindsAll "_law_yards" st__law_yards P__law_yards := fun _ _ _ _ _ _ us h => match us, h with | [_], _ => rfl
theorem nd__law_yards : List.Nodup N__law_yards := by decide +kernel
def M__law_yards : { m : SM // ∀ {tk : Nat} {P : Program} {w : World} {K : PySem.W.Frag} {mg : Str → Option Value} {base : Heap} {A : Around} {E : XK} {k : Nat} (cg : CG tk K mg) (hr : Room k A) (F__law_lines : FnX tk P w K mg base k "_law_lines" st__law_lines P__law_lines (spP K mg 1 g__law_lines)), MSs (Prg.dat P w K mg base tk N__law_yards (defScope st__law_yards) A E) (defBody st__law_yards) m } := ⟨_, fun cg hr F__law_lines =>
  (mss_cons (ms_par 2 3 nd__law_yards (by rfl) (by rfl) (by decide) (by rfl) (by rfl) (mf_val (kP_ F__law_lines hr B__law_lines (ma_cons (ev_ 0) ma_nil)) (mf_val (me_of_new (mn_lst (ma_cons (me_tup (ma_cons (me_tup ma_nil) (ma_cons (bo_mul (me_tup (ma_cons me_int ma_nil)) (mb_of (ev_ 0))) ma_nil))) ma_nil))) mf_nil)) (fun _ => rfl)) (mss_cons (ms_for (mi_range1 (by rfl) cg.b_range (ma_cons (ev_ 0) ma_nil)) (gn_ nd__law_yards 1) (mss_cons (sn_ nd__law_yards 4 (mn_lst ma_nil)) (mss_cons (ms_for (mi_any (ev_ 3)) (mg_tup (mgs_cons (gn_ nd__law_yards 5) (mgs_cons (gn_ nd__law_yards 6) mgs_nil))) (mss_one (ms_for (mi_any (ev_ 2)) (gn_ nd__law_yards 7) (mss_cons (ss_ nd__law_yards 8 (bf_tuple (by rfl) cg.b_tuple (mm_val (me_of_new (mn_lc (own := [("at", 9)]) nd__law_yards ⟨rfl, by decide +kernel, by dsimp only [Prg.dat, Dat.blk]; decide +kernel, by dsimp only [Prg.dat, Dat.blk]; decide +kernel, by dsimp only [Prg.dat, Dat.blk]; decide +kernel⟩ (mi_range1 (by rfl) cg.b_range (ma_cons (ev_ 0) ma_nil)) (gn_ nd__law_yards 9) (by decide) mc_nil (bo_add (ex_ix (ev_ 6) (mb_of (ev_ 9))) (mb_of (me_if (ct_eq hr (ex_ix (ev_ 7) (mb_of (ev_ 9))) (mb_of (me_str [43]))) me_int (me_if (ct_eq hr (ex_ix (ev_ 7) (mb_of (ev_ 9))) (mb_of (me_str [45]))) (me_neg me_int) me_int)))))) mm_nil))) (mss_one (ms_if (mt_w (mw_and (ct_ge (bf_minQ hr (by rfl) cg.b_min (mm_val (ev_ 8) mm_nil)) (mb_of me_int)) (mw_and1 (ct_le (bf_maxQ hr (by rfl) cg.b_max (mm_val (ev_ 8) mm_nil)) (mb_of me_int))))) (mss_one (ms_expr (m_app 4 (ma_cons (me_tup (ma_cons (bo_add (ev_ 5) (mb_of (me_tup (ma_cons (ev_ 7) ma_nil)))) (ma_cons (ev_ 8) ma_nil))) ma_nil)))) mss_nil)))))) (mss_one (ms_frz 4 (ss_ nd__law_yards 3 (ev_ 4))))))) (mss_one (ms_ret (me_of_new (bf_sorted (by rfl) cg.b_sorted (mm_val (me_of_new (mn_lc (own := [("yard", 5), ("totals", 6)]) nd__law_yards ⟨rfl, by decide +kernel, by dsimp only [Prg.dat, Dat.blk]; decide +kernel, by dsimp only [Prg.dat, Dat.blk]; decide +kernel, by dsimp only [Prg.dat, Dat.blk]; decide +kernel⟩ (mi_any (ev_ 3)) (mg_tup (mgs_cons (gn_ nd__law_yards 5) (mgs_cons (gn_ nd__law_yards 6) mgs_nil))) (by decide) (mc_one (ct_eq hr (bf_minQ hr (by rfl) cg.b_min (mm_val (ev_ 6) mm_nil)) (mb_of me_int))) (ev_ 5))) mm_nil)))))))⟩
def g__law_yards := fnM N__law_yards.length M__law_yards.1
-- depth 2 kind P
/-! _law_same -/
abbrev st__law_same : Stmt := st 37
abbrev N__law_same : List Str := ["told", "due", "at"]
abbrev P__law_same : List Str := ["told", "due"]
theorem S__law_same : FnScope N__law_same P__law_same (defScope st__law_same) := ⟨rfl, rfl, rfl, by decide +kernel, rfl, by decide +kernel, by decide +kernel⟩
theorem B__law_same : BindsAll "_law_same" st__law_same P__law_same := fun _ _ _ _ _ _ us h => match us, h with | [_, _], _ => rfl
theorem nd__law_same : List.Nodup N__law_same := by decide +kernel
def M__law_same (g__law_same : List T → R T) : { m : SM // ∀ {tk : Nat} {P : Program} {w : World} {K : PySem.W.Frag} {mg : Str → Option Value} {base : Heap} {A : Around} {E : XK} {k : Nat} (cg : CG tk K mg) (hr : Room k A) (F__law_same : FnX tk P w K mg base k "_law_same" st__law_same P__law_same (spP K mg 2 g__law_same)), MSs (Prg.dat P w K mg base tk N__law_same (defScope st__law_same) A E) (defBody st__law_same) m } := ⟨_, fun cg hr F__law_same =>
  (mss_cons (ms_if (mt_w (mw_or (mt_tru (mb_of (me_isi (y := .tuple) rfl (by rfl) cg.b_isinstance (by rfl) cg.b_tuple (ev_ 1)))) (mw_or1 (mt_tru (mb_of (me_isi (y := .list) rfl (by rfl) cg.b_isinstance (by rfl) cg.b_list (ev_ 1))))))) (mss_cons (ms_if (mt_w (mw_or (ct_ne hr (me_isi (y := .tuple) rfl (by rfl) cg.b_isinstance (by rfl) cg.b_tuple (ev_ 0)) (mb_of (me_isi (y := .tuple) rfl (by rfl) cg.b_isinstance (by rfl) cg.b_tuple (ev_ 1)))) (mw_or1 (ct_ne hr (me_isi (y := .list) rfl (by rfl) cg.b_isinstance (by rfl) cg.b_list (ev_ 0)) (mb_of (me_isi (y := .list) rfl (by rfl) cg.b_isinstance (by rfl) cg.b_list (ev_ 1))))))) (mss_one (ms_ret me_bl)) mss_nil) (mss_one (ms_ret (me_and (ce_eq hr (bf_len (by rfl) cg.b_len (mm_val (ev_ 0) mm_nil)) (mb_of (bf_len (by rfl) cg.b_len (mm_val (ev_ 1) mm_nil)))) (me_one (bf_all (by rfl) cg.b_all (mm_val (me_of_new (mn_lc (own := [("at", 2)]) nd__law_same ⟨rfl, by decide +kernel, by dsimp only [Prg.dat, Dat.blk]; decide +kernel, by dsimp only [Prg.dat, Dat.blk]; decide +kernel, by dsimp only [Prg.dat, Dat.blk]; decide +kernel⟩ (mi_range1 (by rfl) cg.b_range (ma_cons (bf_len (by rfl) cg.b_len (mm_val (ev_ 1) mm_nil)) ma_nil)) (gn_ nd__law_same 2) (by decide) mc_nil (kP_ F__law_same hr B__law_same (ma_cons (ex_ix (ev_ 0) (mb_of (ev_ 2))) (ma_cons (ex_ix (ev_ 1) (mb_of (ev_ 2))) ma_nil))))) mm_nil))))))) mss_nil) (mss_cons (ms_if (ct_is (ev_ 1) (mb_of me_non)) (mss_one (ms_ret (ce_is (ev_ 0) (mb_of me_non)))) mss_nil) (mss_cons (ms_if (mt_tru (mb_of (me_isi (y := .bool) rfl (by rfl) cg.b_isinstance (by rfl) cg.b_bool (ev_ 1)))) (mss_one (ms_ret (me_and (me_isi (y := .bool) rfl (by rfl) cg.b_isinstance (by rfl) cg.b_bool (ev_ 0)) (me_one (ce_eq hr (ev_ 0) (mb_of (ev_ 1))))))) mss_nil) (mss_cons (ms_if (mt_tru (mb_of (me_isi (y := .int) rfl (by rfl) cg.b_isinstance (by rfl) cg.b_int (ev_ 1)))) (mss_one (ms_ret (me_and (me_isi (y := .int) rfl (by rfl) cg.b_isinstance (by rfl) cg.b_int (ev_ 0)) (me_and (me_not (mb_of (me_isi (y := .bool) rfl (by rfl) cg.b_isinstance (by rfl) cg.b_bool (ev_ 0)))) (me_one (ce_eq hr (ev_ 0) (mb_of (ev_ 1)))))))) mss_nil) (mss_one (ms_ret (me_and (me_isi (y := .str) rfl (by rfl) cg.b_isinstance (by rfl) cg.b_str (ev_ 0)) (me_one (ce_eq hr (ev_ 0) (mb_of (ev_ 1)))))))))))⟩
def g__law_same : Nat → List T → R T
  | 0 => fun _ => .no
  | n + 1 => fnM N__law_same.length (M__law_same (g__law_same n)).1
-- depth 6 kind P
/-! _law_turned -/
abbrev st__law_turned : Stmt := st 40
abbrev N__law_turned : List Str := ["yard", "word", "many", "sides", "column", "row"]
abbrev P__law_turned : List Str := ["yard", "word"]
theorem S__law_turned : FnScope N__law_turned P__law_turned (defScope st__law_turned) := ⟨rfl, rfl, rfl, by decide +kernel, rfl, by decide +kernel, by decide +kernel⟩
theorem B__law_turned : BindsAll "_law_turned" st__law_turned P__law_turned := fun _ _ _ _ _ _ us h => match us, h with | [_, _], _ => rfl
theorem nd__law_turned : List.Nodup N__law_turned := by decide +kernel
def M__law_turned : { m : SM // ∀ {tk : Nat} {P : Program} {w : World} {K : PySem.W.Frag} {mg : Str → Option Value} {base : Heap} {A : Around} {E : XK} {k : Nat} (cg : CG tk K mg) (hr : Room k A), MSs (Prg.dat P w K mg base tk N__law_turned (defScope st__law_turned) A E) (defBody st__law_turned) m } := ⟨_, fun cg hr =>
  (mss_cons (ss_ nd__law_turned 2 (bf_len (by rfl) cg.b_len (mm_val (ev_ 0) mm_nil))) (mss_cons (ms_if (ct_eq hr (ev_ 1) (mb_of (me_str [109, 105, 114, 114, 111, 114]))) (mss_one (ms_ret (bf_tuple (by rfl) cg.b_tuple (mm_val (me_of_new (mn_lc (own := [("row", 5)]) nd__law_turned ⟨rfl, by decide +kernel, by dsimp only [Prg.dat, Dat.blk]; decide +kernel, by dsimp only [Prg.dat, Dat.blk]; decide +kernel, by dsimp only [Prg.dat, Dat.blk]; decide +kernel⟩ (mi_any (ev_ 0)) (gn_ nd__law_turned 5) (by decide) mc_nil (me_rev (mb_of (ev_ 5))))) mm_nil)))) mss_nil) (mss_cons (ms_if (ct_eq hr (ev_ 1) (mb_of (me_str [111, 118, 101, 114]))) (mss_one (ms_ret (me_rev (mb_of (ev_ 0))))) mss_nil) (mss_cons (ss_ nd__law_turned 3 (bf_tuple (by rfl) cg.b_tuple (mm_val (me_of_new (mn_lc (own := [("column", 4)]) nd__law_turned ⟨rfl, by decide +kernel, by dsimp only [Prg.dat, Dat.blk]; decide +kernel, by dsimp only [Prg.dat, Dat.blk]; decide +kernel, by dsimp only [Prg.dat, Dat.blk]; decide +kernel⟩ (mi_range1 (by rfl) cg.b_range (ma_cons (ev_ 2) ma_nil)) (gn_ nd__law_turned 4) (by decide) mc_nil (s_join (me_str []) (mm_val (me_of_new (mn_lc (own := [("row", 5)]) nd__law_turned ⟨rfl, by decide +kernel, by dsimp only [Prg.dat, Dat.blk]; decide +kernel, by dsimp only [Prg.dat, Dat.blk]; decide +kernel, by dsimp only [Prg.dat, Dat.blk]; decide +kernel⟩ (mi_range1 (by rfl) cg.b_range (ma_cons (ev_ 2) ma_nil)) (gn_ nd__law_turned 5) (by decide) mc_nil (ex_ix (ex_ix (ev_ 0) (mb_of (ev_ 5))) (mb_of (ev_ 4))))) mm_nil)))) mm_nil))) (mss_one (ms_ret (me_if (ct_eq hr (ev_ 1) (mb_of (me_str [115, 119, 97, 112]))) (ev_ 3) (bf_tuple (by rfl) cg.b_tuple (mm_val (me_of_new (mn_lc (own := [("row", 5)]) nd__law_turned ⟨rfl, by decide +kernel, by dsimp only [Prg.dat, Dat.blk]; decide +kernel, by dsimp only [Prg.dat, Dat.blk]; decide +kernel, by dsimp only [Prg.dat, Dat.blk]; decide +kernel⟩ (mi_any (ev_ 3)) (gn_ nd__law_turned 5) (by decide) mc_nil (me_rev (mb_of (ev_ 5))))) mm_nil)))))))))⟩
def g__law_turned := fnM N__law_turned.length M__law_turned.1
-- depth 1 kind P
/-! is_tuple_of -/
abbrev st_is_tuple_of : Stmt := st 4
abbrev N_is_tuple_of : List Str := ["value", "many"]
abbrev P_is_tuple_of : List Str := ["value", "many"]
theorem S_is_tuple_of : FnScope N_is_tuple_of P_is_tuple_of (defScope st_is_tuple_of) := ⟨rfl, rfl, rfl, by decide +kernel, rfl, by decide +kernel, by decide +kernel⟩
theorem B_is_tuple_of : BindsAll "is_tuple_of" st_is_tuple_of P_is_tuple_of := fun _ _ _ _ _ _ us h => match us, h with | [_, _], _ => rfl
theorem nd_is_tuple_of : List.Nodup N_is_tuple_of := by decide +kernel
def M_is_tuple_of : { m : SM // ∀ {tk : Nat} {P : Program} {w : World} {K : PySem.W.Frag} {mg : Str → Option Value} {base : Heap} {A : Around} {E : XK} {k : Nat} (cg : CG tk K mg) (hr : Room k A), MSs (Prg.dat P w K mg base tk N_is_tuple_of (defScope st_is_tuple_of) A E) (defBody st_is_tuple_of) m } := ⟨_, fun cg hr =>
  (mss_one (ms_ret (me_and (me_isi (y := .tuple) rfl (by rfl) cg.b_isinstance (by rfl) cg.b_tuple (ev_ 0)) (me_one (ce_eq hr (bf_len (by rfl) cg.b_len (mm_val (ev_ 0) mm_nil)) (mb_of (ev_ 1)))))))⟩
def g_is_tuple_of := fnM N_is_tuple_of.length M_is_tuple_of.1
-- depth 1 kind P
/-! is_text_of -/
abbrev st_is_text_of : Stmt := st 5
abbrev N_is_text_of : List Str := ["value", "signs", "sign"]
abbrev P_is_text_of : List Str := ["value", "signs"]
theorem S_is_text_of : FnScope N_is_text_of P_is_text_of (defScope st_is_text_of) := ⟨rfl, rfl, rfl, by decide +kernel, rfl, by decide +kernel, by decide +kernel⟩
theorem B_is_text_of : BindsAll "is_text_of" st_is_text_of P_is_text_of := fun _ _ _ _ _ _ us h => match us, h with | [_, _], _ => rfl
theorem nd_is_text_of : List.Nodup N_is_text_of := by decide +kernel
def M_is_text_of : { m : SM // ∀ {tk : Nat} {P : Program} {w : World} {K : PySem.W.Frag} {mg : Str → Option Value} {base : Heap} {A : Around} {E : XK} {k : Nat} (cg : CG tk K mg) (hr : Room k A), MSs (Prg.dat P w K mg base tk N_is_text_of (defScope st_is_text_of) A E) (defBody st_is_text_of) m } := ⟨_, fun cg hr =>
  (mss_one (ms_ret (me_and (me_isi (y := .str) rfl (by rfl) cg.b_isinstance (by rfl) cg.b_str (ev_ 0)) (me_one (bf_all (by rfl) cg.b_all (mm_val (me_of_new (mn_lc (own := [("sign", 2)]) nd_is_text_of ⟨rfl, by decide +kernel, by dsimp only [Prg.dat, Dat.blk]; decide +kernel, by dsimp only [Prg.dat, Dat.blk]; decide +kernel, by dsimp only [Prg.dat, Dat.blk]; decide +kernel⟩ (mi_any (ev_ 0)) (gn_ nd_is_text_of 2) (by decide) mc_nil (ce_in hr (ev_ 2) (mb_of (ev_ 1))))) mm_nil))))))⟩
def g_is_text_of := fnM N_is_text_of.length M_is_text_of.1
-- depth 1 kind P
/-! is_sign_row -/
abbrev st_is_sign_row : Stmt := st 12
abbrev N_is_sign_row : List Str := ["number", "value"]
abbrev P_is_sign_row : List Str := ["number", "value"]
theorem S_is_sign_row : FnScope N_is_sign_row P_is_sign_row (defScope st_is_sign_row) := ⟨rfl, rfl, rfl, by decide +kernel, rfl, by decide +kernel, by decide +kernel⟩
theorem B_is_sign_row : BindsAll "is_sign_row" st_is_sign_row P_is_sign_row := fun _ _ _ _ _ _ us h => match us, h with | [_, _], _ => rfl
theorem nd_is_sign_row : List.Nodup N_is_sign_row := by decide +kernel
def M_is_sign_row : { m : SM // ∀ {tk : Nat} {P : Program} {w : World} {K : PySem.W.Frag} {mg : Str → Option Value} {base : Heap} {A : Around} {E : XK} {k : Nat} (cg : CG tk K mg) (hr : Room k A) (F_is_text_of : FnX tk P w K mg base k "is_text_of" st_is_text_of P_is_text_of (spP K mg 2 g_is_text_of)), MSs (Prg.dat P w K mg base tk N_is_sign_row (defScope st_is_sign_row) A E) (defBody st_is_sign_row) m } := ⟨_, fun cg hr F_is_text_of =>
  (mss_one (ms_ret (me_and (kP_ F_is_text_of hr B_is_text_of (ma_cons (ev_ 1) (ma_cons (gk_str [43, 45, 48] (by rfl) cg.c_SIGNS) ma_nil))) (me_one (ce_eq hr (bf_len (by rfl) cg.b_len (mm_val (ev_ 1) mm_nil)) (mb_of (ev_ 0)))))))⟩
def g_is_sign_row := fnM N_is_sign_row.length M_is_sign_row.1
-- depth 2 kind P
/-! are_sign_rows -/
abbrev st_are_sign_rows : Stmt := st 13
abbrev N_are_sign_rows : List Str := ["number", "value", "row"]
abbrev P_are_sign_rows : List Str := ["number", "value"]
theorem S_are_sign_rows : FnScope N_are_sign_rows P_are_sign_rows (defScope st_are_sign_rows) := ⟨rfl, rfl, rfl, by decide +kernel, rfl, by decide +kernel, by decide +kernel⟩
theorem B_are_sign_rows : BindsAll "are_sign_rows" st_are_sign_rows P_are_sign_rows := fun _ _ _ _ _ _ us h => match us, h with | [_, _], _ => rfl
theorem nd_are_sign_rows : List.Nodup N_are_sign_rows := by decide +kernel
def M_are_sign_rows : { m : SM // ∀ {tk : Nat} {P : Program} {w : World} {K : PySem.W.Frag} {mg : Str → Option Value} {base : Heap} {A : Around} {E : XK} {k : Nat} (cg : CG tk K mg) (hr : Room k A) (F_is_sign_row : FnX tk P w K mg base k "is_sign_row" st_is_sign_row P_is_sign_row (spP K mg 2 g_is_sign_row)) (F_is_tuple_of : FnX tk P w K mg base k "is_tuple_of" st_is_tuple_of P_is_tuple_of (spP K mg 2 g_is_tuple_of)), MSs (Prg.dat P w K mg base tk N_are_sign_rows (defScope st_are_sign_rows) A E) (defBody st_are_sign_rows) m } := ⟨_, fun cg hr F_is_sign_row F_is_tuple_of =>
  (mss_one (ms_ret (me_and (kP_ F_is_tuple_of hr B_is_tuple_of (ma_cons (ev_ 1) (ma_cons (ev_ 0) ma_nil))) (me_one (bf_all (by rfl) cg.b_all (mm_val (me_of_new (mn_lc (own := [("row", 2)]) nd_are_sign_rows ⟨rfl, by decide +kernel, by dsimp only [Prg.dat, Dat.blk]; decide +kernel, by dsimp only [Prg.dat, Dat.blk]; decide +kernel, by dsimp only [Prg.dat, Dat.blk]; decide +kernel⟩ (mi_any (ev_ 1)) (gn_ nd_are_sign_rows 2) (by decide) mc_nil (kP_ F_is_sign_row hr B_is_sign_row (ma_cons (ev_ 0) (ma_cons (ev_ 2) ma_nil))))) mm_nil))))))⟩
def g_are_sign_rows := fnM N_are_sign_rows.length M_are_sign_rows.1
-- depth 3 kind P
/-! is_line -/
abbrev st_is_line : Stmt := st 14
abbrev N_is_line : List Str := ["line", "signs"]
abbrev P_is_line : List Str := ["line"]
theorem S_is_line : FnScope N_is_line P_is_line (defScope st_is_line) := ⟨rfl, rfl, rfl, by decide +kernel, rfl, by decide +kernel, by decide +kernel⟩
theorem B_is_line : BindsAll "is_line" st_is_line P_is_line := fun _ _ _ _ _ _ us h => match us, h with | [_], _ => rfl
theorem nd_is_line : List.Nodup N_is_line := by decide +kernel
def M_is_line : { m : SM // ∀ {tk : Nat} {P : Program} {w : World} {K : PySem.W.Frag} {mg : Str → Option Value} {base : Heap} {A : Around} {E : XK} {k : Nat} (cg : CG tk K mg) (hr : Room k A), MSs (Prg.dat P w K mg base tk N_is_line (defScope st_is_line) A E) (defBody st_is_line) m } := ⟨_, fun cg hr =>
  (mss_cons (ss_ nd_is_line 1 (s_strike 48 (ev_ 0) (by rfl) cg.r_ZERO)) (mss_one (ms_ret (ce_eq hr (ev_ 1) (mb_of (bo_add (bo_mul (bo_add (gk_str [43] (by rfl) cg.c_PLUS) (mb_of (gk_str [45] (by rfl) cg.c_MINUS))) (mb_of (bo_fdiv (bf_len (by rfl) cg.b_len (mm_val (ev_ 1) mm_nil)) (mb_of me_int)))) (mb_of (gk_str [43] (by rfl) cg.c_PLUS))))))))⟩
def g_is_line := fnM N_is_line.length M_is_line.1
-- depth 1 kind P
/-! columns_of -/
abbrev st_columns_of : Stmt := st 15
abbrev N_columns_of : List Str := ["rows", "column"]
abbrev P_columns_of : List Str := ["rows"]
theorem S_columns_of : FnScope N_columns_of P_columns_of (defScope st_columns_of) := ⟨rfl, rfl, rfl, by decide +kernel, rfl, by decide +kernel, by decide +kernel⟩
theorem B_columns_of : BindsAll "columns_of" st_columns_of P_columns_of := fun _ _ _ _ _ _ us h => match us, h with | [_], _ => rfl
theorem nd_columns_of : List.Nodup N_columns_of := by decide +kernel
def M_columns_of : { m : SM // ∀ {tk : Nat} {P : Program} {w : World} {K : PySem.W.Frag} {mg : Str → Option Value} {base : Heap} {A : Around} {E : XK} {k : Nat} (cg : CG tk K mg) (hr : Room k A), MSs (Prg.dat P w K mg base tk N_columns_of (defScope st_columns_of) A E) (defBody st_columns_of) m } := ⟨_, fun cg hr =>
  (mss_one (ms_ret (me_of_new (mn_lc (own := [("column", 1)]) nd_columns_of ⟨rfl, by decide +kernel, by dsimp only [Prg.dat, Dat.blk]; decide +kernel, by dsimp only [Prg.dat, Dat.blk]; decide +kernel, by dsimp only [Prg.dat, Dat.blk]; decide +kernel⟩ (mi_zipS (by rfl) cg.b_zip (mb_of (ev_ 0))) (gn_ nd_columns_of 1) (by decide) mc_nil (s_join (me_str []) (mm_val (ev_ 1) mm_nil))))))⟩
def g_columns_of := fnM N_columns_of.length M_columns_of.1
-- depth 1 kind P
/-! is_yard_of -/
abbrev st_is_yard_of : Stmt := st 16
abbrev N_is_yard_of : List Str := ["number", "value", "line"]
abbrev P_is_yard_of : List Str := ["number", "value"]
theorem S_is_yard_of : FnScope N_is_yard_of P_is_yard_of (defScope st_is_yard_of) := ⟨rfl, rfl, rfl, by decide +kernel, rfl, by decide +kernel, by decide +kernel⟩
theorem B_is_yard_of : BindsAll "is_yard_of" st_is_yard_of P_is_yard_of := fun _ _ _ _ _ _ us h => match us, h with | [_, _], _ => rfl
theorem nd_is_yard_of : List.Nodup N_is_yard_of := by decide +kernel
def M_is_yard_of : { m : SM // ∀ {tk : Nat} {P : Program} {w : World} {K : PySem.W.Frag} {mg : Str → Option Value} {base : Heap} {A : Around} {E : XK} {k : Nat} (cg : CG tk K mg) (hr : Room k A) (F_columns_of : FnX tk P w K mg base k "columns_of" st_columns_of P_columns_of (spP K mg 1 g_columns_of)) (F_is_line : FnX tk P w K mg base k "is_line" st_is_line P_is_line (spP K mg 1 g_is_line)) (F_are_sign_rows : FnX tk P w K mg base k "are_sign_rows" st_are_sign_rows P_are_sign_rows (spP K mg 2 g_are_sign_rows)), MSs (Prg.dat P w K mg base tk N_is_yard_of (defScope st_is_yard_of) A E) (defBody st_is_yard_of) m } := ⟨_, fun cg hr F_columns_of F_is_line F_are_sign_rows =>
  (mss_one (ms_ret (me_and (kP_ F_are_sign_rows hr B_are_sign_rows (ma_cons (ev_ 0) (ma_cons (ev_ 1) ma_nil))) (me_one (bf_all (by rfl) cg.b_all (mm_val (me_of_new (mn_lc (own := [("line", 2)]) nd_is_yard_of ⟨rfl, by decide +kernel, by dsimp only [Prg.dat, Dat.blk]; decide +kernel, by dsimp only [Prg.dat, Dat.blk]; decide +kernel, by dsimp only [Prg.dat, Dat.blk]; decide +kernel⟩ (mi_any (me_of_new (mn_lst (ma_star (mb_of (ev_ 1)) (ma_star (mb_of (kP_ F_columns_of hr B_columns_of (ma_cons (ev_ 1) ma_nil))) ma_nil))))) (gn_ nd_is_yard_of 2) (by decide) mc_nil (kP_ F_is_line hr B_is_line (ma_cons (ev_ 2) ma_nil)))) mm_nil))))))⟩
def g_is_yard_of := fnM N_is_yard_of.length M_is_yard_of.1
-- depth 4 kind P
/-! is_yarded -/
abbrev st_is_yarded : Stmt := st 17
abbrev N_is_yarded : List Str := ["value", "number"]
abbrev P_is_yarded : List Str := ["value"]
theorem S_is_yarded : FnScope N_is_yarded P_is_yarded (defScope st_is_yarded) := ⟨rfl, rfl, rfl, by decide +kernel, rfl, by decide +kernel, by decide +kernel⟩
theorem B_is_yarded : BindsAll "is_yarded" st_is_yarded P_is_yarded := fun _ _ _ _ _ _ us h => match us, h with | [_], _ => rfl
theorem nd_is_yarded : List.Nodup N_is_yarded := by decide +kernel
def M_is_yarded : { m : SM // ∀ {tk : Nat} {P : Program} {w : World} {K : PySem.W.Frag} {mg : Str → Option Value} {base : Heap} {A : Around} {E : XK} {k : Nat} (cg : CG tk K mg) (hr : Room k A) (F_is_yard_of : FnX tk P w K mg base k "is_yard_of" st_is_yard_of P_is_yard_of (spP K mg 2 g_is_yard_of)), MSs (Prg.dat P w K mg base tk N_is_yarded (defScope st_is_yarded) A E) (defBody st_is_yarded) m } := ⟨_, fun cg hr F_is_yard_of =>
  (mss_one (ms_ret (bf_any (by rfl) cg.b_any (mm_val (me_of_new (mn_lc (own := [("number", 1)]) nd_is_yarded ⟨rfl, by decide +kernel, by dsimp only [Prg.dat, Dat.blk]; decide +kernel, by dsimp only [Prg.dat, Dat.blk]; decide +kernel, by dsimp only [Prg.dat, Dat.blk]; decide +kernel⟩ (mi_range2 (by rfl) cg.b_range (ma_cons me_int (ma_cons (bo_add (gk_int (by rfl) cg.c_MOST_ROWS) (mb_of me_int)) ma_nil))) (gn_ nd_is_yarded 1) (by decide) mc_nil (kP_ F_is_yard_of hr B_is_yard_of (ma_cons (ev_ 1) (ma_cons (ev_ 0) ma_nil))))) mm_nil))))⟩
def g_is_yarded := fnM N_is_yarded.length M_is_yarded.1
-- depth 5 kind P
/-! check_yard -/
abbrev st_check_yard : Stmt := st 25
abbrev N_check_yard : List Str := ["yard"]
abbrev P_check_yard : List Str := ["yard"]
theorem S_check_yard : FnScope N_check_yard P_check_yard (defScope st_check_yard) := ⟨rfl, rfl, rfl, by decide +kernel, rfl, by decide +kernel, by decide +kernel⟩
theorem B_check_yard : BindsAll "check_yard" st_check_yard P_check_yard := fun _ _ _ _ _ _ us h => match us, h with | [_], _ => rfl
theorem nd_check_yard : List.Nodup N_check_yard := by decide +kernel
def M_check_yard : { m : SM // ∀ {tk : Nat} {P : Program} {w : World} {K : PySem.W.Frag} {mg : Str → Option Value} {base : Heap} {A : Around} {E : XK} {k : Nat} (cg : CG tk K mg) (hr : Room k A) (F_is_yarded : FnX tk P w K mg base k "is_yarded" st_is_yarded P_is_yarded (spP K mg 1 g_is_yarded)), MSs (Prg.dat P w K mg base tk N_check_yard (defScope st_check_yard) A E) (defBody st_check_yard) m } := ⟨_, fun cg hr F_is_yarded =>
  (mss_one (ms_if (mt_not (mt_tru (mb_of (kP_ F_is_yarded hr B_is_yarded (ma_cons (ev_ 0) ma_nil))))) (mss_one ms_no) mss_nil))⟩
def g_check_yard := fnM N_check_yard.length M_check_yard.1
-- depth 6 kind P
/-! turned_by -/
abbrev st_turned_by : Stmt := st 23
abbrev N_turned_by : List Str := ["yard", "word", "row"]
abbrev P_turned_by : List Str := ["yard", "word"]
theorem S_turned_by : FnScope N_turned_by P_turned_by (defScope st_turned_by) := ⟨rfl, rfl, rfl, by decide +kernel, rfl, by decide +kernel, by decide +kernel⟩
theorem B_turned_by : BindsAll "turned_by" st_turned_by P_turned_by := fun _ _ _ _ _ _ us h => match us, h with | [_, _], _ => rfl
theorem nd_turned_by : List.Nodup N_turned_by := by decide +kernel
def M_turned_by : { m : SM // ∀ {tk : Nat} {P : Program} {w : World} {K : PySem.W.Frag} {mg : Str → Option Value} {base : Heap} {A : Around} {E : XK} {k : Nat} (cg : CG tk K mg) (hr : Room k A) (F_columns_of : FnX tk P w K mg base k "columns_of" st_columns_of P_columns_of (spP K mg 1 g_columns_of)), MSs (Prg.dat P w K mg base tk N_turned_by (defScope st_turned_by) A E) (defBody st_turned_by) m } := ⟨_, fun cg hr F_columns_of =>
  (mss_cons (ms_if (ct_eq hr (ev_ 1) (mb_of (gk_str [109, 105, 114, 114, 111, 114] (by rfl) cg.c_MIRROR))) (mss_one (ms_ret (bf_tuple (by rfl) cg.b_tuple (mm_val (me_of_new (mn_lc (own := [("row", 2)]) nd_turned_by ⟨rfl, by decide +kernel, by dsimp only [Prg.dat, Dat.blk]; decide +kernel, by dsimp only [Prg.dat, Dat.blk]; decide +kernel, by dsimp only [Prg.dat, Dat.blk]; decide +kernel⟩ (mi_any (ev_ 0)) (gn_ nd_turned_by 2) (by decide) mc_nil (me_rev (mb_of (ev_ 2))))) mm_nil)))) mss_nil) (mss_cons (ms_if (ct_eq hr (ev_ 1) (mb_of (gk_str [111, 118, 101, 114] (by rfl) cg.c_OVER))) (mss_one (ms_ret (me_rev (mb_of (ev_ 0))))) mss_nil) (mss_one (ms_ret (me_if (ct_eq hr (ev_ 1) (mb_of (gk_str [115, 119, 97, 112] (by rfl) cg.c_SWAP))) (bf_tuple (by rfl) cg.b_tuple (mm_val (kP_ F_columns_of hr B_columns_of (ma_cons (ev_ 0) ma_nil)) mm_nil)) (bf_tuple (by rfl) cg.b_tuple (mm_val (kP_ F_columns_of hr B_columns_of (ma_cons (me_rev (mb_of (ev_ 0))) ma_nil)) mm_nil)))))))⟩
def g_turned_by := fnM N_turned_by.length M_turned_by.1
-- depth 2 kind P
/-! mirrored -/
abbrev st_mirrored : Stmt := st 27
abbrev N_mirrored : List Str := ["yard"]
abbrev P_mirrored : List Str := ["yard"]
theorem S_mirrored : FnScope N_mirrored P_mirrored (defScope st_mirrored) := ⟨rfl, rfl, rfl, by decide +kernel, rfl, by decide +kernel, by decide +kernel⟩
theorem B_mirrored : BindsAll "mirrored" st_mirrored P_mirrored := fun _ _ _ _ _ _ us h => match us, h with | [_], _ => rfl
theorem BK_mirrored_0_yard : BindsK "mirrored" st_mirrored P_mirrored 0 ["yard"] [0] := fun _ _ _ _ _ _ us ws h1 h2 => match us, ws, h1, h2 with | [], [_], _, _ => rfl
theorem nd_mirrored : List.Nodup N_mirrored := by decide +kernel
def M_mirrored : { m : SM // ∀ {tk : Nat} {P : Program} {w : World} {K : PySem.W.Frag} {mg : Str → Option Value} {base : Heap} {A : Around} {E : XK} {k : Nat} (cg : CG tk K mg) (hr : Room k A) (F_check_yard : FnX tk P w K mg base k "check_yard" st_check_yard P_check_yard (spP K mg 1 g_check_yard)) (F_turned_by : FnX tk P w K mg base k "turned_by" st_turned_by P_turned_by (spP K mg 2 g_turned_by)), MSs (Prg.dat P w K mg base tk N_mirrored (defScope st_mirrored) A E) (defBody st_mirrored) m } := ⟨_, fun cg hr F_check_yard F_turned_by =>
  (mss_cons (ms_expr (kP_ F_check_yard hr B_check_yard (ma_cons (ev_ 0) ma_nil))) (mss_one (ms_ret (kP_ F_turned_by hr B_turned_by (ma_cons (ev_ 0) (ma_cons (gk_str [109, 105, 114, 114, 111, 114] (by rfl) cg.c_MIRROR) ma_nil))))))⟩
def g_mirrored := fnM N_mirrored.length M_mirrored.1
-- depth 7 kind P
/-! turned_over -/
abbrev st_turned_over : Stmt := st 28
abbrev N_turned_over : List Str := ["yard"]
abbrev P_turned_over : List Str := ["yard"]
theorem S_turned_over : FnScope N_turned_over P_turned_over (defScope st_turned_over) := ⟨rfl, rfl, rfl, by decide +kernel, rfl, by decide +kernel, by decide +kernel⟩
theorem B_turned_over : BindsAll "turned_over" st_turned_over P_turned_over := fun _ _ _ _ _ _ us h => match us, h with | [_], _ => rfl
theorem BK_turned_over_0_yard : BindsK "turned_over" st_turned_over P_turned_over 0 ["yard"] [0] := fun _ _ _ _ _ _ us ws h1 h2 => match us, ws, h1, h2 with | [], [_], _, _ => rfl
theorem nd_turned_over : List.Nodup N_turned_over := by decide +kernel
def M_turned_over : { m : SM // ∀ {tk : Nat} {P : Program} {w : World} {K : PySem.W.Frag} {mg : Str → Option Value} {base : Heap} {A : Around} {E : XK} {k : Nat} (cg : CG tk K mg) (hr : Room k A) (F_check_yard : FnX tk P w K mg base k "check_yard" st_check_yard P_check_yard (spP K mg 1 g_check_yard)) (F_turned_by : FnX tk P w K mg base k "turned_by" st_turned_by P_turned_by (spP K mg 2 g_turned_by)), MSs (Prg.dat P w K mg base tk N_turned_over (defScope st_turned_over) A E) (defBody st_turned_over) m } := ⟨_, fun cg hr F_check_yard F_turned_by =>
  (mss_cons (ms_expr (kP_ F_check_yard hr B_check_yard (ma_cons (ev_ 0) ma_nil))) (mss_one (ms_ret (kP_ F_turned_by hr B_turned_by (ma_cons (ev_ 0) (ma_cons (gk_str [111, 118, 101, 114] (by rfl) cg.c_OVER) ma_nil))))))⟩
def g_turned_over := fnM N_turned_over.length M_turned_over.1
-- depth 7 kind P
/-! swapped -/
abbrev st_swapped : Stmt := st 29
abbrev N_swapped : List Str := ["yard"]
abbrev P_swapped : List Str := ["yard"]
theorem S_swapped : FnScope N_swapped P_swapped (defScope st_swapped) := ⟨rfl, rfl, rfl, by decide +kernel, rfl, by decide +kernel, by decide +kernel⟩
theorem B_swapped : BindsAll "swapped" st_swapped P_swapped := fun _ _ _ _ _ _ us h => match us, h with | [_], _ => rfl
theorem BK_swapped_0_yard : BindsK "swapped" st_swapped P_swapped 0 ["yard"] [0] := fun _ _ _ _ _ _ us ws h1 h2 => match us, ws, h1, h2 with | [], [_], _, _ => rfl
theorem nd_swapped : List.Nodup N_swapped := by decide +kernel
def M_swapped : { m : SM // ∀ {tk : Nat} {P : Program} {w : World} {K : PySem.W.Frag} {mg : Str → Option Value} {base : Heap} {A : Around} {E : XK} {k : Nat} (cg : CG tk K mg) (hr : Room k A) (F_check_yard : FnX tk P w K mg base k "check_yard" st_check_yard P_check_yard (spP K mg 1 g_check_yard)) (F_turned_by : FnX tk P w K mg base k "turned_by" st_turned_by P_turned_by (spP K mg 2 g_turned_by)), MSs (Prg.dat P w K mg base tk N_swapped (defScope st_swapped) A E) (defBody st_swapped) m } := ⟨_, fun cg hr F_check_yard F_turned_by =>
  (mss_cons (ms_expr (kP_ F_check_yard hr B_check_yard (ma_cons (ev_ 0) ma_nil))) (mss_one (ms_ret (kP_ F_turned_by hr B_turned_by (ma_cons (ev_ 0) (ma_cons (gk_str [115, 119, 97, 112] (by rfl) cg.c_SWAP) ma_nil))))))⟩
def g_swapped := fnM N_swapped.length M_swapped.1
-- depth 7 kind P
/-! wheeled -/
abbrev st_wheeled : Stmt := st 30
abbrev N_wheeled : List Str := ["yard"]
abbrev P_wheeled : List Str := ["yard"]
theorem S_wheeled : FnScope N_wheeled P_wheeled (defScope st_wheeled) := ⟨rfl, rfl, rfl, by decide +kernel, rfl, by decide +kernel, by decide +kernel⟩
theorem B_wheeled : BindsAll "wheeled" st_wheeled P_wheeled := fun _ _ _ _ _ _ us h => match us, h with | [_], _ => rfl
theorem BK_wheeled_0_yard : BindsK "wheeled" st_wheeled P_wheeled 0 ["yard"] [0] := fun _ _ _ _ _ _ us ws h1 h2 => match us, ws, h1, h2 with | [], [_], _, _ => rfl
theorem nd_wheeled : List.Nodup N_wheeled := by decide +kernel
def M_wheeled : { m : SM // ∀ {tk : Nat} {P : Program} {w : World} {K : PySem.W.Frag} {mg : Str → Option Value} {base : Heap} {A : Around} {E : XK} {k : Nat} (cg : CG tk K mg) (hr : Room k A) (F_check_yard : FnX tk P w K mg base k "check_yard" st_check_yard P_check_yard (spP K mg 1 g_check_yard)) (F_turned_by : FnX tk P w K mg base k "turned_by" st_turned_by P_turned_by (spP K mg 2 g_turned_by)), MSs (Prg.dat P w K mg base tk N_wheeled (defScope st_wheeled) A E) (defBody st_wheeled) m } := ⟨_, fun cg hr F_check_yard F_turned_by =>
  (mss_cons (ms_expr (kP_ F_check_yard hr B_check_yard (ma_cons (ev_ 0) ma_nil))) (mss_one (ms_ret (kP_ F_turned_by hr B_turned_by (ma_cons (ev_ 0) (ma_cons (gk_str [119, 104, 101, 101, 108] (by rfl) cg.c_WHEEL) ma_nil))))))⟩
def g_wheeled := fnM N_wheeled.length M_wheeled.1
-- depth 7 kind P
/-! is_yard -/
abbrev st_is_yard : Stmt := st 32
abbrev N_is_yard : List Str := ["value"]
abbrev P_is_yard : List Str := ["value"]
theorem S_is_yard : FnScope N_is_yard P_is_yard (defScope st_is_yard) := ⟨rfl, rfl, rfl, by decide +kernel, rfl, by decide +kernel, by decide +kernel⟩
theorem B_is_yard : BindsAll "is_yard" st_is_yard P_is_yard := fun _ _ _ _ _ _ us h => match us, h with | [_], _ => rfl
theorem nd_is_yard : List.Nodup N_is_yard := by decide +kernel
def M_is_yard : { m : SM // ∀ {tk : Nat} {P : Program} {w : World} {K : PySem.W.Frag} {mg : Str → Option Value} {base : Heap} {A : Around} {E : XK} {k : Nat} (cg : CG tk K mg) (hr : Room k A) (F_is_yarded : FnX tk P w K mg base k "is_yarded" st_is_yarded P_is_yarded (spP K mg 1 g_is_yarded)), MSs (Prg.dat P w K mg base tk N_is_yard (defScope st_is_yard) A E) (defBody st_is_yard) m } := ⟨_, fun cg hr F_is_yarded =>
  (mss_one (ms_ret (kP_ F_is_yarded hr B_is_yarded (ma_cons (ev_ 0) ma_nil))))⟩
def g_is_yard := fnM N_is_yard.length M_is_yard.1
-- depth 6 kind P
/-! _law_right -/
abbrev st__law_right : Stmt := st 41
abbrev N__law_right : List Str := ["yard", "due", "told", "named", "word", "each"]
abbrev P__law_right : List Str := ["yard"]
theorem S__law_right : FnScope N__law_right P__law_right (defScope st__law_right) := ⟨rfl, rfl, rfl, by decide +kernel, rfl, by decide +kernel, by decide +kernel⟩
theorem B__law_right : BindsAll "_law_right" st__law_right P__law_right := fun _ _ _ _ _ _ us h => match us, h with | [_], _ => rfl
theorem nd__law_right : List.Nodup N__law_right := by decide +kernel
def M__law_right : { m : SM // ∀ {tk : Nat} {P : Program} {w : World} {K : PySem.W.Frag} {mg : Str → Option Value} {base : Heap} {A : Around} {E : XK} {k : Nat} (cg : CG tk K mg) (hr : Room k A) (F__law_turned : FnX tk P w K mg base k "_law_turned" st__law_turned P__law_turned (spP K mg 2 g__law_turned)) (F_mirrored : FnX tk P w K mg base k "mirrored" st_mirrored P_mirrored (spP K mg 1 g_mirrored)) (F_turned_over : FnX tk P w K mg base k "turned_over" st_turned_over P_turned_over (spP K mg 1 g_turned_over)) (F_swapped : FnX tk P w K mg base k "swapped" st_swapped P_swapped (spP K mg 1 g_swapped)) (F_wheeled : FnX tk P w K mg base k "wheeled" st_wheeled P_wheeled (spP K mg 1 g_wheeled)) (F_is_yard : FnX tk P w K mg base k "is_yard" st_is_yard P_is_yard (spP K mg 1 g_is_yard)) (F__law_same : FnX tk P w K mg base k "_law_same" st__law_same P__law_same (spP K mg 2 (g__law_same 6))), MSs (Prg.dat P w K mg base tk N__law_right (defScope st__law_right) A E) (defBody st__law_right) m } := ⟨_, fun cg hr F__law_turned F_mirrored F_turned_over F_swapped F_wheeled F_is_yard F__law_same =>
  (mss_cons (ms_setv (man_lc (own := [("word", 4)]) 1 nd__law_right (by rfl) (by rfl) (by rfl) (by rfl) (by rfl) ⟨rfl, by decide +kernel, by dsimp only [Prg.dat, Dat.blk]; decide +kernel, by dsimp only [Prg.dat, Dat.blk]; decide +kernel, by dsimp only [Prg.dat, Dat.blk]; decide +kernel⟩ (mi_any (me_of_new (mn_lst (ma_cons (me_str [109, 105, 114, 114, 111, 114]) (ma_cons (me_str [111, 118, 101, 114]) (ma_cons (me_str [115, 119, 97, 112]) (ma_cons (me_str [119, 104, 101, 101, 108]) ma_nil))))))) (gn_ nd__law_right 4) (by decide) mc_nil (kP_ F__law_turned hr B__law_turned (ma_cons (ev_ 0) (ma_cons (ev_ 4) ma_nil))))) (mss_cons (ss_ nd__law_right 2 (me_of_new (mn_lst (ma_cons (kP_ F_mirrored hr B_mirrored (ma_cons (ev_ 0) ma_nil)) (ma_cons (kP_ F_turned_over hr B_turned_over (ma_cons (ev_ 0) ma_nil)) (ma_cons (kP_ F_swapped hr B_swapped (ma_cons (ev_ 0) ma_nil)) (ma_cons (kP_ F_wheeled hr B_wheeled (ma_cons (ev_ 0) ma_nil)) ma_nil))))))) (mss_cons (ss_ nd__law_right 3 (me_of_new (mn_lst (ma_cons (kK0_ F_mirrored hr BK_mirrored_0_yard (mk_cons (ev_ 0) mk_nil)) (ma_cons (kK0_ F_turned_over hr BK_turned_over_0_yard (mk_cons (ev_ 0) mk_nil)) (ma_cons (kK0_ F_swapped hr BK_swapped_0_yard (mk_cons (ev_ 0) mk_nil)) (ma_cons (kK0_ F_wheeled hr BK_wheeled_0_yard (mk_cons (ev_ 0) mk_nil)) ma_nil))))))) (mss_cons (ms_if (mt_w (mw_or (mt_not (mt_tru (mb_of (kP_ F__law_same hr B__law_same (ma_cons (me_of_new (mn_lst (ma_cons (ev_ 2) (ma_cons (ev_ 3) ma_nil)))) (ma_cons (me_of_new (mn_lst (ma_cons (ev_ 1) (ma_cons (ev_ 1) ma_nil)))) ma_nil)))))) (mw_or1 (ct_ne hr (me_of_new (mn_lc (own := [("each", 5)]) nd__law_right ⟨rfl, by decide +kernel, by dsimp only [Prg.dat, Dat.blk]; decide +kernel, by dsimp only [Prg.dat, Dat.blk]; decide +kernel, by dsimp only [Prg.dat, Dat.blk]; decide +kernel⟩ (mi_any (ev_ 2)) (gn_ nd__law_right 5) (by decide) (mc_one (ct_isnot (kP_ F_is_yard hr B_is_yard (ma_cons (ev_ 5) ma_nil)) (mb_of me_bl))) (ev_ 5))) (mb_of (me_of_new (mn_lst ma_nil))))))) (mss_one (ms_ret me_bl)) mss_nil) (mss_cons (ms_if (mt_not (mt_tru (mb_of (kP_ F__law_same hr B__law_same (ma_cons (me_of_new (mn_lst (ma_cons (kP_ F_mirrored hr B_mirrored (ma_cons (ex_ix (ev_ 2) (mb_of me_int)) ma_nil)) (ma_cons (kP_ F_turned_over hr B_turned_over (ma_cons (ex_ix (ev_ 2) (mb_of me_int)) ma_nil)) (ma_cons (kP_ F_swapped hr B_swapped (ma_cons (ex_ix (ev_ 2) (mb_of me_int)) ma_nil)) (ma_cons (kP_ F_wheeled hr B_wheeled (ma_cons (kP_ F_wheeled hr B_wheeled (ma_cons (kP_ F_wheeled hr B_wheeled (ma_cons (ex_ix (ev_ 2) (mb_of me_int)) ma_nil)) ma_nil)) ma_nil)) ma_nil)))))) (ma_cons (bo_mul (me_of_new (mn_lst (ma_cons (ev_ 0) ma_nil))) (mb_of me_int)) ma_nil)))))) (mss_one (ms_ret me_bl)) mss_nil) (mss_one (ms_ret (kP_ F__law_same hr B__law_same (ma_cons (me_of_new (mn_lst (ma_cons (kP_ F_mirrored hr B_mirrored (ma_cons (ex_ix (ev_ 2) (mb_of me_int)) ma_nil)) (ma_cons (kP_ F_swapped hr B_swapped (ma_cons (ex_ix (ev_ 2) (mb_of me_int)) ma_nil)) (ma_cons (kP_ F_turned_over hr B_turned_over (ma_cons (ex_ix (ev_ 2) (mb_of me_int)) ma_nil)) ma_nil))))) (ma_cons (me_of_new (mn_lst (ma_cons (ex_ix (ev_ 2) (mb_of me_int)) (ma_cons (ex_ix (ev_ 2) (mb_of me_int)) (ma_cons (kP_ F_wheeled hr B_wheeled (ma_cons (ex_ix (ev_ 2) (mb_of me_int)) ma_nil)) ma_nil))))) ma_nil))))))))))⟩
def g__law_right := fnM N__law_right.length M__law_right.1
-- depth 8 kind P
/-! _law_take -/
abbrev st__law_take : Stmt := st 35
abbrev N__law_take : List Str := ["well", "many", "by", "figure"]
abbrev P__law_take : List Str := ["well", "many"]
theorem S__law_take : FnScope N__law_take P__law_take (defScope st__law_take) := ⟨rfl, rfl, rfl, by decide +kernel, rfl, by decide +kernel, by decide +kernel⟩
theorem B__law_take : BindsAll "_law_take" st__law_take P__law_take := fun _ _ _ _ _ _ us h => match us, h with | [_, _], _ => rfl
theorem nd__law_take : List.Nodup N__law_take := by decide +kernel
def M__law_take : { m : SM // ∀ {tk : Nat} {P : Program} {w : World} {K : PySem.W.Frag} {mg : Str → Option Value} {base : Heap} {A : Around} {E : XK} {k : Nat} (cg : CG tk K mg) (hr : Room k A), MSs (Prg.dat P w K mg base tk N__law_take (defScope st__law_take) A E) (defBody st__law_take) m } := ⟨_, fun cg hr =>
  (mss_cons (ms_if (ct_gt (ix_o 0 (mb_of me_int)) (mb_of me_int)) (mss_cons (ms_asg (mg_tup (mgs_cons (gs_ 0 me_int) (mgs_cons (gn_ nd__law_take 3) mgs_nil))) (bf_divmod (by rfl) cg.b_divmod (mm_val (ix_o 0 (mb_of me_int)) (mm_val (ev_ 1) mm_nil)))) (mss_one (ms_ret (ev_ 3)))) mss_nil) (mss_cons (ms_asg (gs_ 0 me_int) (bo_add (ix_o 0 (mb_of me_int)) (mb_of me_int))) (mss_cons (ss_ nd__law_take 2 (bo_add (bo_mod (bf_int (by rfl) cg.b_int (mm_val (ix_o 0 (mb_of me_int)) mm_nil)) (mb_of me_int)) (mb_of me_int))) (mss_cons (ms_asg (gs_ 0 me_int) (bo_mod (bf_int (by rfl) cg.b_int (mm_val (bo_add (bo_add (bo_mul (ix_o 0 (mb_of me_int)) (mb_of (ev_ 2))) (mb_of (bo_mul me_int (mb_of (ix_o 0 (mb_of me_int)))))) (mb_of me_int)) mm_nil)) (mb_of me_int))) (mss_one (ms_ret (bo_mod (bf_int (by rfl) cg.b_int (mm_val (bo_fdiv (ix_o 0 (mb_of me_int)) (mb_of me_int)) mm_nil)) (mb_of (ev_ 1)))))))))⟩
def g__law_take := fnI N__law_take.length M__law_take.1
-- depth 1 kind I
/-! _law_pick -/
abbrev st__law_pick : Stmt := st 36
abbrev N__law_pick : List Str := ["well", "some"]
abbrev P__law_pick : List Str := ["well", "some"]
theorem S__law_pick : FnScope N__law_pick P__law_pick (defScope st__law_pick) := ⟨rfl, rfl, rfl, by decide +kernel, rfl, by decide +kernel, by decide +kernel⟩
theorem B__law_pick : BindsAll "_law_pick" st__law_pick P__law_pick := fun _ _ _ _ _ _ us h => match us, h with | [_, _], _ => rfl
theorem nd__law_pick : List.Nodup N__law_pick := by decide +kernel
def M__law_pick : { m : SM // ∀ {tk : Nat} {P : Program} {w : World} {K : PySem.W.Frag} {mg : Str → Option Value} {base : Heap} {A : Around} {E : XK} {k : Nat} (cg : CG tk K mg) (hr : Room k A) (F__law_take : FnX tk P w K mg base k "_law_take" st__law_take P__law_take (spI K mg 2 g__law_take)), MSs (Prg.dat P w K mg base tk N__law_pick (defScope st__law_pick) A E) (defBody st__law_pick) m } := ⟨_, fun cg hr F__law_take =>
  (mss_one (ms_ret (ex_ix (ev_ 1) (mb_of (kI_ 0 F__law_take hr B__law_take (ma_cons (bf_len (by rfl) cg.b_len (mm_val (ev_ 1) mm_nil)) ma_nil))))))⟩
def g__law_pick := fnI N__law_pick.length M__law_pick.1
-- depth 2 kind I
/-! law -/
abbrev st_law : Stmt := st 42
abbrev N_law : List Str := ["script", "every", "many", "turn", "well", "yard"]
abbrev P_law : List Str := ["script"]
theorem S_law : FnScope N_law P_law (defScope st_law) := ⟨rfl, rfl, rfl, by decide +kernel, rfl, by decide +kernel, by decide +kernel⟩
theorem B_law : BindsAll "law" st_law P_law := fun _ _ _ _ _ _ us h => match us, h with | [_], _ => rfl
theorem nd_law : List.Nodup N_law := by decide +kernel
def M_law : { m : SM // ∀ {tk : Nat} {P : Program} {w : World} {K : PySem.W.Frag} {mg : Str → Option Value} {base : Heap} {A : Around} {E : XK} {k : Nat} (cg : CG tk K mg) (hr : Room k A) (F__law_yards : FnX tk P w K mg base k "_law_yards" st__law_yards P__law_yards (spP K mg 1 g__law_yards)) (F__law_right : FnX tk P w K mg base k "_law_right" st__law_right P__law_right (spP K mg 1 g__law_right)) (F__law_well : FnX tk P w K mg base k "_law_well" st__law_well P__law_well (spN K mg 2 g__law_well)) (F__law_pick : FnX tk P w K mg base k "_law_pick" st__law_pick P__law_pick (spI K mg 2 g__law_pick)), MSs (Prg.dat P w K mg base tk N_law (defScope st_law) A E) (defBody st_law) m } := ⟨_, fun cg hr F__law_yards F__law_right F__law_well F__law_pick =>
  (mss_cons (ss_ nd_law 1 (me_of_new (bf_dict (by rfl) cg.b_dict (mm_val (me_of_new (mn_lc (own := [("many", 2)]) nd_law ⟨rfl, by decide +kernel, by dsimp only [Prg.dat, Dat.blk]; decide +kernel, by dsimp only [Prg.dat, Dat.blk]; decide +kernel, by dsimp only [Prg.dat, Dat.blk]; decide +kernel⟩ (mi_range2 (by rfl) cg.b_range (ma_cons me_int (ma_cons me_int ma_nil))) (gn_ nd_law 2) (by decide) mc_nil (me_tup (ma_cons (ev_ 2) (ma_cons (kP_ F__law_yards hr B__law_yards (ma_cons (ev_ 2) ma_nil)) ma_nil))))) mm_nil)))) (mss_cons (ms_for (mi_any (me_of_new (mn_lst (ma_cons me_int (ma_cons me_int (ma_cons me_int ma_nil)))))) (gn_ nd_law 2) (mss_one (ms_if (mt_not (mt_tru (mb_of (bf_all (by rfl) cg.b_all (mm_val (me_of_new (mn_lc (own := [("yard", 5)]) nd_law ⟨rfl, by decide +kernel, by dsimp only [Prg.dat, Dat.blk]; decide +kernel, by dsimp only [Prg.dat, Dat.blk]; decide +kernel, by dsimp only [Prg.dat, Dat.blk]; decide +kernel⟩ (mi_any (ex_ix (ev_ 1) (mb_of (ev_ 2)))) (gn_ nd_law 5) (by decide) mc_nil (kP_ F__law_right hr B__law_right (ma_cons (ev_ 5) ma_nil)))) mm_nil))))) (mss_one (ms_ret me_bl)) mss_nil))) (mss_cons (ms_for (mi_range1 (by rfl) cg.b_range (ma_cons (bf_max2 (by rfl) cg.b_max (mm_val me_int (mm_val (bf_min2 (by rfl) cg.b_min (mm_val (bf_len (by rfl) cg.b_len (mm_val (ev_ 0) mm_nil)) (mm_val me_int mm_nil))) mm_nil))) ma_nil)) (gn_ nd_law 3) (mss_cons (sn_ nd_law 4 (kN_ F__law_well hr B__law_well (ma_cons (ev_ 0) (ma_cons (ev_ 3) ma_nil)))) (mss_one (ms_for (mi_any (me_of_new (mn_lst (ma_cons me_int (ma_cons me_int (ma_cons me_int (ma_cons me_int (ma_cons me_int (ma_cons me_int (ma_cons me_int (ma_cons me_int ma_nil))))))))))) (gn_ nd_law 2) (mss_one (ms_if (mt_not (mt_tru (mb_of (kP_ F__law_right hr B__law_right (ma_cons (kI_ 4 F__law_pick hr B__law_pick (ma_cons (ex_ix (ev_ 1) (mb_of (ev_ 2))) ma_nil)) ma_nil))))) (mss_one (ms_ret me_bl)) mss_nil)))))) (mss_one (ms_ret me_bl)))))⟩
def g_law := fnM N_law.length M_law.1
-- depth 9 kind P
structure DF (K : PySem.W.Frag) (mg : Str → Option Value) : Prop where
  d__law_well : Df K mg "_law_well" st__law_well
  d__law_lines : Df K mg "_law_lines" st__law_lines
  d__law_yards : Df K mg "_law_yards" st__law_yards
  d__law_same : Df K mg "_law_same" st__law_same
  d__law_turned : Df K mg "_law_turned" st__law_turned
  d_is_tuple_of : Df K mg "is_tuple_of" st_is_tuple_of
  d_is_text_of : Df K mg "is_text_of" st_is_text_of
  d_is_sign_row : Df K mg "is_sign_row" st_is_sign_row
  d_are_sign_rows : Df K mg "are_sign_rows" st_are_sign_rows
  d_is_line : Df K mg "is_line" st_is_line
  d_columns_of : Df K mg "columns_of" st_columns_of
  d_is_yard_of : Df K mg "is_yard_of" st_is_yard_of
  d_is_yarded : Df K mg "is_yarded" st_is_yarded
  d_check_yard : Df K mg "check_yard" st_check_yard
  d_turned_by : Df K mg "turned_by" st_turned_by
  d_mirrored : Df K mg "mirrored" st_mirrored
  d_turned_over : Df K mg "turned_over" st_turned_over
  d_swapped : Df K mg "swapped" st_swapped
  d_wheeled : Df K mg "wheeled" st_wheeled
  d_is_yard : Df K mg "is_yard" st_is_yard
  d__law_right : Df K mg "_law_right" st__law_right
  d__law_take : Df K mg "_law_take" st__law_take
  d__law_pick : Df K mg "_law_pick" st__law_pick
  d_law : Df K mg "law" st_law
section
variable {tk : Nat} {P : Program} {w : World} {K : PySem.W.Frag} {mg : Str → Option Value} {base : Heap}
theorem x__law_well (cg : CG tk K mg) (df : DF K mg) {k : Nat} (h : 1 ≤ k) : FnX tk P w K mg base k "_law_well" st__law_well P__law_well (spN K mg 2 g__law_well) := (fx_new (k := 0) df.d__law_well S__law_well fun A E hr => M__law_well.2 cg hr ).mono h
theorem x__law_lines (cg : CG tk K mg) (df : DF K mg) {k : Nat} (h : 1 ≤ k) : FnX tk P w K mg base k "_law_lines" st__law_lines P__law_lines (spP K mg 1 g__law_lines) := (fx_pure (k := 0) df.d__law_lines S__law_lines fun A E hr => M__law_lines.2 cg hr ).mono h
theorem x__law_yards (cg : CG tk K mg) (df : DF K mg) {k : Nat} (h : 2 ≤ k) : FnX tk P w K mg base k "_law_yards" st__law_yards P__law_yards (spP K mg 1 g__law_yards) := (fx_pure (k := 1) df.d__law_yards S__law_yards fun A E hr => M__law_yards.2 cg hr (x__law_lines cg df (by omega))).mono h
theorem x__law_same (cg : CG tk K mg) (df : DF K mg) : ∀ (n : Nat) {k : Nat}, 0 + n ≤ k → FnX tk P w K mg base k "_law_same" st__law_same P__law_same (spP K mg 2 (g__law_same n))
  | 0, _, _ => fx_neverP df.d__law_same
  | n + 1, _, h => (fx_pure (k := 0 + n) df.d__law_same S__law_same fun A E hr => (M__law_same (g__law_same n)).2 cg hr  (x__law_same cg df n (Nat.le_refl _))).mono h
theorem x__law_turned (cg : CG tk K mg) (df : DF K mg) {k : Nat} (h : 1 ≤ k) : FnX tk P w K mg base k "_law_turned" st__law_turned P__law_turned (spP K mg 2 g__law_turned) := (fx_pure (k := 0) df.d__law_turned S__law_turned fun A E hr => M__law_turned.2 cg hr ).mono h
theorem x_is_tuple_of (cg : CG tk K mg) (df : DF K mg) {k : Nat} (h : 1 ≤ k) : FnX tk P w K mg base k "is_tuple_of" st_is_tuple_of P_is_tuple_of (spP K mg 2 g_is_tuple_of) := (fx_pure (k := 0) df.d_is_tuple_of S_is_tuple_of fun A E hr => M_is_tuple_of.2 cg hr ).mono h
theorem x_is_text_of (cg : CG tk K mg) (df : DF K mg) {k : Nat} (h : 1 ≤ k) : FnX tk P w K mg base k "is_text_of" st_is_text_of P_is_text_of (spP K mg 2 g_is_text_of) := (fx_pure (k := 0) df.d_is_text_of S_is_text_of fun A E hr => M_is_text_of.2 cg hr ).mono h
theorem x_is_sign_row (cg : CG tk K mg) (df : DF K mg) {k : Nat} (h : 2 ≤ k) : FnX tk P w K mg base k "is_sign_row" st_is_sign_row P_is_sign_row (spP K mg 2 g_is_sign_row) := (fx_pure (k := 1) df.d_is_sign_row S_is_sign_row fun A E hr => M_is_sign_row.2 cg hr (x_is_text_of cg df (by omega))).mono h
theorem x_are_sign_rows (cg : CG tk K mg) (df : DF K mg) {k : Nat} (h : 3 ≤ k) : FnX tk P w K mg base k "are_sign_rows" st_are_sign_rows P_are_sign_rows (spP K mg 2 g_are_sign_rows) := (fx_pure (k := 2) df.d_are_sign_rows S_are_sign_rows fun A E hr => M_are_sign_rows.2 cg hr (x_is_sign_row cg df (by omega)) (x_is_tuple_of cg df (by omega))).mono h
theorem x_is_line (cg : CG tk K mg) (df : DF K mg) {k : Nat} (h : 1 ≤ k) : FnX tk P w K mg base k "is_line" st_is_line P_is_line (spP K mg 1 g_is_line) := (fx_pure (k := 0) df.d_is_line S_is_line fun A E hr => M_is_line.2 cg hr ).mono h
theorem x_columns_of (cg : CG tk K mg) (df : DF K mg) {k : Nat} (h : 1 ≤ k) : FnX tk P w K mg base k "columns_of" st_columns_of P_columns_of (spP K mg 1 g_columns_of) := (fx_pure (k := 0) df.d_columns_of S_columns_of fun A E hr => M_columns_of.2 cg hr ).mono h
theorem x_is_yard_of (cg : CG tk K mg) (df : DF K mg) {k : Nat} (h : 4 ≤ k) : FnX tk P w K mg base k "is_yard_of" st_is_yard_of P_is_yard_of (spP K mg 2 g_is_yard_of) := (fx_pure (k := 3) df.d_is_yard_of S_is_yard_of fun A E hr => M_is_yard_of.2 cg hr (x_columns_of cg df (by omega)) (x_is_line cg df (by omega)) (x_are_sign_rows cg df (by omega))).mono h
theorem x_is_yarded (cg : CG tk K mg) (df : DF K mg) {k : Nat} (h : 5 ≤ k) : FnX tk P w K mg base k "is_yarded" st_is_yarded P_is_yarded (spP K mg 1 g_is_yarded) := (fx_pure (k := 4) df.d_is_yarded S_is_yarded fun A E hr => M_is_yarded.2 cg hr (x_is_yard_of cg df (by omega))).mono h
theorem x_check_yard (cg : CG tk K mg) (df : DF K mg) {k : Nat} (h : 6 ≤ k) : FnX tk P w K mg base k "check_yard" st_check_yard P_check_yard (spP K mg 1 g_check_yard) := (fx_pure (k := 5) df.d_check_yard S_check_yard fun A E hr => M_check_yard.2 cg hr (x_is_yarded cg df (by omega))).mono h
theorem x_turned_by (cg : CG tk K mg) (df : DF K mg) {k : Nat} (h : 2 ≤ k) : FnX tk P w K mg base k "turned_by" st_turned_by P_turned_by (spP K mg 2 g_turned_by) := (fx_pure (k := 1) df.d_turned_by S_turned_by fun A E hr => M_turned_by.2 cg hr (x_columns_of cg df (by omega))).mono h
theorem x_mirrored (cg : CG tk K mg) (df : DF K mg) {k : Nat} (h : 7 ≤ k) : FnX tk P w K mg base k "mirrored" st_mirrored P_mirrored (spP K mg 1 g_mirrored) := (fx_pure (k := 6) df.d_mirrored S_mirrored fun A E hr => M_mirrored.2 cg hr (x_check_yard cg df (by omega)) (x_turned_by cg df (by omega))).mono h
theorem x_turned_over (cg : CG tk K mg) (df : DF K mg) {k : Nat} (h : 7 ≤ k) : FnX tk P w K mg base k "turned_over" st_turned_over P_turned_over (spP K mg 1 g_turned_over) := (fx_pure (k := 6) df.d_turned_over S_turned_over fun A E hr => M_turned_over.2 cg hr (x_check_yard cg df (by omega)) (x_turned_by cg df (by omega))).mono h
theorem x_swapped (cg : CG tk K mg) (df : DF K mg) {k : Nat} (h : 7 ≤ k) : FnX tk P w K mg base k "swapped" st_swapped P_swapped (spP K mg 1 g_swapped) := (fx_pure (k := 6) df.d_swapped S_swapped fun A E hr => M_swapped.2 cg hr (x_check_yard cg df (by omega)) (x_turned_by cg df (by omega))).mono h
theorem x_wheeled (cg : CG tk K mg) (df : DF K mg) {k : Nat} (h : 7 ≤ k) : FnX tk P w K mg base k "wheeled" st_wheeled P_wheeled (spP K mg 1 g_wheeled) := (fx_pure (k := 6) df.d_wheeled S_wheeled fun A E hr => M_wheeled.2 cg hr (x_check_yard cg df (by omega)) (x_turned_by cg df (by omega))).mono h
theorem x_is_yard (cg : CG tk K mg) (df : DF K mg) {k : Nat} (h : 6 ≤ k) : FnX tk P w K mg base k "is_yard" st_is_yard P_is_yard (spP K mg 1 g_is_yard) := (fx_pure (k := 5) df.d_is_yard S_is_yard fun A E hr => M_is_yard.2 cg hr (x_is_yarded cg df (by omega))).mono h
theorem x__law_right (cg : CG tk K mg) (df : DF K mg) {k : Nat} (h : 8 ≤ k) : FnX tk P w K mg base k "_law_right" st__law_right P__law_right (spP K mg 1 g__law_right) := (fx_pure (k := 7) df.d__law_right S__law_right fun A E hr => M__law_right.2 cg hr (x__law_turned cg df (by omega)) (x_mirrored cg df (by omega)) (x_turned_over cg df (by omega)) (x_swapped cg df (by omega)) (x_wheeled cg df (by omega)) (x_is_yard cg df (by omega)) (x__law_same cg df 6 (by omega))).mono h
theorem x__law_take (cg : CG tk K mg) (df : DF K mg) {k : Nat} (h : 1 ≤ k) : FnX tk P w K mg base k "_law_take" st__law_take P__law_take (spI K mg 2 g__law_take) := (fx_io (k := 0) df.d__law_take S__law_take fun A E hr => M__law_take.2 cg hr ).mono h
theorem x__law_pick (cg : CG tk K mg) (df : DF K mg) {k : Nat} (h : 2 ≤ k) : FnX tk P w K mg base k "_law_pick" st__law_pick P__law_pick (spI K mg 2 g__law_pick) := (fx_io (k := 1) df.d__law_pick S__law_pick fun A E hr => M__law_pick.2 cg hr (x__law_take cg df (by omega))).mono h
theorem x_law (cg : CG tk K mg) (df : DF K mg) {k : Nat} (h : 9 ≤ k) : FnX tk P w K mg base k "law" st_law P_law (spP K mg 1 g_law) := (fx_pure (k := 8) df.d_law S_law fun A E hr => M_law.2 cg hr (x__law_yards cg df (by omega)) (x__law_right cg df (by omega)) (x__law_well cg df (by omega)) (x__law_pick cg df (by omega))).mono h
end
end LK
namespace LK
open PySem PySem.Spec PyProof.Rows L2 M3
/-! ### all yards of one to five rows, as the law makes them -/
abbrev Row := List Nat
abbrev Item := List Row × List Int
def yT (y : List Row) : T := .tup (y.map .str)
def itm (p : Item) : T := .tup [yT p.1, ti p.2]
def stp (s : Int) (c : Nat) : Int := s + (if c = 43 then 1 else if c = 45 then -1 else 0)
def sm (tot : List Int) (row : Row) : List Int := List.zipWith stp tot row
def good : List Int → Bool
  | [] => false
  | i :: r => decide (0 ≤ minI i r) && decide (maxI i r ≤ 1)
def stepR (y : List Row) (tot : List Int) (acc : List Item) (row : Row) : List Item := if good (sm tot row) then acc ++ [(y ++ [row], sm tot row)] else acc
def stepY (rows : List Row) (acc : List Item) (p : Item) : List Item := rows.foldl (stepR p.1 p.2) acc
def lev (rows : List Row) (found : List Item) : List Item := found.foldl (stepY rows) []
def levs (rows : List Row) : Nat → List Item → List Item
  | 0, f => f
  | k + 1, f => levs rows k (lev rows f)
def L1 : List Row := [[43]]
theorem lines1 : isR (g__law_lines [.int 1]) (.lst (L1.map .str)) = true := by decide +kernel
def L2 : List Row := [[43, 48], [48, 43]]
theorem lines2 : isR (g__law_lines [.int 2]) (.lst (L2.map .str)) = true := by decide +kernel
def L3 : List Row := [[43, 45, 43], [43, 48, 48], [48, 43, 48], [48, 48, 43]]
theorem lines3 : isR (g__law_lines [.int 3]) (.lst (L3.map .str)) = true := by decide +kernel
def L4 : List Row := [[43, 45, 43, 48], [43, 45, 48, 43], [43, 48, 45, 43], [43, 48, 48, 48], [48, 43, 45, 43], [48, 43, 48, 48], [48, 48, 43, 48], [48, 48, 48, 43]]
theorem lines4 : isR (g__law_lines [.int 4]) (.lst (L4.map .str)) = true := by decide +kernel
def L5 : List Row := [[43, 45, 43, 45, 43], [43, 45, 43, 48, 48], [43, 45, 48, 43, 48], [43, 45, 48, 48, 43], [43, 48, 45, 43, 48], [43, 48, 45, 48, 43], [43, 48, 48, 45, 43], [43, 48, 48, 48, 48], [48, 43, 45, 43, 48], [48, 43, 45, 48, 43], [48, 43, 48, 45, 43], [48, 43, 48, 48, 48], [48, 48, 43, 45, 43], [48, 48, 43, 48, 48], [48, 48, 48, 43, 48], [48, 48, 48, 48, 43]]
theorem lines5 : isR (g__law_lines [.int 5]) (.lst (L5.map .str)) = true := by decide +kernel

theorem rgI_get : ∀ (n : Nat) (a : Int) (i : Nat) (h : i < (rgI a n).length), (rgI a n)[i] = a + i
  | 0, _, i, h => by simp [rgI] at h
  | n + 1, a, 0, h => by simp [rgI]
  | n + 1, a, i + 1, h => by
    have := rgI_get n (a + 1) i (by simpa [rgI] using h)
    simp only [rgI, List.getElem_cons_succ, this]
    omega
theorem for_cons {g : GM} {b : SM} {t : T} {ts : List T} {env e1 e2 : EnvM} {x : M3.R (Fl × EnvM)} (h1 : g t env = .ok e1) (h2 : b e1 = .ok (.nx, e2)) (h3 : forM' g b ts e2 = x) : forM' g b (t :: ts) env = x := by
  unfold forM'
  simp only [h1, h2, bind_ok]
  exact h3
theorem fnM_rt {n : Nat} {ms : SM} {ts : List T} {e : EnvM} {t : T} (h : ms (env0 n ts) = .ok (.rt t, e)) : fnM n ms ts = .ok t := by
  unfold fnM
  rw [h]
theorem sm_rg (tot : List Int) (row : Row) (h : row.length = tot.length) : (rgI 0 tot.length).map (fun x => T.int (stp (tot.getD x.toNat 0) (row.getD x.toNat 0))) = (sm tot row).map T.int := by
  apply List.ext_getElem
  · simp [rgI_len, sm, h]
  · intro i h1 h2
    simp [rgI_len] at h1
    simp [sm] at h2
    have e : (rgI 0 tot.length)[i]'(by rw [rgI_len]; exact h1) = (i : Int) := by
      have := rgI_get tot.length 0 i (by rw [rgI_len]; exact h1)
      omega
    have h3 : i < row.length := by omega
    simp [sm, e, h1, h3]
def sumsM : XM := (xCB fTuple
                        (aCons
                          (xLc (iArg rng1 (aCons (xVar 0) aNil))
                            (List.map (fun x => x.snd) [(PySem.Str.ofString "at", 9)]) (gNm 9) tYesM
                            (eltM
                              (x2 oAdd (x2 oIxA (xVar 6) (xVar 9))
                                (xIf (tBl (x2 oEqA (x2 oIxA (xVar 7) (xVar 9)) (xC (T.str [43])))) (xC (T.int 1))
                                  (xIf (tBl (x2 oEqA (x2 oIxA (xVar 7) (xVar 9)) (xC (T.str [45]))))
                                    (xNeg (xC (T.int 1))) (xC (T.int 0)))))))
                          aNil))
def rowB : SM := (sSeq
                    (sSet 8
                      sumsM)
                    (sIf
                      (tAndM (tBl (x2 oGe (xCB fMinQ (aCons (xVar 8) aNil)) (xC (T.int 0))))
                        (tBl (x2 oLe (xCB fMaxQ (aCons (xVar 8) aNil)) (xC (T.int 1)))))
                      (sExpr
                        (xOmT "list" 4 oApp
                          (aCons (xTup (aCons (x2 oAdd (xVar 5) (xTup (aCons (xVar 7) aNil))) (aCons (xVar 8) aNil)))
                            aNil)))
                      sNil))
theorem sums_ok (s1 s2 s3 s4 s5 s8 : Sl) (tot : List Int) (row : Row) (h : row.length = tot.length) (hn : tot.length ≤ 1000) : sumsM [.val (.int tot.length), s1, s2, s3, s4, s5, .val (ti tot), .val (.str row), s8, .no] = .ok (ti (sm tot row), [.val (.int tot.length), s1, s2, s3, s4, s5, .val (ti tot), .val (.str row), s8, .no]) := by
  have hr : rng1 [.int (tot.length : Int)] = .ok ((rgI 0 tot.length).map .int) := rng1_ok (by omega)
  have c := lcM_mapA (vs := [9]) (g := gNm 9) (m := (x2 oAdd (x2 oIxA (xVar 6) (xVar 9))
                                (xIf (tBl (x2 oEqA (x2 oIxA (xVar 7) (xVar 9)) (xC (T.str [43])))) (xC (T.int 1))
                                  (xIf (tBl (x2 oEqA (x2 oIxA (xVar 7) (xVar 9)) (xC (T.str [45]))))
                                    (xNeg (xC (T.int 1))) (xC (T.int 0)))))) T.int (fun x => T.int (stp (tot.getD x.toNat 0) (row.getD x.toNat 0))) (env := [.val (.int tot.length), s1, s2, s3, s4, s5, .val (ti tot), .val (.str row), s8, .no]) (as := rgI 0 tot.length) fun x hx => by
    have hx := mem_rgI.mp hx
    obtain ⟨k, rfl⟩ := Int.eq_ofNat_of_zero_le hx.1
    have hk : k < tot.length := by omega
    have hk2 : k < row.length := by omega
    refine ⟨_, [.val (.int tot.length), s1, s2, s3, s4, s5, .val (ti tot), .val (.str row), s8, .val (.int k)], rfl, ?_, rfl⟩
    by_cases h1 : row[k] = 43
    · simp [ti, hk, hk2, stp, eqN_eq, h1]
    · by_cases h2 : row[k] = 45
      · simp [ti, hk, hk2, stp, eqN_eq, h1, h2, negT]
      · simp [ti, hk, hk2, stp, eqN_eq, h1, h2, negT]
  rw [sm_rg tot row h] at c
  have l1 : (sm tot row).length ≤ 16777216 := by simp [sm, h]; omega
  unfold sumsM
  have c' := c
  simp only [ti] at c'
  simp [hr, wipeM, c', restM, l1, ti]
theorem good_ok (s : List Int) (hs : s ≠ []) (s0 s1 s2 s3 s4 s5 s6 s7 : Sl) : (tAndM (tBl (x2 oGe (xCB fMinQ (aCons (xVar 8) aNil)) (xC (T.int 0))))
                        (tBl (x2 oLe (xCB fMaxQ (aCons (xVar 8) aNil)) (xC (T.int 1))))) [s0, s1, s2, s3, s4, s5, s6, s7, .val (ti s), .no] = .ok (good s, [s0, s1, s2, s3, s4, s5, s6, s7, .val (ti s), .no]) := by
  cases s with
  | nil => exact absurd rfl hs
  | cons i r =>
    by_cases h1 : 0 ≤ minI i r
    · simp [ti, good, h1, -List.map_cons]
    · simp [ti, good, h1, -List.map_cons]
theorem step_len (y : List Row) (tot : List Int) (acc : List Item) (r : Row) : (stepR y tot acc r).length ≤ acc.length + 1 := by
  unfold stepR
  split
  · simp
  · omega
theorem row_loop (s1 s2 s3 : Sl) (y : List Row) (tot : List Int) (h0 : tot ≠ []) (hn : tot.length ≤ 1000) (hy : y.length ≤ 1000) : ∀ (rows : List Row) (acc : List Item) (s7 s8 : Sl), (∀ r ∈ rows, r.length = tot.length) → acc.length + rows.length ≤ 16000000 → ∃ s7' s8', forM' (gNm 7) rowB (rows.map .str) [.val (.int tot.length), s1, s2, s3, .own false (.lst (acc.map itm)), .val (yT y), .val (ti tot), s7, s8, .no] = .ok (.nx, [.val (.int tot.length), s1, s2, s3, .own false (.lst ((rows.foldl (stepR y tot) acc).map itm)), .val (yT y), .val (ti tot), s7', s8', .no])
  | [], acc, s7, s8, _, _ => ⟨s7, s8, rfl⟩
  | r :: rows, acc, s7, s8, hr, hz => by
    have a := sums_ok s1 s2 s3 (.own false (.lst (acc.map itm))) (.val (yT y)) s8 tot r (hr r List.mem_cons_self) hn
    have sne : sm tot r ≠ [] := by
      have := hr r List.mem_cons_self
      intro e
      have e2 := congrArg List.length e
      simp [sm] at e2
      rcases e2 with e2 | e2
      · exact h0 e2
      · rw [e2] at this
        exact h0 (List.length_eq_zero_iff.mp this.symm)
    have b := good_ok (sm tot r) sne (.val (.int tot.length)) s1 s2 s3 (.own false (.lst (acc.map itm))) (.val (yT y)) (.val (ti tot)) (.val (.str r))
    have hz' : acc.length + (rows.length + 1) ≤ 16000000 := hz
    obtain ⟨s7', s8', e⟩ := row_loop s1 s2 s3 y tot h0 hn hy rows (stepR y tot acc r) (.val (.str r)) (.val (ti (sm tot r))) (fun r h => hr r (List.mem_cons_of_mem _ h)) (by have := step_len y tot acc r; omega)
    refine ⟨s7', s8', ?_⟩
    rw [List.map_cons, List.foldl_cons, ← e]
    refine for_cons (e1 := [.val (.int tot.length), s1, s2, s3, .own false (.lst (acc.map itm)), .val (yT y), .val (ti tot), .val (.str r), s8, .no]) rfl ?_ rfl
    unfold rowB
    refine seq_of (set_of a) ?_
    have lb : acc.length < 16777216 := by omega
    unfold stepR
    cases hg : good (sm tot r)
    · rw [hg] at b
      simp only [List.set, sIf, b, bind_ok]
      rfl
    · rw [hg] at b
      simp only [List.set, sIf, b, bind_ok]
      simp [yT, tyO, lb, itm, show y.length + 1 ≤ 16777216 by omega]
theorem steps_len (y : List Row) (tot : List Int) : ∀ (rows : List Row) (acc : List Item), (rows.foldl (stepR y tot) acc).length ≤ acc.length + rows.length
  | [], acc => by simp
  | r :: rows, acc => by
    have := steps_len y tot rows (stepR y tot acc r)
    have := step_len y tot acc r
    rw [List.foldl_cons, List.length_cons]
    omega
def okI (n : Nat) (p : Item) : Bool := p.2.length == n && Nat.ble p.1.length 1000
theorem item_loop (s1 s3 : Sl) (n : Nat) (h0 : 0 < n) (hn : n ≤ 1000) (rows : List Row) (hr : ∀ r ∈ rows, r.length = n) (hl : rows.length ≤ 1000) : ∀ (found : List Item) (acc : List Item) (s5 s6 s7 s8 : Sl), (∀ p ∈ found, okI n p = true) → acc.length + found.length * 1000 ≤ 15000000 → ∃ s5' s6' s7' s8', forM' (gTp (gsC (gNm 5) (gsC (gNm 6) gsN))) (sFor (iAnyM (xVar 2)) (gNm 7) rowB) (found.map itm) [.val (.int n), s1, .val (.lst (rows.map .str)), s3, .own false (.lst (acc.map itm)), s5, s6, s7, s8, .no] = .ok (.nx, [.val (.int n), s1, .val (.lst (rows.map .str)), s3, .own false (.lst ((found.foldl (stepY rows) acc).map itm)), s5', s6', s7', s8', .no])
  | [], acc, s5, s6, s7, s8, _, _ => ⟨s5, s6, s7, s8, rfl⟩
  | p :: found, acc, s5, s6, s7, s8, hp, hz => by
    have hz' : acc.length + (found.length + 1) * 1000 ≤ 15000000 := hz
    obtain ⟨y, tot⟩ := p
    have hk := hp (y, tot) List.mem_cons_self
    simp only [okI, Bool.and_eq_true, beq_iff_eq, Nat.ble_eq] at hk
    obtain ⟨hk1, hk2⟩ := hk
    subst hk1
    obtain ⟨s7', s8', e1⟩ := row_loop s1 (.val (.lst (rows.map .str))) s3 y tot (fun e => by rw [e] at h0; exact absurd h0 (by simp)) hn hk2 rows acc s7 s8 hr (by omega)
    have hlen := steps_len y tot rows acc
    obtain ⟨s5', s6', s7'', s8'', e⟩ := item_loop s1 s3 tot.length h0 hn rows hr hl found (rows.foldl (stepR y tot) acc) (.val (yT y)) (.val (ti tot)) s7' s8' (fun p h => hp p (List.mem_cons_of_mem _ h)) (by omega)
    refine ⟨s5', s6', s7'', s8'', ?_⟩
    rw [List.map_cons, List.foldl_cons]
    refine Eq.trans ?_ e
    exact for_cons (e1 := [.val (.int tot.length), s1, .val (.lst (rows.map .str)), s3, .own false (.lst (acc.map itm)), .val (yT y), .val (ti tot), s7, s8, .no]) rfl (for_of (e1 := [.val (.int tot.length), s1, .val (.lst (rows.map .str)), s3, .own false (.lst (acc.map itm)), .val (yT y), .val (ti tot), s7, s8, .no]) rfl e1) rfl
def levB : SM := (sSeq (sSetn 4 (xLst aNil))
            (sSeq
              (sFor (iAnyM (xVar 3)) (gTp (gsC (gNm 5) (gsC (gNm 6) gsN)))
                (sFor (iAnyM (xVar 2)) (gNm 7) rowB))
              (sFrz 4 (sSet 3 (xVar 4)))))
theorem lev_loop (n : Nat) (h0 : 0 < n) (hn : n ≤ 1000) (rows : List Row) (hr : ∀ r ∈ rows, r.length = n) (hl : rows.length ≤ 1000) : ∀ (ts : List Int) (f : List Item) (s1 s4 s5 s6 s7 s8 : Sl), (∀ k < ts.length, (levs rows k f).length ≤ 15000 ∧ ∀ p ∈ levs rows k f, okI n p = true) → ∃ s1' s4' s5' s6' s7' s8', forM' (gNm 1) levB (ts.map .int) [.val (.int n), s1, .val (.lst (rows.map .str)), .val (.lst (f.map itm)), s4, s5, s6, s7, s8, .no] = .ok (.nx, [.val (.int n), s1', .val (.lst (rows.map .str)), .val (.lst ((levs rows ts.length f).map itm)), s4', s5', s6', s7', s8', .no])
  | [], f, s1, s4, s5, s6, s7, s8, _ => ⟨s1, s4, s5, s6, s7, s8, rfl⟩
  | t :: ts, f, s1, s4, s5, s6, s7, s8, H => by
    obtain ⟨h1, h2⟩ := H 0 (by simp)
    have h1' : f.length ≤ 15000 := h1
    obtain ⟨a5, a6, a7, a8, e1⟩ := item_loop (.val (.int t)) (.val (.lst (f.map itm))) n h0 hn rows hr hl f [] s5 s6 s7 s8 h2 (by simp; omega)
    obtain ⟨b1, b4, b5, b6, b7, b8, e⟩ := lev_loop n h0 hn rows hr hl ts (lev rows f) (.val (.int t)) (.val (.lst ((lev rows f).map itm))) a5 a6 a7 a8 (fun k hk => H (k + 1) (by simp; omega))
    refine ⟨b1, b4, b5, b6, b7, b8, ?_⟩
    rw [List.map_cons, List.length_cons]
    unfold levs
    rw [← e]
    refine for_cons (e1 := [.val (.int n), .val (.int t), .val (.lst (rows.map .str)), .val (.lst (f.map itm)), s4, s5, s6, s7, s8, .no]) rfl ?_ rfl
    unfold levB
    refine seq_of (e1 := [.val (.int n), .val (.int t), .val (.lst (rows.map .str)), .val (.lst (f.map itm)), .own false (.lst []), s5, s6, s7, s8, .no]) rfl ?_
    refine seq_of (for_of (e1 := [.val (.int n), .val (.int t), .val (.lst (rows.map .str)), .val (.lst (f.map itm)), .own false (.lst []), s5, s6, s7, s8, .no]) rfl e1) rfl
def mn1 : List Int → Bool
  | [] => false
  | i :: r => minI i r == 1
def ini (n : Nat) : List Item := [([], List.replicate n 0)]
theorem fil_ok (n : Nat) (h0 : 0 < n) (f : List Item) (hf : ∀ p ∈ f, okI n p = true) (s0 s1 s2 s3 s4 s7 s8 s9 : Sl) : lcM [5, 6] (gTp (gsC (gNm 5) (gsC (gNm 6) gsN))) (tBl (x2 oEqA (xCB fMinQ (aCons (xVar 6) aNil)) (xC (T.int 1)))) (eltM (xVar 5)) (f.map itm) [s0, s1, s2, s3, s4, .no, .no, s7, s8, s9] = .ok ((f.filter (fun p => mn1 p.2)).map (fun p => yT p.1), [s0, s1, s2, s3, s4, .no, .no, s7, s8, s9]) := by
  refine lcM_filA (vs := [5, 6]) itm (fun p => mn1 p.2) (fun p => yT p.1) fun p hp => ?_
  obtain ⟨y, tot⟩ := p
  have hk := hf (y, tot) hp
  simp only [okI, Bool.and_eq_true, beq_iff_eq, Nat.ble_eq] at hk
  refine ⟨[s0, s1, s2, s3, s4, .val (yT y), .val (ti tot), s7, s8, s9], [s0, s1, s2, s3, s4, .val (yT y), .val (ti tot), s7, s8, s9], rfl, ?_, rfl, fun _ => ⟨_, rfl, rfl⟩⟩
  cases tot with
  | nil => simp at hk; omega
  | cons i r => simp [ti, mn1, -List.map_cons]
theorem yards_ok (n : Nat) (h0 : 0 < n) (hn : n ≤ 1000) (rows : List Row) (hr : ∀ r ∈ rows, r.length = n) (hl : rows.length ≤ 1000) (hln : isR (g__law_lines [.int n]) (.lst (rows.map .str)) = true)
    (H : ∀ k < n, (levs rows k (ini n)).length ≤ 15000 ∧ ∀ p ∈ levs rows k (ini n), okI n p = true) (hf : ∀ p ∈ levs rows n (ini n), okI n p = true) (Ys : List (List Row)) (hY : ((levs rows n (ini n)).filter (fun p => mn1 p.2)).map (fun p => p.1) = Ys) (hYl : Ys.length ≤ 15000)
    (hs : fSort [.lst (Ys.map yT)] = some (.lst (Ys.map yT))) (hm : oMul (.tup [.int 0]) (.int n) = .ok (ti (List.replicate n 0))) : g__law_yards [.int n] = .ok (.lst (Ys.map yT)) := by
  have ln := isR_ok hln
  obtain ⟨b1, b4, b5, b6, b7, b8, e⟩ := lev_loop n h0 hn rows hr hl (rgI 0 n) (ini n) .no .no .no .no .no .no (by rw [rgI_len]; exact H)
  rw [rgI_len] at e
  have c := fil_ok n h0 (levs rows n (ini n)) hf (.val (.int n)) b1 (.val (.lst (rows.map .str))) (.val (.lst ((levs rows n (ini n)).map itm))) b4 b7 b8 .no
  have hc : ((levs rows n (ini n)).filter (fun p => mn1 p.2)).map (fun p => yT p.1) = Ys.map yT := by
    rw [← hY, List.map_map]; rfl
  rw [hc] at c
  have hrg : rng1 [.int (n : Int)] = .ok ((rgI 0 n).map .int) := rng1_ok (by omega)
  have l1 : Ys.length ≤ 16777216 := by omega
  obtain ⟨E, hE⟩ : ∃ E, (M__law_yards).1 [.val (.int n), .no, .no, .no, .no, .no, .no, .no, .no, .no] = .ok (.rt (.lst (Ys.map yT)), E) := by
    dsimp only [M__law_yards]
    apply Exists.intro
    refine seq_of (e1 := [.val (.int n), .no, .val (.lst (rows.map .str)), .val (.lst ((ini n).map itm)), .no, .no, .no, .no, .no, .no]) (by simp [-oMul, ln, hm, ini, itm, yT, fVal, fNil, setE]) ?_
    refine seq_of (for_of (ts := (rgI 0 n).map .int) (e1 := [.val (.int n), .no, .val (.lst (rows.map .str)), .val (.lst ((ini n).map itm)), .no, .no, .no, .no, .no, .no]) (by simp [hrg]) e) ?_
    exact ret_of (xCB_of (one_of (xLc_of (ts := (levs rows n (ini n)).map itm) (e1 := [.val (.int n), b1, .val (.lst (rows.map .str)), .val (.lst ((levs rows n (ini n)).map itm)), b4, b5, b6, b7, b8, .no]) rfl c (by rw [List.length_map]; exact l1))) hs)
  exact fnM_rt (n := 10) hE
theorem some_of {o : Option T} {t : T} (h : isR (match o with | some t => .ok t | none => .no) t = true) : o = some t := by
  have := isR_ok h
  cases o with
  | none => cases this
  | some u => cases this; rfl
def chk (rows : List Row) (n : Nat) (Ys : List (List Row)) : Nat → List Item → Bool
  | 0, f => f.all (okI n) && decide ((f.filter (fun p => mn1 p.2)).map (fun p => p.1) = Ys)
  | k + 1, f => Nat.ble f.length 15000 && (f.all (okI n) && chk rows n Ys k (lev rows f))
theorem chk_ok {rows : List Row} {n : Nat} {Ys : List (List Row)} : ∀ {m : Nat} {f : List Item}, chk rows n Ys m f = true → (∀ k < m, (levs rows k f).length ≤ 15000 ∧ ∀ p ∈ levs rows k f, okI n p = true) ∧ (∀ p ∈ levs rows m f, okI n p = true) ∧ ((levs rows m f).filter (fun p => mn1 p.2)).map (fun p => p.1) = Ys
  | 0, f, h => by
    simp only [chk, Bool.and_eq_true, decide_eq_true_eq] at h
    exact ⟨fun k hk => absurd hk (Nat.not_lt_zero k), List.all_eq_true.mp h.1, h.2⟩
  | m + 1, f, h => by
    simp only [chk, Bool.and_eq_true] at h
    obtain ⟨i1, i2, i3⟩ := chk_ok h.2.2
    refine ⟨fun k hk => ?_, i2, i3⟩
    cases k with
    | zero => exact ⟨Nat.le_of_ble_eq_true h.1, List.all_eq_true.mp h.2.1⟩
    | succ k => exact i1 k (by omega)
theorem yards_of (n : Nat) (h0 : 0 < n) (hn : n ≤ 1000) (rows : List Row) (hr : ∀ r ∈ rows, r.length = n) (hl : rows.length ≤ 1000) (hln : isR (g__law_lines [.int n]) (.lst (rows.map .str)) = true) (Ys : List (List Row)) (hc : chk rows n Ys n (ini n) = true) (hYl : Ys.length ≤ 15000)
    (hs : fSort [.lst (Ys.map yT)] = some (.lst (Ys.map yT))) (hm : oMul (.tup [.int 0]) (.int n) = .ok (ti (List.replicate n 0))) : g__law_yards [.int n] = .ok (.lst (Ys.map yT)) :=
  yards_ok n h0 hn rows hr hl hln (chk_ok hc).1 (chk_ok hc).2.1 Ys (chk_ok hc).2.2 hYl hs hm
def sgn : Nat → Nat
  | 0 => 48
  | 1 => 43
  | _ => 45
def digs : Nat → Nat → Row
  | 0, _ => []
  | k + 1, c => sgn (c % 3) :: digs k (c / 3)
def dec (n c : Nat) : List Row := (List.range n).map fun r => digs n (c / 3 ^ (n * r))
def C1 : List Nat := [1]
def Y1 : List (List Row) := C1.map (dec 1)
theorem srt1 : isR (match fSort [.lst (Y1.map yT)] with | some t => .ok t | none => .no) (.lst (Y1.map yT)) = true := by decide +kernel
theorem chk1 : chk L1 1 Y1 1 (ini 1) = true := by decide +kernel
theorem yards1 : g__law_yards [.int 1] = .ok (.lst (Y1.map yT)) :=
  yards_of 1 (by decide) (by decide) L1 (by decide +kernel) (by decide +kernel) lines1 Y1 chk1 (by rw [Y1, List.length_map]; decide +kernel) (some_of srt1) rfl
def C2 : List Nat := [28, 12]
def Y2 : List (List Row) := C2.map (dec 2)
theorem srt2 : isR (match fSort [.lst (Y2.map yT)] with | some t => .ok t | none => .no) (.lst (Y2.map yT)) = true := by decide +kernel
theorem chk2 : chk L2 2 Y2 2 (ini 2) = true := by decide +kernel
theorem yards2 : g__law_yards [.int 2] = .ok (.lst (Y2.map yT)) :=
  yards_of 2 (by decide) (by decide) L2 (by decide +kernel) (by decide +kernel) lines2 Y2 chk2 (by rw [Y2, List.length_map]; decide +kernel) (some_of srt2) rfl
def C3 : List Nat := [6643, 2431, 2622, 6591, 975, 2223, 819]
def Y3 : List (List Row) := C3.map (dec 3)
theorem srt3 : isR (match fSort [.lst (Y3.map yT)] with | some t => .ok t | none => .no) (.lst (Y3.map yT)) = true := by decide +kernel
theorem chk3 : chk L3 3 Y3 3 (ini 3) = true := by decide +kernel
theorem yards3 : g__law_yards [.int 3] = .ok (.lst (Y3.map yT)) :=
  yards_of 3 (by decide) (by decide) L3 (by decide +kernel) (by decide +kernel) lines3 Y3 chk3 (by rw [Y3, List.length_map]; decide +kernel) (some_of srt3) rfl
def C4 : List Nat := [14408200, 4960360, 5098627, 14369320, 1772200, 4804840, 1655560, 5099196, 14369889, 1772769, 4805409, 1656129, 14408040, 4960200, 1818129, 5085507, 14356200, 709320, 1701489, 4791720, 592680, 4806387, 1657107, 5097987, 14368680, 1771560, 1703196, 4793427, 594387, 1817649, 5085027, 14355720, 708840, 1603080, 553320, 4802760, 1653480, 1699569, 4789800, 590760, 1601640, 551880]
def Y4 : List (List Row) := C4.map (dec 4)
theorem srt4 : isR (match fSort [.lst (Y4.map yT)] with | some t => .ok t | none => .no) (.lst (Y4.map yT)) = true := by decide +kernel
theorem chk4 : chk L4 4 Y4 4 (ini 4) = true := by decide +kernel
theorem yards4 : g__law_yards [.int 4] = .ok (.lst (Y4.map yT)) :=
  yards_of 4 (by decide) (by decide) L4 (by decide +kernel) (by decide +kernel) lines4 Y4 chk4 (by rw [Y4, List.length_map]; decide +kernel) (some_of srt4) rfl
def C5 : List Nat := [282817489141, 95305972465, 96211016488, 282560271697, 32544916129, 94277102689, 31773263797, 96212257975, 282561513184, 32546157616, 94278344176, 31774505284, 282817136305, 95305619629, 32846244634, 96124924504, 282474179713, 11624211181, 32074592302, 94191010705, 10852558849, 94280474314, 31776635422, 96209605144, 282558860353, 32543504785, 32078316763, 94194735166, 10856283310, 32845186126, 96123865996, 282473121205, 11623152673, 31428895861, 10594282897, 94272515821, 31768676929, 32070358270, 94186776673, 10848324817, 31425720337, 10591107373, 96212259678, 282561514887, 32546159319, 94278345879, 31774506987, 282817138008, 95305621332, 32846246337, 96124926207, 282474181416, 11624212884, 32074594005, 94191012408, 10852560552, 94280476017, 31776637125, 96209606847, 282558862056, 32543506488, 32078318466, 94194736869, 10856285013, 32845187829, 96123867699, 282473122908, 11623154376, 31428897564, 10594284600, 94272517524, 31768678632, 32070359973, 94186778376, 10848326520, 31425722040, 10591109076, 282817488657, 95305971981, 96211016004, 282560271213, 32544915645, 94277102205, 31773263313, 32846657979, 96125337849, 282474593058, 11624624526, 32075005647, 94191424050, 10852972194, 96212139879, 282561395088, 32546039520, 94278226080, 31774387188, 282817018209, 95305501533, 11724653532, 32817546822, 96096226692, 282445481901, 4650642381, 10953001200, 32045894490, 94162312893, 3878990049, 32078730108, 94195148511, 10856696655, 32845599471, 96124279341, 282473534550, 11623566018, 31429309206, 10594696242, 94280356218, 31776517326, 96209487048, 282558742257, 32543386689, 10956725661, 32049618951, 94166037354, 3882714510, 11723595024, 32816488314, 96095168184, 282444423393, 4649583873, 10694725248, 31400198049, 3620714097, 32070771615, 94187190018, 10848738162, 31426133682, 10591520718, 94272397725, 31768558833, 10948767168, 32041660458, 94158078861, 3874756017, 10691549724, 31397022525, 3617538573, 94280478939, 31776640047, 96209609769, 282558864978, 32543509410, 32078321388, 94194739791, 10856287935, 32845190751, 96123870621, 282473125830, 11623157298, 31428900486, 10594287522, 94272520446, 31768681554, 32070362895, 94186781298, 10848329442, 31425724962, 10591111998, 96212256039, 282561511248, 32546155680, 94278342240, 31774503348, 282817134369, 95305617693, 32846242698, 96124922568, 282474177777, 11624209245, 32074590366, 94191008769, 10852556913, 32078735217, 94195153620, 10856701764, 32845604580, 96124284450, 282473539659, 11623571127, 31429314315, 10594701351, 94280361327, 31776522435, 96209492157, 282558747366, 32543391798, 10956730770, 32049624060, 94166042463, 3882719619, 11723600133, 32816493423, 96095173293, 282444428502, 4649588982, 10694730357, 31400203158, 3620719206, 32070776724, 94187195127, 10848743271, 31426138791, 10591525827, 94272402834, 31768563942, 10948772277, 32041665567, 94158083970, 3874761126, 10691554833, 31397027634, 3617543682, 32846656527, 96125336397, 282474591606, 11624623074, 32075004195, 94191422598, 10852970742, 96212138427, 282561393636, 32546038068, 94278224628, 31774385736, 282817016757, 95305500081, 11724652080, 32817545370, 96096225240, 282445480449, 4650640929, 10952999748, 32045893038, 94162311441, 3878988597, 31430017800, 10595404836, 32077844379, 94194262782, 10855810926, 32844713742, 96123393612, 282472648821, 11622680289, 10695965283, 31401438084, 3621954132, 10956371373, 32049264663, 94165683066, 3882360222, 11723240736, 32816134026, 96094813896, 282444069105, 4649229585, 10479491649, 3534620661, 31426842276, 10592229312, 32069885886, 94186304289, 10847852433, 10692789759, 31398262560, 3618778608, 10948412880, 32041306170, 94157724573, 3874401729, 10476316125, 3531445137, 94272529212, 31768690320, 32070371661, 94186790064, 10848338208, 31425733728, 10591120764, 94280468022, 31776629130, 96209598852, 282558854061, 32543498493, 32078310471, 94194728874, 10856277018, 32845179834, 96123859704, 282473114913, 11623146381, 31428889569, 10594276605, 32070785490, 94187203893, 10848752037, 31426147557, 10591534593, 94272411600, 31768572708, 10948781043, 32041674333, 94158092736, 3874769892, 10691563599, 31397036400, 3617552448, 32078724300, 94195142703, 10856690847, 32845593663, 96124273533, 282473528742, 11623560210, 31429303398, 10594690434, 94280350410, 31776511518, 96209481240, 282558736449, 32543380881, 10956719853, 32049613143, 94166031546, 3882708702, 11723589216, 32816482506, 96095162376, 282444417585, 4649578065, 10694719440, 31400192241, 3620708289, 31426857603, 10592244639, 32069901213, 94186319616, 10847867760, 10692805086, 31398277887, 3618793935, 10948428207, 32041321497, 94157739900, 3874417056, 10476331452, 3531460464, 31430013444, 10595400480, 32077840023, 94194258426, 10855806570, 32844709386, 96123389256, 282472644465, 11622675933, 10695960927, 31401433728, 3621949776, 10956367017, 32049260307, 94165678710, 3882355866, 11723236380, 32816129670, 96094809540, 282444064749, 4649225229, 10479487293, 3534616305, 31424185089, 10589572125, 10690132572, 31395605373, 3616121421, 10475253261, 3530382273, 94272496461, 31768657569, 32070338910, 94186757313, 10848305457, 31425700977, 10591088013, 32070752739, 94187171142, 10848719286, 31426114806, 10591501842, 94272378849, 31768539957, 10948748292, 32041641582, 94158059985, 3874737141, 10691530848, 31397003649, 3617519697, 31426824852, 10592211888, 32069868462, 94186286865, 10847835009, 10692772335, 31398245136, 3618761184, 10948395456, 32041288746, 94157707149, 3874384305, 10476298701, 3531427713, 31424172021, 10589559057, 10690119504, 31395592305, 3616108353, 10475240193, 3530369205]
def Y5 : List (List Row) := C5.map (dec 5)
theorem srt5 : isR (match fSort [.lst (Y5.map yT)] with | some t => .ok t | none => .no) (.lst (Y5.map yT)) = true := by decide +kernel
theorem chk5 : chk L5 5 Y5 5 (ini 5) = true := by decide +kernel
theorem yards5 : g__law_yards [.int 5] = .ok (.lst (Y5.map yT)) :=
  yards_of 5 (by decide) (by decide) L5 (by decide +kernel) (by decide +kernel) lines5 Y5 chk5 (by rw [Y5, List.length_map]; decide +kernel) (some_of srt5) rfl
end LK
namespace LK
open PySem PySem.Spec PyProof.Rows L2 M3
/-! ### the turns of each yard -/
abbrev Yd := List Row
def mir (y : Yd) : Yd := y.map List.reverse
def ovr (y : Yd) : Yd := y.reverse
def swp (y : Yd) : Yd := (List.range y.length).map fun c => y.map fun r => r.getD c 0
def whe (y : Yd) : Yd := swp (ovr y)
def wM : List Nat := [109, 105, 114, 114, 111, 114]
def wO : List Nat := [111, 118, 101, 114]
def wS : List Nat := [115, 119, 97, 112]
def wW : List Nat := [119, 104, 101, 101, 108]
def ucod (r : Row) (c : Nat) : Nat := r.foldr (fun s c => c * 3 + (if s = 48 then 0 else if s = 43 then 1 else 2)) c
def cod (y : Yd) : Nat := y.foldr ucod 0
def inC (n : Nat) (C : List Nat) (y : Yd) : Bool := C.contains (cod y) && decide (dec n (cod y) = y)
def factT (w : List Nat) (y z : Yd) : Bool := isR (g_turned_by [yT y, .str w]) (yT z) && isR (g__law_turned [yT y, .str w]) (yT z)
def factC (n : Nat) (C : List Nat) (y : Yd) : Bool := inC n C (mir y) && (inC n C (ovr y) && (inC n C (swp y) && inC n C (whe y)))
def factE (y : Yd) : Bool := decide (mir (mir y) = y ∧ ovr (ovr y) = y ∧ swp (swp y) = y ∧ whe (whe (whe (whe y))) = y ∧ mir (swp y) = whe y ∧ swp (ovr y) = whe y ∧ ovr (mir y) = whe (whe y) ∧ y.length ≤ 5)
def fact (n : Nat) (C : List Nat) (y : Yd) : Bool := isR (g_is_yarded [yT y]) (.bl true) && (factT wM y (mir y) && (factT wO y (ovr y) && (factT wS y (swp y) && (factT wW y (whe y) && (factC n C y && factE y)))))
end LK
namespace LK
open PySem PySem.Spec PyProof.Rows L2 M3
def facts (n : Nat) (C D : List Nat) : Bool := D.all fun c => fact n C (dec n c)
theorem facts_cut {n : Nat} {C D : List Nat} (k : Nat) (h1 : facts n C (D.take k) = true) (h2 : facts n C (D.drop k) = true) : facts n C D = true := by
  unfold facts at *
  rw [← List.take_append_drop k D, List.all_append, h1, h2]
  rfl
theorem f1 : facts 1 C1 C1 = true := by decide +kernel
theorem f2 : facts 2 C2 C2 = true := by decide +kernel
theorem f3 : facts 3 C3 C3 = true := by decide +kernel
theorem f4 : facts 4 C4 C4 = true := by decide +kernel
theorem f5_0 : facts 5 C5 ((C5.drop 0).take 30) = true := by decide +kernel
theorem f5_30 : facts 5 C5 ((C5.drop 30).take 30) = true := by decide +kernel
theorem f5_60 : facts 5 C5 ((C5.drop 60).take 30) = true := by decide +kernel
theorem f5_90 : facts 5 C5 ((C5.drop 90).take 30) = true := by decide +kernel
theorem f5_120 : facts 5 C5 ((C5.drop 120).take 30) = true := by decide +kernel
theorem f5_150 : facts 5 C5 ((C5.drop 150).take 30) = true := by decide +kernel
theorem f5_180 : facts 5 C5 ((C5.drop 180).take 30) = true := by decide +kernel
theorem f5_210 : facts 5 C5 ((C5.drop 210).take 30) = true := by decide +kernel
theorem f5_240 : facts 5 C5 ((C5.drop 240).take 30) = true := by decide +kernel
theorem f5_270 : facts 5 C5 ((C5.drop 270).take 30) = true := by decide +kernel
theorem f5_300 : facts 5 C5 ((C5.drop 300).take 30) = true := by decide +kernel
theorem f5_330 : facts 5 C5 ((C5.drop 330).take 30) = true := by decide +kernel
theorem f5_360 : facts 5 C5 ((C5.drop 360).take 30) = true := by decide +kernel
theorem f5_390 : facts 5 C5 ((C5.drop 390).take 30) = true := by decide +kernel
theorem f5_420 : facts 5 C5 ((C5.drop 420).take 30) = true := by decide +kernel
theorem f5_e : C5.drop 450 = [] := by decide +kernel
theorem g5_450 : facts 5 C5 (C5.drop 450) = true := by rw [f5_e]; rfl
theorem g5_420 : facts 5 C5 (C5.drop 420) = true := facts_cut 30 f5_420 (by rw [List.drop_drop]; exact g5_450)
theorem g5_390 : facts 5 C5 (C5.drop 390) = true := facts_cut 30 f5_390 (by rw [List.drop_drop]; exact g5_420)
theorem g5_360 : facts 5 C5 (C5.drop 360) = true := facts_cut 30 f5_360 (by rw [List.drop_drop]; exact g5_390)
theorem g5_330 : facts 5 C5 (C5.drop 330) = true := facts_cut 30 f5_330 (by rw [List.drop_drop]; exact g5_360)
theorem g5_300 : facts 5 C5 (C5.drop 300) = true := facts_cut 30 f5_300 (by rw [List.drop_drop]; exact g5_330)
theorem g5_270 : facts 5 C5 (C5.drop 270) = true := facts_cut 30 f5_270 (by rw [List.drop_drop]; exact g5_300)
theorem g5_240 : facts 5 C5 (C5.drop 240) = true := facts_cut 30 f5_240 (by rw [List.drop_drop]; exact g5_270)
theorem g5_210 : facts 5 C5 (C5.drop 210) = true := facts_cut 30 f5_210 (by rw [List.drop_drop]; exact g5_240)
theorem g5_180 : facts 5 C5 (C5.drop 180) = true := facts_cut 30 f5_180 (by rw [List.drop_drop]; exact g5_210)
theorem g5_150 : facts 5 C5 (C5.drop 150) = true := facts_cut 30 f5_150 (by rw [List.drop_drop]; exact g5_180)
theorem g5_120 : facts 5 C5 (C5.drop 120) = true := facts_cut 30 f5_120 (by rw [List.drop_drop]; exact g5_150)
theorem g5_90 : facts 5 C5 (C5.drop 90) = true := facts_cut 30 f5_90 (by rw [List.drop_drop]; exact g5_120)
theorem g5_60 : facts 5 C5 (C5.drop 60) = true := facts_cut 30 f5_60 (by rw [List.drop_drop]; exact g5_90)
theorem g5_30 : facts 5 C5 (C5.drop 30) = true := facts_cut 30 f5_30 (by rw [List.drop_drop]; exact g5_60)
theorem g5_0 : facts 5 C5 (C5.drop 0) = true := facts_cut 30 f5_0 (by rw [List.drop_drop]; exact g5_30)
theorem f5 : facts 5 C5 C5 = true := g5_0
end LK
namespace LK
open PySem PySem.Spec PyProof.Rows L2 M3
/-! ### the well -/
def W (a b c : Int) : T := .lst [.int a, .int b, .int c]
theorem sml_by (b : Int) : sml (b % 28657 + 40009) = true := by
  unfold sml; simp; omega
theorem take_ok (a b c m : Int) (h : 0 ≤ a) (hm : 0 < m) (hm2 : m < 100000) : ∃ f a' b' c', g__law_take (W a b c) [.int m] = .ok (.int f, W a' b' c') ∧ 0 ≤ f ∧ f < m ∧ 0 ≤ a' := by
  unfold W
  by_cases ha : 0 < a
  · simp [g__law_take, M__law_take, ha, hm, show m < 1073741824 by omega]
    exact ⟨_, _, ⟨rfl, rfl⟩, Int.emod_nonneg _ (by omega), Int.emod_lt_of_pos _ hm, Int.ediv_nonneg h (by omega)⟩
  · simp [g__law_take, M__law_take, ha, hm, show m < 1073741824 by omega, sml_by, show sml 50023 = true by decide +kernel]
    exact ⟨_, _, ⟨rfl, rfl⟩, Int.emod_nonneg _ (by omega), Int.emod_lt_of_pos _ hm, h⟩
theorem cut2 {α : Type} (xs : List α) (k : Nat) : cutG xs none (some (k : Int)) = xs.take k := by
  unfold cutG
  rw [HT.sIx_none, HT.sIx_nat]
  simp [Nat.min_comm]
theorem map_take {ns : List Int} (k : Nat) : (ns.map T.int).take k = (ns.take k).map T.int := List.map_take.symm
theorem pow17 : oPow (.int 10) (.int 17) = .ok (.int 100000000000000000) := by rfl
theorem well_ok (ns : List Int) (t : Nat) (h : ns.length ≤ 63) : ∃ a b, g__law_well [scr ns, .int t] = .ok (W a b 0) ∧ 0 ≤ a := by
  have e2 := cut2 (ns.map T.int) 2
  have e5 := cut2 (ns.map T.int) 5
  have own : ∃ ow : Int, (if (t : Int) < ns.length then ns.getD t 0 else 9311 * (t : Int) + (ns.take 2).sum % 1000003 + 71) = ow := ⟨_, rfl⟩
  obtain ⟨ow, how⟩ := own
  have loop : ∀ (ls : List Int) (st : Int) (s : Sl), ∃ st' s', forM' (gNm 4)
      (sSet 3 (x2 oMod (xCB fInt (aCons (x2 oAdd (x2 oAdd (x2 oMul (xVar 3) (xC (T.int 45013))) (x2 oMod (xCB fInt (aCons (xVar 4) aNil)) (xC (T.int 2147483399)))) (xC (T.int 37))) aNil)) (xC (T.int 2147483563)))) (ls.map T.int) [Sl.val (scr ns), Sl.val (.int t), Sl.val (.int ow), Sl.val (.int st), s] = .ok (.nx, [Sl.val (scr ns), Sl.val (.int t), Sl.val (.int ow), Sl.val (.int st'), s']) := by
    intro ls
    induction ls with
    | nil => exact fun st s => ⟨st, s, rfl⟩
    | cons l ls ih =>
      intro st s
      obtain ⟨st', s', e⟩ := ih ((st * 45013 + l % 2147483399 + 37) % 2147483563) (.val (.int l))
      refine ⟨st', s', ?_⟩
      rw [← e]
      simp [forM', show sml 45013 = true by decide +kernel]
  have hl : (ns.take 5 ++ [ow]).length ≤ 16777216 := by
    rw [List.length_append, List.length_take]; simp; omega
  obtain ⟨st', s', e⟩ := loop (ns.take 5 ++ [ow]) (50021 + 1013 * (t : Int)) .no
  have hm : min 5 ns.length ≤ 16777215 := by omega
  simp only [show ((2 : Nat) : Int) = 2 from rfl, show ((5 : Nat) : Int) = 5 from rfl] at e2 e5
  simp only [scr, List.map_append, List.map_take, List.map_cons, List.map_nil] at e
  by_cases ht : (t : Int) < ns.length
  · rw [if_pos ht] at how
    have g1 : ns[t]? = some ow := by
      rw [List.getElem?_eq_getElem (by omega), ← how, List.getD_eq_getElem?_getD, List.getElem?_eq_getElem (by omega)]; rfl
    by_cases ho : ow < 0
    · simp [g__law_well, M__law_well, scr, W, ht, g1, show sml 1013 = true by decide +kernel, slT, e5, e, hm, pow17, ho]
      omega
    · by_cases ho2 : 100000000000000000 ≤ ow
      · simp [g__law_well, M__law_well, scr, W, ht, g1, show sml 1013 = true by decide +kernel, slT, e5, e, hm, pow17, ho, ho2]
        omega
      · simp [g__law_well, M__law_well, scr, W, ht, g1, show sml 1013 = true by decide +kernel, slT, e5, e, hm, pow17, ho, ho2]
  · rw [if_neg ht] at how
    have i2 : intsT ((ns.map T.int).take 2) = some (ns.take 2) := by rw [map_take, intsT_map]
    by_cases ho : ow < 0
    · simp [g__law_well, M__law_well, scr, W, ht, show sml 9311 = true by decide +kernel, show sml 1013 = true by decide +kernel, slT, e2, i2, how, e5, e, hm, pow17, ho]
      omega
    · by_cases ho2 : 100000000000000000 ≤ ow
      · simp [g__law_well, M__law_well, scr, W, ht, show sml 9311 = true by decide +kernel, show sml 1013 = true by decide +kernel, slT, e2, i2, how, e5, e, hm, pow17, ho, ho2]
        omega
      · simp [g__law_well, M__law_well, scr, W, ht, show sml 9311 = true by decide +kernel, show sml 1013 = true by decide +kernel, slT, e2, i2, how, e5, e, hm, pow17, ho, ho2]
theorem pick_ok (a b c : Int) (ts : List T) (h : 0 ≤ a) (hm : 0 < ts.length) (hm2 : ts.length < 100000) : ∃ t a' b' c', g__law_pick (W a b c) [.lst ts] = .ok (t, W a' b' c') ∧ t ∈ ts ∧ 0 ≤ a' := by
  obtain ⟨f, a', b', c', e, h1, h2, h3⟩ := take_ok a b c ts.length h (by omega) (by omega)
  obtain ⟨k, rfl⟩ := Int.eq_ofNat_of_zero_le h1
  have hk : k < ts.length := by omega
  refine ⟨ts[k], a', b', c', ?_, List.getElem_mem hk, h3⟩
  simp [g__law_pick, M__law_pick, e, hk]
/-! ### sameness -/
mutual
def okSame : Nat → T → Bool
  | 0, _ => false
  | n + 1, .tup ts => decide (ts.length ≤ 1000000) && okSames n ts
  | n + 1, .lst ts => decide (ts.length ≤ 1000000) && okSames n ts
  | _ + 1, .frz _ => false
  | _ + 1, .dct _ _ _ => false
  | _ + 1, _ => true
def okSames : Nat → List T → Bool
  | _, [] => true
  | n, t :: ts => okSame n t && okSames n ts
end
theorem okSames_mem : ∀ {n : Nat} {ts : List T}, okSames n ts = true ↔ ∀ t ∈ ts, okSame n t = true
  | n, [] => by cases n <;> simp [okSames]
  | n, t :: ts => by
    have := okSames_mem (n := n) (ts := ts)
    cases n <;> simp only [okSames, Bool.and_eq_true, this, List.mem_cons, forall_eq_or_imp]
theorem same_seq (g : List T → M3.R T) (ts : List T) (mk : List T → T) (hmk : (∀ ts, mk ts = .tup ts) ∨ (∀ ts, mk ts = .lst ts)) (hl : ts.length ≤ 1000000) (h : ∀ t ∈ ts, g [t, t] = .ok (.bl true)) : fnM 3 (M__law_same g).1 [mk ts, mk ts] = .ok (.bl true) := by
  have inner := lcM_mapA (vs := [2]) (g := gNm 2) (m := xCall 2 g (aCons (x2 oIxA (xVar 0) (xVar 2)) (aCons (x2 oIxA (xVar 1) (xVar 2)) aNil))) T.int (fun _ => T.bl true) (env := [.val (mk ts), .val (mk ts), .no]) (as := rgI 0 ts.length) fun x hx => by
    have hx := mem_rgI.mp hx
    obtain ⟨k, rfl⟩ := Int.eq_ofNat_of_zero_le hx.1
    have hk : k < ts.length := by omega
    refine ⟨_, [.val (mk ts), .val (mk ts), .val (.int k)], rfl, ?_, rfl⟩
    have := h ts[k] (List.getElem_mem hk)
    rcases hmk with e | e <;> simp [e, hk, this]
  have hb : boolsT (List.replicate ts.length (T.bl true)) = some (List.replicate ts.length true) := by
    rw [← boolsT_map, List.map_replicate]
  have hl2 : ts.length ≤ 16777216 := by omega
  have hr := rng1_ok (n := ts.length) hl
  rw [List.map_const', rgI_len] at inner
  rcases hmk with e | e
  · simp only [e] at inner ⊢
    simp [M__law_same, hr, wipeM, inner, hl2, restM, hb]
  · simp only [e] at inner ⊢
    simp [M__law_same, hr, wipeM, inner, hl2, restM, hb]
theorem same_ok (n : Nat) : ∀ (t : T), okSame n t = true → g__law_same n [t, t] = .ok (.bl true) := by
  induction n with
  | zero => intro t h; simp [okSame] at h
  | succ n ih =>
    intro t h
    show fnM 3 (M__law_same (g__law_same n)).1 [t, t] = _
    cases t with
    | non => simp [M__law_same]
    | bl b => simp [M__law_same]
    | int i => simp [M__law_same]
    | str cs => simp [M__law_same, eqN_eq]
    | tup ts =>
      simp only [okSame, Bool.and_eq_true, decide_eq_true_eq, okSames_mem] at h
      exact same_seq _ ts .tup (.inl fun _ => rfl) h.1 fun t ht => ih t (h.2 t ht)
    | lst ts =>
      simp only [okSame, Bool.and_eq_true, decide_eq_true_eq, okSames_mem] at h
      exact same_seq _ ts .lst (.inr fun _ => rfl) h.1 fun t ht => ih t (h.2 t ht)
    | frz _ => simp [okSame] at h
    | dct _ _ _ => simp [okSame] at h
theorem okS_strs (n : Nat) : ∀ y : Yd, okSames (n + 1) (y.map .str) = true
  | [] => rfl
  | r :: y => by simp [okSames, okSame, okS_strs n y]
theorem okS_yT (n : Nat) (y : Yd) (h : y.length ≤ 5) : okSame (n + 2) (yT y) = true := by
  simp [yT, okSame, okS_strs]
  omega
theorem okS_yTs (n : Nat) : ∀ (ys : List Yd), (∀ y ∈ ys, y.length ≤ 5) → okSames (n + 2) (ys.map yT) = true
  | [], _ => rfl
  | y :: ys, h => by
    simp [okSames, okS_yT n y (h y List.mem_cons_self), okS_yTs n ys fun y hy => h y (List.mem_cons_of_mem _ hy)]
theorem same_ys (n : Nat) (ys : List Yd) (hl : ys.length ≤ 1000) (h : ∀ y ∈ ys, y.length ≤ 5) : okSame (n + 3) (.lst (ys.map yT)) = true := by
  simp [okSame, okS_yTs n ys h]
  omega
/-! ### the facts of a yard -/
def YY (y : Yd) : Prop := ∃ n C, facts n C C = true ∧ ∃ c ∈ C, dec n c = y
theorem yy_of {n : Nat} {C : List Nat} (h : facts n C C = true) {y : Yd} (hy : y ∈ C.map (dec n)) : YY y := by
  obtain ⟨c, hc, e⟩ := List.mem_map.mp hy
  exact ⟨n, C, h, c, hc, e⟩
structure FY (y : Yd) : Prop where
  isy : g_is_yarded [yT y] = .ok (.bl true)
  tM : g_turned_by [yT y, .str wM] = .ok (yT (mir y)) ∧ g__law_turned [yT y, .str wM] = .ok (yT (mir y))
  tO : g_turned_by [yT y, .str wO] = .ok (yT (ovr y)) ∧ g__law_turned [yT y, .str wO] = .ok (yT (ovr y))
  tS : g_turned_by [yT y, .str wS] = .ok (yT (swp y)) ∧ g__law_turned [yT y, .str wS] = .ok (yT (swp y))
  tW : g_turned_by [yT y, .str wW] = .ok (yT (whe y)) ∧ g__law_turned [yT y, .str wW] = .ok (yT (whe y))
  cM : YY (mir y)
  cO : YY (ovr y)
  cS : YY (swp y)
  cW : YY (whe y)
  e : mir (mir y) = y ∧ ovr (ovr y) = y ∧ swp (swp y) = y ∧ whe (whe (whe (whe y))) = y ∧ mir (swp y) = whe y ∧ swp (ovr y) = whe y ∧ ovr (mir y) = whe (whe y) ∧ y.length ≤ 5
theorem in_of {n : Nat} {C : List Nat} (h : facts n C C = true) {y : Yd} (hy : inC n C y = true) : YY y := by
  simp only [inC, Bool.and_eq_true, decide_eq_true_eq, List.contains_iff_mem] at hy
  exact ⟨n, C, h, _, hy.1, hy.2⟩
theorem fy {y : Yd} (h : YY y) : FY y := by
  obtain ⟨n, C, h, c, hc, rfl⟩ := h
  have f := List.all_eq_true.mp h c hc
  simp only [fact, factT, factC, factE, Bool.and_eq_true, decide_eq_true_eq] at f
  obtain ⟨a, ⟨b1, b2⟩, ⟨c1, c2⟩, ⟨d1, d2⟩, ⟨e1, e2⟩, ⟨k1, k2, k3, k4⟩, z⟩ := f
  exact ⟨isR_ok a, ⟨isR_ok b1, isR_ok b2⟩, ⟨isR_ok c1, isR_ok c2⟩, ⟨isR_ok d1, isR_ok d2⟩, ⟨isR_ok e1, isR_ok e2⟩, in_of h k1, in_of h k2, in_of h k3, in_of h k4, z⟩
theorem check_ok {y : Yd} (h : YY y) : g_check_yard [yT y] = .ok .non := by
  have a := (fy h).isy
  simp [g_check_yard, M_check_yard, a]
theorem m_ok {y : Yd} (h : YY y) : g_mirrored [yT y] = .ok (yT (mir y)) := by
  have a := check_ok h
  have b := (fy h).tM.1
  unfold wM at b
  simp [g_mirrored, M_mirrored, a, b]
theorem o_ok {y : Yd} (h : YY y) : g_turned_over [yT y] = .ok (yT (ovr y)) := by
  have a := check_ok h
  have b := (fy h).tO.1
  unfold wO at b
  simp [g_turned_over, M_turned_over, a, b]
theorem s_ok {y : Yd} (h : YY y) : g_swapped [yT y] = .ok (yT (swp y)) := by
  have a := check_ok h
  have b := (fy h).tS.1
  unfold wS at b
  simp [g_swapped, M_swapped, a, b]
theorem w_ok {y : Yd} (h : YY y) : g_wheeled [yT y] = .ok (yT (whe y)) := by
  have a := check_ok h
  have b := (fy h).tW.1
  unfold wW at b
  simp [g_wheeled, M_wheeled, a, b]
theorem is_ok {y : Yd} (h : YY y) : g_is_yard [yT y] = .ok (.bl true) := by
  have a := (fy h).isy
  simp [g_is_yard, M_is_yard, a]
theorem right_ok {y : Yd} (h : YY y) : g__law_right [yT y] = .ok (.bl true) := by
  have F := fy h
  obtain ⟨q1, q2, q3, q4, q5, q6, q7, q8⟩ := F.e
  have hM := m_ok h
  have hO := o_ok h
  have hS := s_ok h
  have hW := w_ok h
  have tM := F.tM.2
  have tO := F.tO.2
  have tS := F.tS.2
  have tW := F.tW.2
  have mm := m_ok F.cM
  have oo := o_ok F.cO
  have ss := s_ok F.cS
  have w2 := w_ok F.cW
  have F2 := fy F.cW
  have w3 := w_ok F2.cW
  have F3 := fy F2.cW
  have w4 := w_ok F3.cW
  have ms := m_ok F.cS
  have so := s_ok F.cO
  have om := o_ok F.cM
  rw [q1] at mm
  rw [q2] at oo
  rw [q3] at ss
  rw [q4] at w4
  rw [q5] at ms
  rw [q6] at so
  rw [q7] at om
  have lM := (fy F.cM).e.2.2.2.2.2.2.2
  have lO := (fy F.cO).e.2.2.2.2.2.2.2
  have lS := (fy F.cS).e.2.2.2.2.2.2.2
  have lW := F2.e.2.2.2.2.2.2.2
  have lWW := F3.e.2.2.2.2.2.2.2
  have same1 : g__law_same 6 [.lst [.lst [yT (mir y), yT (ovr y), yT (swp y), yT (whe y)], .lst [yT (mir y), yT (ovr y), yT (swp y), yT (whe y)]], .lst [.lst [yT (mir y), yT (ovr y), yT (swp y), yT (whe y)], .lst [yT (mir y), yT (ovr y), yT (swp y), yT (whe y)]]] = .ok (.bl true) := by
    refine same_ok 6 _ ?_
    have o := same_ys 2 [mir y, ovr y, swp y, whe y] (by simp) (by simp [lM, lO, lS, lW])
    simp only [List.map_cons, List.map_nil] at o
    simp only [okSame, okSames, Bool.and_eq_true] at o ⊢
    simp [o]
  have same2 : g__law_same 6 [.lst [yT y, yT y, yT y, yT y], .lst [yT y, yT y, yT y, yT y]] = .ok (.bl true) := same_ok 6 _ (same_ys 3 [y, y, y, y] (by simp) (by simp [q8]))
  have same3 : g__law_same 6 [.lst [yT (whe y), yT (whe y), yT (whe (whe y))], .lst [yT (whe y), yT (whe y), yT (whe (whe y))]] = .ok (.bl true) := same_ok 6 _ (same_ys 3 [whe y, whe y, whe (whe y)] (by simp) (by simp [lW, lWW]))
  have c1 := lcM_mapA (vs := [4]) (g := gNm 4) (m := (xCall 2 g__law_turned (aCons (xVar 0) (aCons (xVar 4) aNil)))) (fun p : List Nat × Yd => T.str p.1) (fun p => yT p.2) (env := [.val (yT y), .no, .no, .no, .no, .no]) (as := [(wM, mir y), (wO, ovr y), (wS, swp y), (wW, whe y)]) fun p hp => by
    refine ⟨_, [.val (yT y), .no, .no, .no, .val (.str p.1), .no], rfl, ?_, rfl⟩
    simp only [List.mem_cons, List.not_mem_nil, or_false] at hp
    rcases hp with rfl | rfl | rfl | rfl
    · simp [tM]
    · simp [tO]
    · simp [tS]
    · simp [tW]
  have c2 := lcM_filA (vs := [5]) (g := gNm 5) (tm := (tBl (x2 oIsNot (xCall 1 g_is_yard (aCons (xVar 5) aNil)) (xC (T.bl true))))) (m := xVar 5) yT (fun _ => false) yT (env := [.val (yT y), .val (.lst [yT (mir y), yT (ovr y), yT (swp y), yT (whe y)]), .val (.lst [yT (mir y), yT (ovr y), yT (swp y), yT (whe y)]), .val (.lst [yT (mir y), yT (ovr y), yT (swp y), yT (whe y)]), .no, .no]) (as := [mir y, ovr y, swp y, whe y]) fun z hz => by
    refine ⟨_, [.val (yT y), .val (.lst [yT (mir y), yT (ovr y), yT (swp y), yT (whe y)]), .val (.lst [yT (mir y), yT (ovr y), yT (swp y), yT (whe y)]), .val (.lst [yT (mir y), yT (ovr y), yT (swp y), yT (whe y)]), .no, .val (yT z)], rfl, ?_, rfl, fun e => nomatch e⟩
    have yz : YY z := by
      simp only [List.mem_cons, List.not_mem_nil, or_false] at hz
      rcases hz with rfl | rfl | rfl | rfl
      · exact F.cM
      · exact F.cO
      · exact F.cS
      · exact F.cW
    have iz := is_ok yz
    simp [iz, oIsNot]
  simp only [List.map_cons, List.map_nil, wM, wO, wS, wW] at c1
  change lcM _ _ _ _ _ _ = .ok ([], _) at c2
  simp only [List.map_cons, List.map_nil] at c2
  have mul : oMul (.lst [yT y]) (.int 4) = .ok (.lst [yT y, yT y, yT y, yT y]) := rfl
  obtain ⟨E, hE⟩ : ∃ E, (M__law_right).1 [.val (yT y), .no, .no, .no, .no, .no] = .ok (.rt (.bl true), E) := by
    dsimp only [M__law_right]
    apply Exists.intro
    refine seq_of (e1 := [.val (yT y), .val (.lst [yT (mir y), yT (ovr y), yT (swp y), yT (whe y)]), .no, .no, .no, .no]) ?_ ?_
    · simp [wipeM, c1, restM]
    refine seq_of (e1 := [.val (yT y), .val (.lst [yT (mir y), yT (ovr y), yT (swp y), yT (whe y)]), .val (.lst [yT (mir y), yT (ovr y), yT (swp y), yT (whe y)]), .no, .no, .no]) ?_ ?_
    · simp [hM, hO, hS, hW]
    refine seq_of (e1 := [.val (yT y), .val (.lst [yT (mir y), yT (ovr y), yT (swp y), yT (whe y)]), .val (.lst [yT (mir y), yT (ovr y), yT (swp y), yT (whe y)]), .val (.lst [yT (mir y), yT (ovr y), yT (swp y), yT (whe y)]), .no, .no]) ?_ ?_
    · simp [hM, hO, hS, hW, M3.pick]
    refine seq_of (if_no (e1 := [.val (yT y), .val (.lst [yT (mir y), yT (ovr y), yT (swp y), yT (whe y)]), .val (.lst [yT (mir y), yT (ovr y), yT (swp y), yT (whe y)]), .val (.lst [yT (mir y), yT (ovr y), yT (swp y), yT (whe y)]), .no, .no]) ?_) ?_
    · simp [same1, wipeM, c2, restM]
    refine seq_of (if_no (e1 := [.val (yT y), .val (.lst [yT (mir y), yT (ovr y), yT (swp y), yT (whe y)]), .val (.lst [yT (mir y), yT (ovr y), yT (swp y), yT (whe y)]), .val (.lst [yT (mir y), yT (ovr y), yT (swp y), yT (whe y)]), .no, .no]) ?_) ?_
    · simp [-oMul, mm, oo, ss, w2, w3, w4, mul, same2]
    refine ret_of (e1 := [.val (yT y), .val (.lst [yT (mir y), yT (ovr y), yT (swp y), yT (whe y)]), .val (.lst [yT (mir y), yT (ovr y), yT (swp y), yT (whe y)]), .val (.lst [yT (mir y), yT (ovr y), yT (swp y), yT (whe y)]), .no, .no]) ?_
    simp [ms, so, om, w2, same3]
  exact fnM_rt (n := 6) hE
end LK
namespace LK
open PySem PySem.Spec PyProof.Rows L2 M3
def DD (A B C D E : T) : T := .dct false [.int 1, .int 2, .int 3, .int 4, .int 5] [A, B, C, D, E]
theorem dd_mk (A B C D E : T) : fDictP [.lst [.tup [.int 1, A], .tup [.int 2, B], .tup [.int 3, C], .tup [.int 4, D], .tup [.int 5, E]]] = some (DD A B C D E) := rfl
theorem dd_1 (A B C D E : T) : oIxA (DD A B C D E) (.int 1) = .ok A := rfl
theorem dd_2 (A B C D E : T) : oIxA (DD A B C D E) (.int 2) = .ok B := rfl
theorem dd_3 (A B C D E : T) : oIxA (DD A B C D E) (.int 3) = .ok C := rfl
theorem dd_4 (A B C D E : T) : oIxA (DD A B C D E) (.int 4) = .ok D := rfl
theorem dd_5 (A B C D E : T) : oIxA (DD A B C D E) (.int 5) = .ok E := rfl
def lY (Y : List Yd) : T := .lst (Y.map yT)
def EV : T := DD (lY Y1) (lY Y2) (lY Y3) (lY Y4) (lY Y5)
def pairM : XM := (xTup (aCons (xVar 2) (aCons (xCall 1 g__law_yards (aCons (xVar 2) aNil)) aNil)))
theorem pair_ok (n : Int) (Y : List Yd) (h : g__law_yards [.int n] = .ok (.lst (Y.map yT))) (s0 s1 s3 s4 s5 : Sl) : pairM [s0, s1, .val (.int n), s3, s4, s5] = .ok (.tup [.int n, lY Y], [s0, s1, .val (.int n), s3, s4, s5]) := by
  unfold pairM lY
  simp [h]
theorem every_ok (s0 s1 s3 s4 s5 : Sl) : lcM [2] (gNm 2) tYesM (eltM pairM) [.int 1, .int 2, .int 3, .int 4, .int 5] [s0, s1, .no, s3, s4, s5] = .ok ([.tup [.int 1, lY Y1], .tup [.int 2, lY Y2], .tup [.int 3, lY Y3], .tup [.int 4, lY Y4], .tup [.int 5, lY Y5]], [s0, s1, .no, s3, s4, s5]) := by
  refine lcM_mapA (vs := [2]) (g := gNm 2) (fun p : Int × T => T.int p.1) (fun p => .tup [.int p.1, p.2]) (as := [(1, lY Y1), (2, lY Y2), (3, lY Y3), (4, lY Y4), (5, lY Y5)]) fun p hp => ?_
  refine ⟨_, [s0, s1, .val (.int p.1), s3, s4, s5], rfl, ?_, rfl⟩
  simp only [List.mem_cons, List.not_mem_nil, or_false] at hp
  rcases hp with rfl | rfl | rfl | rfl | rfl
  · exact pair_ok 1 Y1 yards1 _ _ _ _ _
  · exact pair_ok 2 Y2 yards2 _ _ _ _ _
  · exact pair_ok 3 Y3 yards3 _ _ _ _ _
  · exact pair_ok 4 Y4 yards4 _ _ _ _ _
  · exact pair_ok 5 Y5 yards5 _ _ _ _ _
/-- all of the small ones -/
def allB : SM := (sIf
            (tNotM
              (tTru
                (xCB fAll
                  (aCons
                    (xLc (iAnyM (x2 oIxA (xVar 1) (xVar 2)))
                      (List.map (fun x => x.snd) [(Str.ofString "yard", 5)]) (gNm 5) tYesM
                      (eltM (xCall 1 g__law_right (aCons (xVar 5) aNil))))
                    aNil))))
            (sRet (xC (T.bl false))) sNil)
theorem all_step (n : Int) (Y : List Yd) (hi : oIxA EV (.int n) = .ok (lY Y)) (hY : ∀ y ∈ Y, YY y) (hl : Y.length ≤ 1000) (s0 s3 s4 : Sl) : allB [s0, .val EV, .val (.int n), s3, s4, .no] = .ok (.nx, [s0, .val EV, .val (.int n), s3, s4, .no]) := by
  have c := lcM_mapA (vs := [5]) (g := gNm 5) (m := (xCall 1 g__law_right (aCons (xVar 5) aNil))) yT (fun _ => .bl true) (env := [s0, .val EV, .val (.int n), s3, s4, .no]) (as := Y) fun y hy => by
    refine ⟨_, [s0, .val EV, .val (.int n), s3, s4, .val (yT y)], rfl, ?_, rfl⟩
    have r := right_ok (hY y hy)
    simp [r]
  have tr : boolsT (List.replicate Y.length (T.bl true)) = some (List.replicate Y.length true) := by rw [← boolsT_map, List.map_replicate]
  rw [List.map_const'] at c
  have l1 : Y.length ≤ 16777216 := by omega
  unfold allB
  refine if_no ?_
  simp [-oIxA, hi, lY, wipeM, c, restM, l1, tr]
theorem y1 : ∀ y ∈ Y1, YY y := fun y h => yy_of f1 h
theorem y2 : ∀ y ∈ Y2, YY y := fun y h => yy_of f2 h
theorem y3 : ∀ y ∈ Y3, YY y := fun y h => yy_of f3 h
theorem y4 : ∀ y ∈ Y4, YY y := fun y h => yy_of f4 h
theorem y5 : ∀ y ∈ Y5, YY y := fun y h => yy_of f5 h
theorem n1 : 0 < Y1.length ∧ Y1.length ≤ 1000 := by rw [Y1, List.length_map]; decide +kernel
theorem n2 : 0 < Y2.length ∧ Y2.length ≤ 1000 := by rw [Y2, List.length_map]; decide +kernel
theorem n3 : 0 < Y3.length ∧ Y3.length ≤ 1000 := by rw [Y3, List.length_map]; decide +kernel
theorem n4 : 0 < Y4.length ∧ Y4.length ≤ 1000 := by rw [Y4, List.length_map]; decide +kernel
theorem n5 : 0 < Y5.length ∧ Y5.length ≤ 1000 := by rw [Y5, List.length_map]; decide +kernel
/-- a drawn one -/
def drawB : SM := (sIf
                  (tNotM
                    (tTru
                      (xCall 1 g__law_right
                        (aCons (xCallI 2 4 g__law_pick (aCons (x2 oIxA (xVar 1) (xVar 2)) aNil)) aNil))))
                  (sRet (xC (T.bl false))) sNil)
theorem draw_step (n : Int) (Y : List Yd) (hi : oIxA EV (.int n) = .ok (lY Y)) (hY : ∀ y ∈ Y, YY y) (hl : 0 < Y.length ∧ Y.length ≤ 1000) (s0 s3 s5 : Sl) (fl : Bool) (a b c : Int) (ha : 0 ≤ a) : ∃ a' b' c', drawB [s0, .val EV, .val (.int n), s3, .own fl (W a b c), s5] = .ok (.nx, [s0, .val EV, .val (.int n), s3, .own fl (W a' b' c'), s5]) ∧ 0 ≤ a' := by
  obtain ⟨t, a', b', c', e, ht, ha'⟩ := pick_ok a b c (Y.map yT) ha (by rw [List.length_map]; exact hl.1) (by rw [List.length_map]; omega)
  obtain ⟨y, hy, rfl⟩ := List.mem_map.mp ht
  have r := right_ok (hY y hy)
  refine ⟨a', b', c', ?_, ha'⟩
  unfold drawB
  refine if_no ?_
  simp [-oIxA, hi, lY, e, r]
theorem draws_ok (s0 s3 s5 : Sl) (fl : Bool) : ∀ (ns : List Int) (s2 : Sl) (a b c : Int), 0 ≤ a → (∀ n ∈ ns, n = 1 ∨ n = 2 ∨ n = 3 ∨ n = 4 ∨ n = 5) → ∃ s2' a' b' c', forM' (gNm 2) drawB (ns.map .int) [s0, .val EV, s2, s3, .own fl (W a b c), s5] = .ok (.nx, [s0, .val EV, s2', s3, .own fl (W a' b' c'), s5]) ∧ 0 ≤ a'
  | [], s2, a, b, c, ha, _ => ⟨s2, a, b, c, rfl, ha⟩
  | n :: ns, s2, a, b, c, ha, h => by
    have st : ∃ a' b' c', drawB [s0, .val EV, .val (.int n), s3, .own fl (W a b c), s5] = .ok (.nx, [s0, .val EV, .val (.int n), s3, .own fl (W a' b' c'), s5]) ∧ 0 ≤ a' := by
      rcases h n List.mem_cons_self with rfl | rfl | rfl | rfl | rfl
      · exact draw_step 1 Y1 (dd_1 _ _ _ _ _) y1 n1 s0 s3 s5 fl a b c ha
      · exact draw_step 2 Y2 (dd_2 _ _ _ _ _) y2 n2 s0 s3 s5 fl a b c ha
      · exact draw_step 3 Y3 (dd_3 _ _ _ _ _) y3 n3 s0 s3 s5 fl a b c ha
      · exact draw_step 4 Y4 (dd_4 _ _ _ _ _) y4 n4 s0 s3 s5 fl a b c ha
      · exact draw_step 5 Y5 (dd_5 _ _ _ _ _) y5 n5 s0 s3 s5 fl a b c ha
    obtain ⟨a1, b1, c1, e1, ha1⟩ := st
    obtain ⟨s2', a', b', c', e, ha'⟩ := draws_ok s0 s3 s5 fl ns (.val (.int n)) a1 b1 c1 ha1 fun n hn => h n (List.mem_cons_of_mem _ hn)
    exact ⟨s2', a', b', c', for_cons (e1 := [s0, .val EV, .val (.int n), s3, .own fl (W a b c), s5]) rfl e1 e, ha'⟩
def turnB : SM := (sSeq (sSetn 4 (xCall 2 g__law_well (aCons (xVar 0) (aCons (xVar 3) aNil))))
              (sFor
                (iAnyM
                  (xLst
                    (aCons (xC (T.int 1))
                      (aCons (xC (T.int 2))
                        (aCons (xC (T.int 3))
                          (aCons (xC (T.int 4))
                            (aCons (xC (T.int 4))
                              (aCons (xC (T.int 5)) (aCons (xC (T.int 5)) (aCons (xC (T.int 5)) aNil))))))))))
                (gNm 2) drawB))
theorem turns_ok (ns : List Int) (hl : ns.length ≤ 63) (s5 : Sl) : ∀ (ts : List Nat) (s2 s3 s4 : Sl), ∃ s2' s3' s4', forM' (gNm 3) turnB (ts.map fun t => T.int (t : Nat)) [.val (scr ns), .val EV, s2, s3, s4, s5] = .ok (.nx, [.val (scr ns), .val EV, s2', s3', s4', s5])
  | [], s2, s3, s4 => ⟨s2, s3, s4, rfl⟩
  | t :: ts, s2, s3, s4 => by
    obtain ⟨a, b, e1, h1⟩ := well_ok ns t hl
    obtain ⟨s2', a', b', c', e2, _⟩ := draws_ok (.val (scr ns)) (.val (.int (t : Nat))) s5 false [1, 2, 3, 4, 4, 5, 5, 5] s2 a b 0 h1 (by simp)
    obtain ⟨x2', x3', x4', e⟩ := turns_ok ns hl s5 ts s2' (.val (.int (t : Nat))) (.own false (W a' b' c'))
    refine ⟨x2', x3', x4', for_cons (e1 := [.val (scr ns), .val EV, s2, .val (.int (t : Nat)), s4, s5]) rfl ?_ e⟩
    unfold turnB
    refine seq_of (e1 := [.val (scr ns), .val EV, s2, .val (.int (t : Nat)), .own false (W a b 0), s5]) ?_ ?_
    · simp [e1]
    · exact for_of (ts := [1, 2, 3, 4, 4, 5, 5, 5].map .int) rfl e2
theorem law_true (ns : List Int) (hl : ns.length ≤ 63) : g_law [scr ns] = .ok (.bl true) := by
  obtain ⟨n, hn, hn2⟩ : ∃ n : Nat, (if 2 < if 4 < (ns.length : Int) then 4 else (ns.length : Int) then if 4 < (ns.length : Int) then 4 else (ns.length : Int) else 2) = (n : Int) ∧ n ≤ 1000000 := by
    by_cases h3 : 4 < (ns.length : Int)
    · exact ⟨4, by simp [h3], by omega⟩
    · by_cases h2 : 2 < (ns.length : Int)
      · exact ⟨ns.length, by simp [h3]; omega, by omega⟩
      · exact ⟨2, by simp [h3]; omega, by omega⟩
  have hr : rng1 [.int (n : Int)] = .ok ((rgI 0 n).map .int) := rng1_ok hn2
  have rr : ∀ (n : Nat) (i : Nat), (rgI i n).map T.int = (List.range' i n).map fun t => T.int (t : Nat) := by
    intro n
    induction n with
    | zero => intro i; rfl
    | succ n ih =>
      intro i
      have := ih (i + 1)
      simp only [rgI, List.map_cons, List.range'_succ]
      rw [← this]
      rfl
  have hr2 : rng1 [.int (n : Int)] = .ok ((List.range' 0 n).map fun t => T.int (t : Nat)) := by rw [hr]; exact congrArg _ (rr n 0)
  obtain ⟨x2', x3', x4', e⟩ := turns_ok ns hl .no (List.range' 0 n) (.val (.int 3)) .no .no
  have ln : fLen [scr ns] = some (.int ns.length) := by simp [scr]
  obtain ⟨E, hE⟩ : ∃ E, (M_law).1 [.val (scr ns), .no, .no, .no, .no, .no] = .ok (.rt (.bl true), E) := by
    dsimp only [M_law]
    apply Exists.intro
    refine seq_of (e1 := [.val (scr ns), .val EV, .no, .no, .no, .no]) (set_of (xCB_of (one_of (xLc_of (ts := [.int 1, .int 2, .int 3, .int 4, .int 5]) (e1 := [.val (scr ns), .no, .no, .no, .no, .no]) rfl (every_ok _ _ _ _ _) (by simp))) (dd_mk _ _ _ _ _))) ?_
    refine seq_of (for_of (ts := [.int 1, .int 2, .int 3]) (e1 := [.val (scr ns), .val EV, .no, .no, .no, .no]) rfl (for_cons rfl (all_step 1 Y1 (dd_1 _ _ _ _ _) y1 n1.2 _ _ _) (for_cons rfl (all_step 2 Y2 (dd_2 _ _ _ _ _) y2 n2.2 _ _ _) (for_cons rfl (all_step 3 Y3 (dd_3 _ _ _ _ _) y3 n3.2 _ _ _) rfl)))) ?_
    refine seq_of (for_of (ts := (List.range' 0 n).map fun t => T.int (t : Nat)) (e1 := [.val (scr ns), .val EV, .val (.int 3), .no, .no, .no]) ?_ e) ?_
    · simp [-fLen, ln, hn, hr2]
    · rfl
  exact fnM_rt (n := 6) hE
end LK
namespace LK
open PySem PySem.W PySem.Spec PySem.Calls PyProof.Rows M3
def fa : List He.Fa := [.free "len", .free "int", .free "sum", .free "abs", .free "sorted", .free "range", .free "tuple", .free "max", .free "min", .free "isinstance", .free "list", .free "all", .free "bool", .free "str", .free "zip", .free "any", .free "divmod", .free "dict", .str "SIGNS" "+-0", .str "PLUS" "+", .str "MINUS" "-", .int "MOST_ROWS" 5, .str "MIRROR" "mirror", .str "OVER" "over", .str "SWAP" "swap", .str "WHEEL" "wheel", .glo "_law_well", .glo "_law_lines", .glo "_law_yards", .glo "_law_same", .glo "_law_turned", .glo "is_tuple_of", .glo "is_text_of", .glo "is_sign_row", .glo "are_sign_rows", .glo "is_line", .glo "columns_of", .glo "is_yard_of", .glo "is_yarded", .glo "check_yard", .glo "turned_by", .glo "mirrored", .glo "turned_over", .glo "swapped", .glo "wheeled", .glo "is_yard", .glo "_law_right", .glo "_law_take", .glo "_law_pick", .glo "law"]
def fn : List He.DefD := [⟨("_law_well", none), "_law_well", "_law_well", L2.defArgs st__law_well, L2.defBody st__law_well, L2.defScope st__law_well, [], []⟩,
  ⟨("_law_lines", none), "_law_lines", "_law_lines", L2.defArgs st__law_lines, L2.defBody st__law_lines, L2.defScope st__law_lines, [], []⟩,
  ⟨("_law_yards", none), "_law_yards", "_law_yards", L2.defArgs st__law_yards, L2.defBody st__law_yards, L2.defScope st__law_yards, [], []⟩,
  ⟨("_law_same", none), "_law_same", "_law_same", L2.defArgs st__law_same, L2.defBody st__law_same, L2.defScope st__law_same, [], []⟩,
  ⟨("_law_turned", none), "_law_turned", "_law_turned", L2.defArgs st__law_turned, L2.defBody st__law_turned, L2.defScope st__law_turned, [], []⟩,
  ⟨("is_tuple_of", none), "is_tuple_of", "is_tuple_of", L2.defArgs st_is_tuple_of, L2.defBody st_is_tuple_of, L2.defScope st_is_tuple_of, [], []⟩,
  ⟨("is_text_of", none), "is_text_of", "is_text_of", L2.defArgs st_is_text_of, L2.defBody st_is_text_of, L2.defScope st_is_text_of, [], []⟩,
  ⟨("is_sign_row", none), "is_sign_row", "is_sign_row", L2.defArgs st_is_sign_row, L2.defBody st_is_sign_row, L2.defScope st_is_sign_row, [], []⟩,
  ⟨("are_sign_rows", none), "are_sign_rows", "are_sign_rows", L2.defArgs st_are_sign_rows, L2.defBody st_are_sign_rows, L2.defScope st_are_sign_rows, [], []⟩,
  ⟨("is_line", none), "is_line", "is_line", L2.defArgs st_is_line, L2.defBody st_is_line, L2.defScope st_is_line, [], []⟩,
  ⟨("columns_of", none), "columns_of", "columns_of", L2.defArgs st_columns_of, L2.defBody st_columns_of, L2.defScope st_columns_of, [], []⟩,
  ⟨("is_yard_of", none), "is_yard_of", "is_yard_of", L2.defArgs st_is_yard_of, L2.defBody st_is_yard_of, L2.defScope st_is_yard_of, [], []⟩,
  ⟨("is_yarded", none), "is_yarded", "is_yarded", L2.defArgs st_is_yarded, L2.defBody st_is_yarded, L2.defScope st_is_yarded, [], []⟩,
  ⟨("check_yard", none), "check_yard", "check_yard", L2.defArgs st_check_yard, L2.defBody st_check_yard, L2.defScope st_check_yard, [], []⟩,
  ⟨("turned_by", none), "turned_by", "turned_by", L2.defArgs st_turned_by, L2.defBody st_turned_by, L2.defScope st_turned_by, [], []⟩,
  ⟨("mirrored", none), "mirrored", "mirrored", L2.defArgs st_mirrored, L2.defBody st_mirrored, L2.defScope st_mirrored, [], []⟩,
  ⟨("turned_over", none), "turned_over", "turned_over", L2.defArgs st_turned_over, L2.defBody st_turned_over, L2.defScope st_turned_over, [], []⟩,
  ⟨("swapped", none), "swapped", "swapped", L2.defArgs st_swapped, L2.defBody st_swapped, L2.defScope st_swapped, [], []⟩,
  ⟨("wheeled", none), "wheeled", "wheeled", L2.defArgs st_wheeled, L2.defBody st_wheeled, L2.defScope st_wheeled, [], []⟩,
  ⟨("is_yard", none), "is_yard", "is_yard", L2.defArgs st_is_yard, L2.defBody st_is_yard, L2.defScope st_is_yard, [], []⟩,
  ⟨("_law_right", none), "_law_right", "_law_right", L2.defArgs st__law_right, L2.defBody st__law_right, L2.defScope st__law_right, [], []⟩,
  ⟨("_law_take", none), "_law_take", "_law_take", L2.defArgs st__law_take, L2.defBody st__law_take, L2.defScope st__law_take, [], []⟩,
  ⟨("_law_pick", none), "_law_pick", "_law_pick", L2.defArgs st__law_pick, L2.defBody st__law_pick, L2.defScope st__law_pick, [], []⟩,
  ⟨("law", none), "law", "law", L2.defArgs st_law, L2.defBody st_law, L2.defScope st_law, [], []⟩]
def xs : List (Str × Str) := [("ZERO", "0")]
abbrev lw : OpenLaw := PySem.Challenge.rw_iceyards_k43_turned_yards
abbrev qv : Program := view lw.row.prog [42]
def looseN : List Str := [("YardError" : Str), ("InvalidYard" : Str), ("is_tuple_of" : Str), ("is_text_of" : Str), ("ZERO" : Str), ("PLUS" : Str), ("MINUS" : Str), ("SIGNS" : Str), ("MOST_ROWS" : Str), ("is_sign_row" : Str), ("are_sign_rows" : Str), ("is_line" : Str), ("columns_of" : Str), ("is_yard_of" : Str), ("is_yarded" : Str), ("MIRROR" : Str), ("OVER" : Str), ("SWAP" : Str), ("WHEEL" : Str), ("turned_by" : Str), ("check_yard" : Str), ("mirrored" : Str), ("turned_over" : Str), ("swapped" : Str), ("wheeled" : Str), ("is_yard" : Str), ("_law_well" : Str), ("_law_take" : Str), ("_law_pick" : Str), ("_law_same" : Str), ("_law_lines" : Str), ("_law_yards" : Str), ("_law_turned" : Str), ("_law_right" : Str)]
theorem run (w : World) (os : OsState) : (HandSHeadRun.endF (HandSHeadRun.stepQ (HandSHeadRun.denQ HandSHeadRun.tabQ) lw.row.prog w) 3000 lw.row.prog w os).map (fun s => (HandSHeadRun.looksF lw.row.prog (boot_heap w.params) s.abs, HandSHeadRun.seenQ qv looseN (importedModules lw.row.prog.main.body) (fun s => xlAt qv [] s && recOk lw.row.toRowW.records s) s.abs, obT 5 fa fn xs 400 s)) = some (true, openGood qv looseN, (((true, fn.map He.DefD.val), true), true)) := by
  kernel_rfl
theorem cg_facts {K : PySem.W.Frag} {mg : Str → Option Value} {h : Heap} (KX : K.In h) (G : h.Ns mainGlobals mg) (c : He.SaysD fa fn K) (c3 : (xs.all fun p => strB K p.1 p.2 400) = true) : CG 400 K mg ∧ DF K mg :=
  ⟨⟨He.free_ok KX G (c.fact 0 rfl), He.free_ok KX G (c.fact 1 rfl), He.free_ok KX G (c.fact 2 rfl), He.free_ok KX G (c.fact 3 rfl), He.free_ok KX G (c.fact 4 rfl), He.free_ok KX G (c.fact 5 rfl), He.free_ok KX G (c.fact 6 rfl), He.free_ok KX G (c.fact 7 rfl), He.free_ok KX G (c.fact 8 rfl), He.free_ok KX G (c.fact 9 rfl), He.free_ok KX G (c.fact 10 rfl), He.free_ok KX G (c.fact 11 rfl), He.free_ok KX G (c.fact 12 rfl), He.free_ok KX G (c.fact 13 rfl), He.free_ok KX G (c.fact 14 rfl), He.free_ok KX G (c.fact 15 rfl), He.free_ok KX G (c.fact 16 rfl), He.free_ok KX G (c.fact 17 rfl), He.str_ok KX G (c.fact 18 rfl), He.str_ok KX G (c.fact 19 rfl), He.str_ok KX G (c.fact 20 rfl), He.int_ok KX G (c.fact 21 rfl), He.str_ok KX G (c.fact 22 rfl), He.str_ok KX G (c.fact 23 rfl), He.str_ok KX G (c.fact 24 rfl), He.str_ok KX G (c.fact 25 rfl), strB_ok KX G (List.all_eq_true.mp c3 ("ZERO", "0") (List.mem_of_getElem? (i := 0) rfl))⟩, ⟨df_T KX G c 26 0 rfl rfl, df_T KX G c 27 1 rfl rfl, df_T KX G c 28 2 rfl rfl, df_T KX G c 29 3 rfl rfl, df_T KX G c 30 4 rfl rfl, df_T KX G c 31 5 rfl rfl, df_T KX G c 32 6 rfl rfl, df_T KX G c 33 7 rfl rfl, df_T KX G c 34 8 rfl rfl, df_T KX G c 35 9 rfl rfl, df_T KX G c 36 10 rfl rfl, df_T KX G c 37 11 rfl rfl, df_T KX G c 38 12 rfl rfl, df_T KX G c 39 13 rfl rfl, df_T KX G c 40 14 rfl rfl, df_T KX G c 41 15 rfl rfl, df_T KX G c 42 16 rfl rfl, df_T KX G c 43 17 rfl rfl, df_T KX G c 44 18 rfl rfl, df_T KX G c 45 19 rfl rfl, df_T KX G c 46 20 rfl rfl, df_T KX G c 47 21 rfl rfl, df_T KX G c 48 22 rfl rfl, df_T KX G c 49 23 rfl rfl⟩⟩
end LK
open PySem PySem.W PySem.Calls PyProof.Rows
theorem PySem.Challenge.cw_iceyards_k43_turned_yards_holds : PySem.Challenge.rw_iceyards_k43_turned_yards.Holds := by
  w_on; o_law
  refine M3.head_T (l := PySem.Challenge.rw_iceyards_k43_turned_yards) (q := LK.qv) (n := 5) (tk := 400) (M := 3000) (fa := LK.fa) (fn := LK.fn) (xs := LK.xs) (loose := LK.looseN) (d := HandSHeadRun.topDef LK.lw.row.prog 42) (by kernel_rfl) (fun s => by kernel_rfl) LK.run (by kernel_rfl) (by kernel_rfl) (by kernel_rfl) (by rfl) (by first | assumption | decide +kernel) (by decide +kernel) ⟨rfl, rfl, rfl, rfl, rfl, by decide +kernel⟩ ?hw rfl (by kernel_rfl) ?hc
  case hw => w_witness2
  case hc =>
    refine M3.callT_of (k := 9) (x := "script") ⟨rfl, by decide, by decide⟩ fun w mg fa h Y G hm => ?_
    obtain ⟨K, KX, c, c3⟩ := Y
    obtain ⟨cg, df⟩ := LK.cg_facts KX G c c3
    have hmg : mg ("law" : PySem.Str) = some (.ref fa) := by
      have e : (HandSHeadRun.topDef LK.lw.row.prog 42).name = ("law" : PySem.Str) := by kernel_rfl
      rw [← e]
      exact hm
    obtain ⟨fd, hb, hF⟩ := M3.law_fd (tk := 400) (k := 9) (P := LK.lw.row.prog) (w := w) df.d_law hmg LK.B_law LK.law_true (fun base _ _ => LK.x_law cg df (by decide))
    exact ⟨K, fd, KX, hb, hF⟩
