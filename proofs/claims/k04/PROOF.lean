import PyProof.Rows.All
import Wide.All
import OpenK.AllK
import Wide.FinOn
import HandS.TupAny
import HandS.WideBits
import HandS.WideMore
import HandS.Comp
import HandS.GenCall
import PyProof.GenCompD
import HandS.AnyAll
import HandS.GenList
import PyProof.TupleOfGen
import PyProof.SumAny
import HandS.Iter
import KE.GoesMore
import KE.GoesEnum
import PyProof.Draws
import HandS.TupMul
import HandS.SortInts
import HandS.SortRule
import HandS.Conv
import HandS.Style
import KE.DataFind
import KE.KMathG
import HandS.ForMost
import HandS.Walk
import HandS.Exc
import HandS.ExcOwn
import HandS.ExcIs
import HandS.WordsExc
import HandS.TupLe
import HandS.Gcd
import HandS.IsInst
import HandS.Deep
import HandS.Wide
import HandS.ExcCtx
import HandS.HotCalls
import HandS.Rev
import HandS.RevTup
import HandS.TupLen
import HandS.Dict
import KE.KDictPairs
import KE.KTupSum
import PyProof.WalkInts
import KE.KIndexOf
import HandS.Zip
import PyProof.ExcBaseAll.ValueError
import HandS.EndTab
import PySem.Challenge.RW_kiteheld_k04_whole_heights_in_gusts
section
set_option Elab.async false
set_option linter.all false
set_option maxRecDepth 100000
set_option maxHeartbeats 4000000
set_option autoImplicit false
/-! made tuples: with smode their object is known (it has no dict), else they stand as tuples alone -/
namespace L2
open PySem PySem.Spec PyProof.Rows
/-- are the objects of made tuples known? -/
@[irreducible] def smode : Bool := true
def TupHO (ho : HO) (xs : List V) : Prop := (smode = true ∧ ∃ ob : Obj, ob.dict = none ∧ ob.cls = .type "tuple" ∧ ho = .frz ob (.tup xs)) ∨ (smode = false ∧ ho = .tup xs)
def tHO (ob : Obj) (xs : List V) : HO := if smode then .frz ob (.tup xs) else .tup xs
def TupAt (H : Hp) (a : Addr) (xs : List V) : Prop := ∃ ho, H a = some ho ∧ TupHO ho xs
/-- what comes of a new tuple of xs -/
def TQ (H : Hp) (xs : List V) (Q : VK) : Prop := ∀ p ho, H p = none → TupHO ho xs → Q (.ref p) (upd H p ho)
section
variable {H H' : Hp} {a : Addr} {xs : List V} {ho : HO} {ob : Obj}
theorem tHO_is (h : ob.dict = none) (hc : ob.cls = .type "tuple") : TupHO (tHO ob xs) xs := by
  unfold tHO
  cases e : smode with
  | true => exact .inl ⟨e, ob, h, hc, if_pos rfl⟩
  | false => exact .inr ⟨e, if_neg Bool.false_ne_true⟩
theorem tHO_ok {P : Program} {w : World} {h : Heap} {p : Addr} {its : List Value} {n : Nat} (z : xs.length ≤ sizeLine) (r : Vals xs its) (e : h.get? p = some ob) (hc : ob.cls = .type "tuple") (hd : ob.data = .seq its.toArray n) : ObjOk P w H h p (tHO ob xs) := by
  have k : ObjOk P w H h p (.tup xs) := ⟨z, its, r, ob, e, hc, n, hd⟩
  unfold tHO
  split
  · exact ⟨e, k⟩
  · exact k
theorem TupHO.weak (h : smode = false) : TupHO (.tup xs) xs := .inr ⟨h, rfl⟩
theorem TupHO.rd (t : TupHO ho xs) (e : H a = some ho) : Rd H a (.tup xs) := by
  rcases t with ⟨_, ob, _, _, rfl⟩ | ⟨_, rfl⟩
  · exact .inr ⟨ob, e⟩
  · exact .inl e
theorem TupAt.rd (t : TupAt H a xs) : Rd H a (.tup xs) := let ⟨_, e, q⟩ := t; q.rd e
theorem TupAt.keep (e : H' a = H a) (t : TupAt H a xs) : TupAt H' a xs := let ⟨ho, h, q⟩ := t; ⟨ho, e.trans h, q⟩
theorem TupAt.new (t : TupHO ho xs) : TupAt (upd H a ho) a xs := ⟨ho, upd_same, t⟩
theorem TupHO.nt (t : TupHO ho xs) (ps : Array Value) : ho ≠ .tbl ps := by
  rcases t with ⟨_, ob, _, _, rfl⟩ | ⟨_, rfl⟩ <;> exact fun z => nomatch z
/-- a made tuple has no dict -/
theorem TupAt.bare (hs : smode = true) (t : TupAt H a xs) {P : Program} {w : World} {h : Heap} (ok : HOk P w H h) : ∃ o, h.get? a = some o ∧ o.dict = none ∧ o.cls = .type "tuple" := by
  obtain ⟨ho, e, t⟩ := t
  rcases t with ⟨_, ob, hd, hc, rfl⟩ | ⟨z, _⟩
  · obtain ⟨q, _⟩ := ok a _ e
    exact ⟨ob, q, hd, hc⟩
  · rw [hs] at z; cases z
end
section
variable {X : Cx} {e : Expr} {es : List Expr} {t : TA} {pos : Pos}
theorem Inv.madeT {pins : List (Addr × Obj)} {σ : St} {H : Hp} {s : Shared} {Q : VK} {its : List Value} {xs : List V} (I : Inv X pins σ H s) (z : xs.length ≤ sizeLine) (r : Vals xs its) (q : TQ H xs Q) :
    EP X pins σ Q (.ref s.heap.objs.size) { s with heap := s.heap.push { cls := .type "tuple", data := .seq its.toArray } } :=
  ⟨.ref s.heap.objs.size, _, I.laid (t' := s.toks) (o := tHO { cls := .type "tuple", data := .seq its.toArray } xs) (fun b u e => Heap.get?_push_of_some _ e) (Nat.le_refl _) (tHO_ok z r (Heap.get?_push_size _ rfl) rfl rfl), rfl, q _ _ (I.hok.fresh (Nat.le_refl _)) (tHO_is rfl rfl)⟩
def tTupMT (t : TA) : TE := fun σ H Q => t σ H fun xs H1 => xs.length ≤ sizeLine ∧ TQ H1 xs Q
theorem pe_tupMT {j : Nat} (h : PA X es t) : PE X (.Tuple es j pos) (tTupMT t) :=
  ⟨fun pins s σ H Q I hq => wpAny_Tuple_spliced (thn (h.run pos pins s σ H _ I hq) fun _ _ ⟨_, _, I1, r, z, q⟩ => ⟨Nat.le_trans (Nat.le_of_eq r.length.symm) z, I1.madeT z r q⟩)⟩
def rCatMT (K : PySem.W.Frag) : R2 := fun x y H Q => ∃ a b xs ys, x = .ref a ∧ y = .ref b ∧ SqT K H a xs ∧ SqT K H b ys ∧ xs.length + ys.length ≤ sizeLine ∧
  (xs = [] → Q (.ref b) H) ∧ (xs ≠ [] → ys = [] → Q (.ref a) H) ∧ (xs ≠ [] → ys ≠ [] → TQ H (xs ++ ys) Q)
theorem op_catMT : OpR X (binaryOp .Add) (rCatMT X.K) := by
  intro pins s σ H x y v u Q I rx ry h
  obtain ⟨a, b, xs, ys, rfl, rfl, ha, hb, hz, q0, q1, q2⟩ := h
  by_cases h0 : xs = [] ∨ ys = []
  · refine op_catA pins s σ H _ _ v u Q I rx ry ⟨a, b, xs, ys, rfl, rfl, ha, hb, hz, q0, q1, fun n1 n2 => ?_⟩
    rcases h0 with h0 | h0
    · exact (n1 h0).elim
    · exact (n2 h0).elim
  · cases rx
    cases ry
    have n1 : xs ≠ [] := fun z => h0 (.inl z)
    have n2 : ys ≠ [] := fun z => h0 (.inr z)
    obtain ⟨i1, r1, p1, _⟩ := I.tuple ha
    obtain ⟨i2, r2, p2, _⟩ := I.tuple hb
    have l1 := r1.length
    have l2 := r2.length
    exact HT.cat_tup p1 p2 (fun z => n1 (r1.nil_iff.mp z)) (fun z => (n2 (r2.nil_iff.mp z)).elim) (fun _ => I.madeT (by rw [List.length_append]; exact hz) (r1.append r2) (q2 n1 n2)) (by omega)
def rSlMT (K : PySem.W.Frag) : V → Option Int → Option Int → Hp → VK → Prop := fun x lo hi H Q => ∃ a xs, x = .ref a ∧ SqT K H a xs ∧
  (HT.sIx xs.length 0 lo = 0 ∧ HT.sIx xs.length xs.length hi = xs.length → Q (.ref a) H) ∧ (¬ (HT.sIx xs.length 0 lo = 0 ∧ HT.sIx xs.length xs.length hi = xs.length) → TQ H (cutV xs lo hi) Q)
theorem sl_tupMT : SlR X (rSlMT X.K) := by
  intro pins s σ H x v vl vu lo hi sl Q I rx hs pl pu h
  obtain ⟨a, xs, rfl, hx, q1, q2⟩ := h
  by_cases hw : HT.sIx xs.length 0 lo = 0 ∧ HT.sIx xs.length xs.length hi = xs.length
  · exact sl_tupA pins s σ H _ v vl vu lo hi sl Q I rx hs pl pu ⟨a, xs, rfl, hx, q1, fun n => (n hw).elim⟩
  · cases rx
    obtain ⟨i1, r1, p1, hz⟩ := I.tuple hx
    have l1 : i1.toArray.size = xs.length := by rw [List.size_toArray]; exact r1.length.symm
    have q3 := I.madeT (Nat.le_trans (cutV_length xs lo hi) hz) ((r1.drop (HT.sIx xs.length 0 lo)).take (HT.sIx xs.length xs.length hi - HT.sIx xs.length 0 lo)) (q2 hw)
    rw [← l1] at hw q3 hz
    exact ⟨"tuple", _, PyProof.Rows.slot_tuple_getitem.lookup, p1.typeIs, HT.getItem_tuple_cut p1 hs pl pu hw q3 hz⟩
theorem call_tupMT : CallR X (.type "tuple") (fun xs H Q => ∃ p ys, xs = [.ref p] ∧ ((SqL X.K H p ys ∧ TQ H ys Q) ∨ (SqT X.K H p ys ∧ Q (.ref p) H))) := by
  intro pins s σ H xs us Q I r h
  obtain ⟨p, ys, rfl, h⟩ := h
  rcases h with ⟨hq, q⟩ | h
  · obtain ⟨u, rfl, rx⟩ := vals1 r
    cases rx
    obtain ⟨i1, r1, p1, hz⟩ := I.list hq
    have l1 := r1.length
    exact call_tuple_list p1.isList (fun h' kp => Inv.madeT (s := { s with heap := h' }) (I.kept (t' := s.toks) kp) hz r1 q) (by simp only [List.size_toArray] <;> omega)
  · exact call_tuple_of pins s σ H _ us Q I r ⟨p, ys, rfl, .inr h⟩
theorem call_divmodMT : CallR X (.builtin "divmod") (fun xs H Q => ∃ i j, xs = [.int i, .int j] ∧ CDiv i j ∧ TQ H [.int (i / j), .int (i % j)] Q) := by
  intro pins s σ H xs us Q I r h
  obtain ⟨i, j, rfl, ⟨c1, c2⟩, q⟩ := h
  obtain ⟨u, w', rfl, ⟨t, rfl⟩, ⟨t', rfl⟩⟩ := vals2 r
  refine divmod_int (by omega) ?_ (.inl (PyProof.noPylong_small (by omega)))
  rw [Int.fdiv_eq_ediv_of_nonneg i (by omega), Int.fmod_eq_emod_of_nonneg i (by omega)]
  exact ⟨.ref s.heap.objs.size, _, I.laid (o := tHO { cls := .type "tuple", data := .seq #[.int (i / j) s.toks, .int (i % j) (s.toks + 1)] } [.int (i / j), .int (i % j)]) (fun b o e => Heap.get?_push_of_some _ e) (Nat.le_refl _)
    (tHO_ok (its := [.int (i / j) s.toks, .int (i % j) (s.toks + 1)]) (n := 0) (by simp only [List.length_cons, List.length_nil]; rw [sizeLine_eq]; decide) (.cons ⟨_, rfl⟩ (.cons ⟨_, rfl⟩ .nil)) (Heap.get?_push_size s.heap rfl) rfl rfl), rfl, q _ _ (I.hok.fresh (Nat.le_refl _)) (tHO_is rfl rfl)⟩
end
end L2

end
section
set_option Elab.async false
set_option linter.all false
set_option maxRecDepth 100000
set_option maxHeartbeats 4000000
set_option autoImplicit false
/-! a generator expression's run, over the hand layer's contexts: the loop, item by item -/
namespace GX
open PySem PySem.Spec PyProof.Rows L2

/-- the context of a generator expression's code; s, H: where it was made; fp: its iterator's objects -/
abbrev gblk (X : Cx) (s : Shared) (H : Hp) (genv : Env) (fp : List Addr) (A : Around) : Cx :=
  { X with s_0 := s, H_0 := H, env := genv, outer := X.stack, stack := genv :: X.stack, A := A, ex := fp, fn := fun _ => false, pn := [], xe := fun _ _ => False }

/-- what the consumer may do while the generator sleeps: to its own objects at cs what it likes, to no other -/
structure Doze (cs : List Addr) (s s' : Shared) : Prop where
  os : s'.os = s.os
  bare : AllBare s'.gens
  keep : ∀ b o, b ∉ cs → s.heap.get? b = some o → s'.heap.get? b = some o
  there : ∀ b ∈ cs, ∃ o, s'.heap.get? b = some o ∧ ∀ v, o.data ≠ .cell v

/-- the consumer's objects -/
def CsOk (Y : Cx) (cs : List Addr) (H : Hp) (s : Shared) : Prop :=
  ∀ c ∈ cs, FpOk Y [] H c ∧ ∃ o, s.heap.get? c = some o ∧ ∀ v, o.data ≠ .cell v

/-- what a generator's run is asked: N items at most; W by the item, what is out, the heap; YO of a value that goes out, RS: the consumer goes on; Fin at the end; Cs: what the consumer's objects hold -/
structure Ask where
  N : Nat
  W : Nat → List V → Hp → Prop
  YO : List V → V → Hp → Prop
  RS : List V → V → Prop
  Fin : List V → Hp → Prop
  cs : List Addr
  Cs : List V → Heap → Prop

def Ask.Stable (q : Ask) : Prop := ∀ ys (h h' : Heap), q.Cs ys h → (∀ c ∈ q.cs, ∀ o, h.get? c = some o → h'.get? c = some o) → q.Cs ys h'

def GYp (q : Ask) (Y : Cx) (fp : List Addr) : Protocol := fun n s₀ v s kap =>
  ∃ ys y σ H, RelV y v ∧ Inv Y [] σ H s ∧ (∀ b ∈ fp, H b = none) ∧ CsOk Y q.cs H s ∧ q.Cs ys s.heap ∧ q.YO ys y H ∧ (∀ c ∈ q.cs, ∀ o, s₀.heap.get? c = some o → s.heap.get? c = some o) ∧
    ∀ s', Doze q.cs s s' → q.RS ys y → q.Cs (ys ++ [y]) s'.heap → kap (.send .none) s'
def GRp (q : Ask) (Y : Cx) (fp : List Addr) : GenEnd := fun n s₀ r s =>
  r = .ok .next ∧ ∃ ys σ H, Inv Y [] σ H s ∧ (∀ b ∈ fp, H b = none) ∧ CsOk Y q.cs H s ∧ q.Cs ys s.heap ∧ q.Fin ys H ∧ (∀ c ∈ q.cs, ∀ o, s₀.heap.get? c = some o → s.heap.get? c = some o)

/-- what is to be shown of a turn -/
def Turns (q : Ask) (J : It) (g : TG) (tt : TT) (te : TE) (σw : L2.St) (vs : List Nat) : Prop :=
  ∀ i ys H, q.W i ys H → (J.stop i H ∧ q.Fin ys H) ∨ (J.go i H ∧ i < q.N ∧ ∀ x H', J.yld i H x H' → g x σw H' fun σ2 H2 => wipe σ2 vs = σw ∧ tt σ2 H2 fun b H3 =>
    if b = true then te σ2 H3 fun y H4 => q.YO ys y H4 ∧ (q.RS ys y → q.W (i + 1) (ys ++ [y]) H4) else q.W (i + 1) ys H3)

/-- behind the consumer's doings -/
theorem dozed {Y : Cx} {cs : List Addr} {σ : L2.St} {H : Hp} {s s' : Shared} (I : Inv Y [] σ H s) (hc : CsOk Y cs H s) (z : Doze cs s s') : Inv Y [] σ H s' ∧ CsOk Y cs H s' := by
  obtain ⟨z1, z2, z3, z4⟩ := z
  have nt : ∀ b u, H b = some u → b ∉ cs := fun b u q hb => by rw [(hc b hb).1.1] at q; cases q
  obtain ⟨hh, g, d, t, o⟩ := s'
  have ho : o = s.os := z1
  subst ho
  have J : Inv Y [] σ H { s with heap := hh, gens := g, drawn := d, toks := t } := by
    refine I.step (g' := g) (t' := t) (d' := d) (ch := cs) (fun b hb => ?_)
      (fun b ob _ _ hc q _ => z3 b ob hc q) (fun b ob _ _ hc q _ => ⟨ob.slots, z3 b ob hc q⟩) (fun _ _ _ _ n => n) (fun b ob hc q => ⟨ob, z3 b ob hc q⟩)
      (fun _ _ q => q) (fun _ _ _ q => q) (fun b ps q => ⟨#[], by rw [q]; simp⟩) (fun m hm => ?_) (fun b u q => ?_) z2
    · obtain ⟨f0, f1, f2, f3, f4, f5⟩ := (hc b hb).1
      exact ⟨f3, f1, f4, f5⟩
    · obtain ⟨ob, es, ep, ho, r⟩ := hm
      exact ⟨ob, es, ep, z3 _ ob (fun hb => (hc _ hb).1.2.1 rfl) ho, r⟩
    · refine (I.hok b u q).stay (fun c v hcc y => z3 c v ?_ y) (fun _ y => y) fun _ _ y => y
      rcases hcc with y | y
      · rw [y]; exact nt b u q
      · exact nt c _ y
  exact ⟨J, fun c hcc => ⟨(hc c hcc).1, z4 c hcc⟩⟩

section
variable {X : Cx} {q : Ask} {J : It} {g : TG} {tt : TT} {te : TE} {σw : L2.St} {vs : List Nat} {elt tg iter : Expr} {ifs : List Expr} {scope : Scope} {pos : Pos} {it : Addr} {fp : List Addr} {tn : Nat → Heap → Prop} {genv : Env} {sb : Shared} {Hb : Hp} {A : Around}


theorem loop_ok (T : Turn X.prog X.w X.K tg J fp it tn) (hcalm : X.calm = true) (hq : q.Stable) (hdis : ∀ c ∈ q.cs, c ∉ fp) (hco : genv.scope.isCoroutine = false)
    (pg : PG (gblk X sb Hb genv fp (A.over (.compLoop (.GeneratorExp elt [⟨tg, iter, ifs, 0⟩] scope pos) 0 (.ref it) .none genv) [])) tg g)
    (pt : PTs (gblk X sb Hb genv fp (A.over (.compLoop (.GeneratorExp elt [⟨tg, iter, ifs, 0⟩] scope pos) 0 (.ref it) .none genv) [])) ifs tt)
    (pe : PE (gblk X sb Hb genv fp (A.over (.compLoop (.GeneratorExp elt [⟨tg, iter, ifs, 0⟩] scope pos) 0 (.ref it) .none genv) [])) elt te)
    (tu : Turns q J g tt te σw vs) :
    ∀ (k i n : Nat) (ys : List V) (s₀ s : Shared) (H : Hp), q.N - i = k → q.N ≤ n + i →
      Inv (gblk X sb Hb genv fp (A.over (.compLoop (.GeneratorExp elt [⟨tg, iter, ifs, 0⟩] scope pos) 0 (.ref it) .none genv) [])) [] σw H s → tn i s.heap → (∀ b ∈ fp, H b = none) →
      CsOk (gblk X sb Hb genv fp (A.over (.compLoop (.GeneratorExp elt [⟨tg, iter, ifs, 0⟩] scope pos) 0 (.ref it) .none genv) [])) q.cs H s → q.Cs ys s.heap → q.W i ys H → (∀ c ∈ q.cs, ∀ o, s₀.heap.get? c = some o → s.heap.get? c = some o) →
      Seg (model X.prog X.w) A (GRp q (gblk X sb Hb genv fp (A.over (.compLoop (.GeneratorExp elt [⟨tg, iter, ifs, 0⟩] scope pos) 0 (.ref it) .none genv) [])) fp)
        (GYp q (gblk X sb Hb genv fp (A.over (.compLoop (.GeneratorExp elt [⟨tg, iter, ifs, 0⟩] scope pos) 0 (.ref it) .none genv) [])) fp) n s₀
        (.compLoop (.GeneratorExp elt [⟨tg, iter, ifs, 0⟩] scope pos) 0 (.ref it) .none genv)
        ((model X.prog X.w).den (.compLoop (.GeneratorExp elt [⟨tg, iter, ifs, 0⟩] scope pos) 0 (.ref it) .none genv)) [] s := by
  generalize hY : gblk X sb Hb genv fp (A.over (.compLoop (.GeneratorExp elt [⟨tg, iter, ifs, 0⟩] scope pos) 0 (.ref it) .none genv) []) = Y at *
  have yA : A.over (.compLoop (.GeneratorExp elt [⟨tg, iter, ifs, 0⟩] scope pos) 0 (.ref it) .none genv) [] = Y.A := by rw [← hY]
  have yE : Y.env = genv := by rw [← hY]
  have yP : Y.prog = X.prog := by rw [← hY]
  have yw : Y.w = X.w := by rw [← hY]
  have yK : Y.K = X.K := by rw [← hY]
  have yc : Y.calm = true := by rw [← hY]; exact hcalm
  have yx : Y.xe = fun _ _ => False := by rw [← hY]
  have yex : Y.ex = fp := by rw [← hY]
  have ypn : Y.pn = [] := by rw [← hY]
  have stat : ∀ {pins : List (Addr × Obj)} {σ' : L2.St} {H' : Hp} {s' : Shared}, Inv Y pins σ' H' s' → (∀ b ∈ fp, H' b = none) → (∀ p ∈ pins, p.1 ∈ q.cs) → ∀ b ∈ fp, FpOk Y pins H' b := fun {pins σ' H' s'} I' hn hp b hb => by
    have hb' : b ∈ Y.ex := by rw [yex]; exact hb
    refine ⟨hn b hb, (I'.ok.exf b hb').1, I'.ok.exfs b hb', .inl hb', fun x c e => (I'.ok.exf b hb').2 x c e, fun p hpp z => ?_⟩
    rw [ypn] at hpp
    exact hdis p.1 (hp p hpp) (z ▸ hb)
  have stopc : ∀ (i n : Nat) (ys : List V) (s₀ s : Shared) (H : Hp), Inv Y [] σw H s → tn i s.heap → (∀ b ∈ fp, H b = none) → CsOk Y q.cs H s → q.Cs ys s.heap → J.stop i H → q.Fin ys H → (∀ c ∈ q.cs, ∀ o, s₀.heap.get? c = some o → s.heap.get? c = some o) →
      Seg (model X.prog X.w) A (GRp q Y fp) (GYp q Y fp) n s₀ (.compLoop (.GeneratorExp elt [⟨tg, iter, ifs, 0⟩] scope pos) 0 (.ref it) .none genv)
        ((model X.prog X.w).den (.compLoop (.GeneratorExp elt [⟨tg, iter, ifs, 0⟩] scope pos) 0 (.ref it) .none genv)) [] s := by
    intro i n ys s₀ s H I st hf hc hCs stop fin hs0
    show Seg _ A _ _ _ s₀ _ ((compTurn (.GeneratorExp elt [⟨tg, iter, ifs, 0⟩] scope pos) 0 (.ref it) .none genv).onRaise (leaving genv)) [] s
    rw [compTurn_gen, Sem.onRaise_eq_wrap]
    refine seg_bind_wrap (wpAny_standAt ?_)
    have Ip := I.pinned (fun c hcc => (hc c hcc).1) (fun c hcc => (hc c hcc).2)
    have pc : ∀ p ∈ ([] : List (Addr × Obj)) ++ pinsAt q.cs s.heap, p.1 ∈ q.cs := fun p hp => (of_pinsAt (by simpa using hp)).1
    have td := T.done Y yP yw yK yc i _ s σw H (fun _ _ => False) Ip (stat Ip hf pc) st stop
    rw [← yA] at td
    refine seg_bind_wrap (thnF td fun r s1 ⟨hr, I1⟩ => ?_)
    subst hr
    have pinC : ∀ c ∈ q.cs, ∀ o, s.heap.get? c = some o → s1.heap.get? c = some o ∧ H c = none := fun c hcc o e =>
      let z := I1.pin (c, o) (List.mem_append_right _ (List.mem_append_right _ (mem_pinsAt hcc e)))
      ⟨z.1, z.2.1⟩
    refine seg_end (.ok .next) ⟨rfl, ys, σw, H, I1.pins_of fun p hp => absurd hp (by simp), hf, fun c hcc => ⟨(hc c hcc).1, ?_⟩, hq ys _ _ hCs fun c hcc o e => (pinC c hcc o e).1, fin, fun c hcc o e => (pinC c hcc o (hs0 c hcc o e)).1⟩
    obtain ⟨o, e, nd⟩ := (hc c hcc).2
    exact ⟨o, (pinC c hcc o e).1, nd⟩
  intro k
  induction k with
  | zero =>
    intro i n ys s₀ s H hk hn I st hf hc hCs w hs0
    rcases tu i ys H w with ⟨stop, fin⟩ | ⟨_, hlt, _⟩
    · exact stopc i n ys s₀ s H I st hf hc hCs stop fin hs0
    · omega
  | succ k ih =>
    intro i n ys s₀ s H hk hn I st hf hc hCs w hs0
    rcases tu i ys H w with ⟨stop, fin⟩ | ⟨go, hlt, step⟩
    · exact stopc i n ys s₀ s H I st hf hc hCs stop fin hs0
    show Seg _ A _ _ _ s₀ _ ((compTurn (.GeneratorExp elt [⟨tg, iter, ifs, 0⟩] scope pos) 0 (.ref it) .none genv).onRaise (leaving genv)) [] s
    rw [compTurn_gen, Sem.onRaise_eq_wrap]
    refine seg_bind_wrap (wpAny_standAt ?_)
    have Ip := I.pinned (fun c hcc => (hc c hcc).1) (fun c hcc => (hc c hcc).2)
    have pc : ∀ p ∈ ([] : List (Addr × Obj)) ++ pinsAt q.cs s.heap, p.1 ∈ q.cs := fun p hp => (of_pinsAt (by simpa using hp)).1
    have ti := T.item Y yP yw yK yc i _ s σw H (fun _ _ => False) Ip (stat Ip hf pc) st go
    rw [← yA] at ti
    refine seg_bind_wrap (thnF ti fun r s1 ⟨u, hr, h1⟩ => ?_)
    subst hr
    refine seg_bind_wrap (thnF h1 fun _ s2 ⟨x, H2, I2, r2, y2, st2, n2⟩ => ?_)
    have I2' := I2.pinned (stat I2 n2 pc) (T.obj _ _ st2)
    have pg' := pg.run _ s2 _ H2 x u _ I2' r2 (step x H2 y2)
    rw [yx, yP, yw, yE, ← yA] at pg'
    refine seg_bind_wrap (thnF pg' fun _ s3 ⟨σ3, H3, I3, hw3, q3⟩ => ?_)
    have pt' := pt.run _ s3 σ3 H3 _ I3 q3
    rw [yx, yP, yw, yE, ← yA] at pt'
    refine seg_bind_wrap (thnF pt' fun b s4 ⟨H4, I4, q4⟩ => ?_)
    -- what the pins keep
    have pinF : ∀ {s' : Shared} {H' : Hp}, Inv Y (([] ++ pinsAt q.cs s.heap) ++ pinsAt fp s2.heap) σ3 H' s' → ∀ b ∈ fp, ∀ o, s2.heap.get? b = some o → s'.heap.get? b = some o ∧ H' b = none := fun {s' H'} I' b hb o e =>
      let z := I'.pin (b, o) (List.mem_append_right _ (List.mem_append_right _ (mem_pinsAt hb e)))
      ⟨z.1, z.2.1⟩
    have pinC : ∀ {s' : Shared} {H' : Hp}, Inv Y (([] ++ pinsAt q.cs s.heap) ++ pinsAt fp s2.heap) σ3 H' s' → ∀ c ∈ q.cs, ∀ o, s.heap.get? c = some o → s'.heap.get? c = some o ∧ H' c = none := fun {s' H'} I' c hcc o e =>
      let z := I'.pin (c, o) (List.mem_append_right _ (List.mem_append_left _ (List.mem_append_right _ (mem_pinsAt hcc e))))
      ⟨z.1, z.2.1⟩
    have back : ∀ {s' : Shared} {H' : Hp}, Inv Y (([] ++ pinsAt q.cs s.heap) ++ pinsAt fp s2.heap) σ3 H' s' → Inv Y [] σw H' s' ∧ tn (i + 1) s'.heap ∧ (∀ b ∈ fp, H' b = none) ∧ CsOk Y q.cs H' s' ∧ q.Cs ys s'.heap := fun {s' H'} I' => by
      have hl : σw.length = σ3.length := by rw [← hw3, wipe_length]
      refine ⟨(I'.pins_of (pins' := []) fun p hp => absurd hp (by simp)).weak hl (fun j v e => ?_), T.keep _ _ _ st2 fun b hb o e => (pinF I' b hb o e).1, fun b hb => ?_, fun c hcc => ?_, hq ys _ _ hCs fun c hcc o e => (pinC I' c hcc o e).1⟩
      · rw [← hw3] at e
        exact (wipe_some e).1
      · obtain ⟨o, e, _⟩ := T.obj _ _ st2 b hb
        exact (pinF I' b hb o e).2
      · obtain ⟨o, e, nd⟩ := (hc c hcc).2
        obtain ⟨z1, z2⟩ := pinC I' c hcc o e
        exact ⟨⟨z2, (hc c hcc).1.2⟩, o, z1, nd⟩
    cases b with
    | false =>
      simp only [Bool.false_eq_true, if_false] at q4 ⊢
      obtain ⟨J1, J2, J3, J4, J5⟩ := back I4
      exact seg_again rfl (ih (i + 1) n ys s₀ s4 H4 (by omega) (by omega) J1 J2 J3 J4 J5 q4 fun c hcc o e => (pinC I4 c hcc o (hs0 c hcc o e)).1)
    | true =>
      simp only [if_true] at q4 ⊢
      obtain ⟨m, rfl⟩ : ∃ m, n = m + 1 := ⟨n - 1, by omega⟩
      have hy : ∀ v, yieldOut genv v = yieldValue v := fun v => by simp only [yieldOut, hco, Bool.false_eq_true, if_false]
      simp only [hy]
      rw [Sem.bind_eq_wrap', Sem.bind_eq_wrap', Sem.wrap_wrap, Sem.wrap_wrap]
      have pe' := pe.run _ s4 σ3 H4 _ I4 q4
      rw [yx, yP, yw, yE, ← yA] at pe'
      refine seg_wrap (thnF pe' fun z s5 ⟨y, H5, I5, r5, yo, nx⟩ => ?_)
      obtain ⟨J1, J2, J3, J4, J5⟩ := back I5
      refine seg_at (seg_yield rfl rfl rfl ⟨ys, y, σw, H5, r5, J1, J3, J4, J5, yo, fun c hcc o e => (pinC I5 c hcc o (hs0 c hcc o e)).1, fun s6 dz rs cs6 => ?_⟩)
      obtain ⟨K1, K4⟩ := dozed J1 J4 dz
      refine seg_again rfl (ih (i + 1) m (ys ++ [y]) s6 s6 H5 (by omega) (by omega) K1 (T.keep _ _ _ J2 fun b hb o e => dz.keep b o (fun hbc => hdis b hbc hb) e) J3 K4 cs6 (nx rs) fun _ _ _ e => e)

/-- from its start -/
theorem start_ok (T : Turn X.prog X.w X.K tg J fp it tn) (hcalm : X.calm = true) (hq : q.Stable) (hdis : ∀ c ∈ q.cs, c ∉ fp) (hco : genv.scope.isCoroutine = false)
    (pg : PG (gblk X sb Hb genv fp (A.over (.compLoop (.GeneratorExp elt [⟨tg, iter, ifs, 0⟩] scope pos) 0 (.ref it) .none genv) [])) tg g)
    (pt : PTs (gblk X sb Hb genv fp (A.over (.compLoop (.GeneratorExp elt [⟨tg, iter, ifs, 0⟩] scope pos) 0 (.ref it) .none genv) [])) ifs tt)
    (pe : PE (gblk X sb Hb genv fp (A.over (.compLoop (.GeneratorExp elt [⟨tg, iter, ifs, 0⟩] scope pos) 0 (.ref it) .none genv) [])) elt te)
    (tu : Turns q J g tt te σw vs) (s₀ s : Shared) (H : Hp)
    (I : Inv (gblk X sb Hb genv fp (A.over (.compLoop (.GeneratorExp elt [⟨tg, iter, ifs, 0⟩] scope pos) 0 (.ref it) .none genv) [])) [] σw H s) (st : tn 0 s.heap) (hf : ∀ b ∈ fp, H b = none)
    (hc : CsOk (gblk X sb Hb genv fp (A.over (.compLoop (.GeneratorExp elt [⟨tg, iter, ifs, 0⟩] scope pos) 0 (.ref it) .none genv) [])) q.cs H s) (hCs : q.Cs [] s.heap) (w : q.W 0 [] H) (hs0 : ∀ c ∈ q.cs, ∀ o, s₀.heap.get? c = some o → s.heap.get? c = some o) :
    Seg (model X.prog X.w) A (GRp q (gblk X sb Hb genv fp (A.over (.compLoop (.GeneratorExp elt [⟨tg, iter, ifs, 0⟩] scope pos) 0 (.ref it) .none genv) [])) fp)
        (GYp q (gblk X sb Hb genv fp (A.over (.compLoop (.GeneratorExp elt [⟨tg, iter, ifs, 0⟩] scope pos) 0 (.ref it) .none genv) [])) fp) q.N s₀
        (.compStart (.GeneratorExp elt [⟨tg, iter, ifs, 0⟩] scope pos) 0 (.ref it) .none genv)
        ((model X.prog X.w).den (.compStart (.GeneratorExp elt [⟨tg, iter, ifs, 0⟩] scope pos) 0 (.ref it) .none genv)) [] s := by
  have loop := loop_ok T hcalm hq hdis hco pg pt pe tu q.N 0 q.N [] s₀ s H (Nat.sub_zero _) (Nat.le_refl _) I st hf hc hCs w hs0
  show Seg _ A _ _ _ s₀ _ ((compStart (.GeneratorExp elt [⟨tg, iter, ifs, 0⟩] scope pos) 0 (.ref it) .none genv).onRaise (leaving genv)) [] s
  unfold compStart
  rw [Sem.onRaise_eq_wrap]
  show Seg _ A _ _ _ s₀ _ ((ask >>= _).wrap _ _ _ _) [] s
  refine seg_bind_wrap (wpAny_askSetting ?_)
  split
  · exact seg_again rfl loop
  · first
      | exact seg_bind_wrap (wpAny_rule (seg_bind_wrap (wpAny_standAt (seg_bind_wrap (T.self _ 0 s _ _ st (seg_again rfl loop))))))
      | (refine seg_bind_wrap (wpAny_rule ?_); show Seg _ A _ _ _ s₀ _ ((standAt iter.pos >>= _).wrap _ _ _ _) [] s; exact seg_bind_wrap (wpAny_standAt (seg_bind_wrap (T.self _ 0 s _ _ st (seg_again rfl loop)))))
end
end GX

end
section
set_option Elab.async false
set_option linter.all false
set_option maxRecDepth 100000
set_option maxHeartbeats 4000000
set_option autoImplicit false
/-! a generator expression is made -/
namespace GX
open PySem PySem.Spec PyProof.Rows L2 GxR

/-- the scope of a generator expression: no cells of its own -/
structure GSc (N : List Str) (sc scope : Scope) (own : List (Str × Nat)) : Prop where
  blk : BlkOk N sc scope own
  co : scope.isCoroutine = false
  cell : ∀ y ∈ scope.names, y.2 ≠ .cell
  dot : scope.names.lookup (".0" : Str) = some NameKind.local

section
variable {X : Cx} {pins : List (Addr × Obj)} {σ : L2.St} {H : Hp} {s : Shared}
/-- the frame of the generator's code is made -/
theorem gstart {scope : Scope} {own : List (Str × Nat)} {fp : List Addr} {code : Value} {itv : Value} {h' : Heap} {go : Obj} {gs : GenState} {tk : Nat} {A : Around} (I : Inv X pins σ H s) (ok : GSc X.N X.env.scope scope own) (hN : X.N.Nodup)
    (hfp : ∀ b ∈ fp, FpOk X pins H b ∧ b < s.heap.objs.size) (hn : h'.Ns s.heap.objs.size (fun y => if y = ".0" then some itv else none)) (sb : Heap.SameBut s.heap.objs.size (s.heap.push { cls := .type "frame", data := .dict #[] }) h')
    (hgs : gs.bare = true) (hh : A.handled = none) (hfr : A.frames = some (genEnv scope (cloFrom X.env.cells scope.names []) s.heap.objs.size code builtinsNs X.env :: X.stack)) :
    Inv (gblk X s H (genEnv scope (cloFrom X.env.cells scope.names []) s.heap.objs.size code builtinsNs X.env) fp A) [] (wipe σ (own.map (·.2))) H { s with gens := s.gens.push gs, toks := tk, heap := h'.push go } := by
  have hfree : ∀ y ∈ scope.names, y.2 = .free → ∃ c, X.env.cells.lookup y.1 = some c := fun y hy e => by
    rcases ok.blk.free y hy e with k | k
    · exact I.ok.has _ (.inl k)
    · exact I.ok.has _ (.inr k)
  have kp : ∀ b o, s.heap.get? b = some o → (h'.push go).get? b = some o := fun b o e => Heap.get?_push_of_some _ (sb.extBut b o (Nat.ne_of_lt (Heap.lt_size e)) (Heap.get?_push_of_some _ e))
  have cm : ∀ {y c}, (y, c) ∈ cloFrom X.env.cells scope.names [] → X.env.cells.lookup y = some c ∧ c < s.heap.objs.size ∧ (y, NameKind.free) ∈ scope.names := fun {y c} hm => by
    rcases cloFrom_mem hm with hm | ⟨h1, rfl⟩
    · cases hm
    · obtain ⟨c, hc⟩ := hfree _ h1 rfl
      rw [hc]
      obtain ⟨w, z⟩ := I.cell _ _ hc
      exact ⟨rfl, z.lt, h1⟩
  have look : ∀ {y}, scope.names.lookup y = some .free → ∃ c, (cloFrom X.env.cells scope.names []).lookup y = some c ∧ X.env.cells.lookup y = some c := fun {y} hl => by
    have hy : (y, NameKind.free) ∈ scope.names := PySem.mem_of_lookup hl
    obtain ⟨c', e'⟩ := mem_lookup (cloFrom_has (cells := X.env.cells) (acc := []) hy)
    exact ⟨c', e', (cm (PySem.mem_of_lookup e')).1⟩
  have okB : (gblk X s H (genEnv scope (cloFrom X.env.cells scope.names []) s.heap.objs.size code builtinsNs X.env) fp A).Ok := by
    refine ⟨I.ok.mod, ok.blk.kind, I.ok.glob, rfl, Nat.le_refl _, fun y z c e1 e2 => ?_, fun y hy => ?_, fun y c z e => (by cases z), fun _ => hh, hfr, .inr ⟨rfl, rfl⟩, fun b hb => ⟨Nat.ne_of_lt (hfp b hb).2, fun y c e z => ?_⟩, I.bs, Nat.le_trans I.ok.bsz I.sz, fun b o e hb => ?_, fun b hb z => ?_, I.stack, I.stkFree⟩
    · exact I.ok.inj y z c (cm (PySem.mem_of_lookup e1)).1 (cm (PySem.mem_of_lookup e2)).1
    · have hy : scope.names.lookup y = some .cell ∨ scope.names.lookup y = some .free := hy
      rcases hy with hy | hy
      · exact absurd rfl (ok.cell _ (PySem.mem_of_lookup hy))
      · obtain ⟨c, h1, _⟩ := look hy
        exact ⟨c, h1⟩
    · exact (hfp b hb).1.2.2.2.2.1 y c (cm (PySem.mem_of_lookup e)).1 z
    · rcases (hfp b hb).1.2.2.2.1 with z | z
      · exact I.ok.noex b o e z
      · exact absurd (Nat.lt_of_lt_of_le (Heap.lt_size e) (Nat.le_trans I.ok.bsz z)) (Nat.lt_irrefl _)
    · rcases List.mem_cons.mp (I.stkSub b z) with z | z
      · exact (hfp b hb).1.2.1 z
      · exact (hfp b hb).1.2.2.1 z
  refine ⟨okB, rfl, I.bare.push hgs, Un.kept kp, ⟨_, hn.push _, fun i y av e1 e2 e3 => ?_⟩, fun y c e => ?_, I.hok.fresh (Nat.le_refl _), fun y c e => I.freeC y c (cm (PySem.mem_of_lookup e)).1, fun p hp => absurd (show p ∈ ([] : List (Addr × Obj)) ++ [] from hp) (by simp), I.hok.kept kp, by rw [wipe_length]; exact I.len⟩
  · obtain ⟨e2, hne⟩ := wipe_some e2
    have hfr : scope.names.lookup y = some .free := by
      have e3 : Vis scope y := e3
      have no : ¬ (scope.names.lookup y = some .local ∨ scope.names.lookup y = some .cell) := fun hh => by
        have key : ∀ kk, scope.names.lookup y = some kk → kk = .local ∨ kk = .cell → False := fun kk hk hk' => by
          rcases ok.blk.own _ (PySem.mem_of_lookup hk) hk' with e' | e'
          · obtain ⟨p, hp, hpy⟩ := List.mem_map.mp e'
            have e3 := ok.blk.ix p hp
            have : p.1 = y := hpy
            rw [this] at e3
            exact hne (List.mem_map.mpr ⟨p, hp, nodup_ix hN e3 e1⟩)
          · exact e' (List.mem_of_getElem? e1)
        rcases hh with h | h
        · exact key _ h (.inl rfl)
        · exact key _ h (.inr rfl)
      rcases e3 with e3 | e3 | e3
      · exact absurd (.inl e3) no
      · exact absurd (.inr e3) no
      · exact e3
    obtain ⟨m, hnm, hl⟩ := I.loc
    have hvis : Vis X.env.scope y := (ok.blk.free _ (PySem.mem_of_lookup hfr) rfl).elim (fun k => .inr (.inl k)) (fun k => .inr (.inr k))
    obtain ⟨w, r, q⟩ := hl i y av e1 e2 hvis
    refine ⟨w, r, .inr ⟨.inr hfr, ?_⟩⟩
    obtain ⟨c, h1, h2⟩ := look hfr
    rcases q with ⟨k, _⟩ | ⟨_, c', e', z⟩
    · have k : X.env.scope.names.lookup y = some .local := k
      rcases ok.blk.free _ (PySem.mem_of_lookup hfr) rfl with k' | k' <;> rw [show X.env.scope.names.lookup y = _ from k'] at k <;> cases k
    · rw [h2] at e'; cases e'
      exact ⟨c, h1, z.keeps kp⟩
  · obtain ⟨w, z⟩ := I.cell y c (cm (PySem.mem_of_lookup e)).1
    exact ⟨w, z.keeps kp⟩

end
/-- a generator stands made at s5: its object a, its number g -/
structure Made (X : Cx) (pins : List (Addr × Obj)) (σ : L2.St) (H1 : Hp) (P : Addr) (tg elt iter : Expr) (ifs : List Expr) (scope : Scope) (gpos : Pos) (own : List (Str × Nat)) (J : It) (a : Addr) (g : Nat) (genv : Env) (sb s5 : Shared) (H2 : Hp) (it : Addr) (fp : List Addr) (tn : Nat → Heap → Prop) : Prop where
  tab : Tabbed P H1 H2
  turn : Turn X.prog X.w X.K tg J fp it tn
  gen : s5.heap.IsGen a g
  fresh : s5.gens[g]? = some (.fresh (.compStart (.GeneratorExp elt [⟨tg, iter, ifs, 0⟩] scope gpos) 0 (.ref it) .none genv))
  bare : AllBare s5.gens
  st : tn 0 s5.heap
  fpn : ∀ b ∈ fp, H2 b = none
  lim : s5.heap.NoLimit
  os : s5.os = sb.os
  env : genv = genEnv scope (cloFrom X.env.cells scope.names []) sb.heap.objs.size genv.code builtinsNs X.env
  base : Inv X pins σ H2 sb
  old : ∀ b o, sb.heap.get? b = some o → s5.heap.get? b = some o
  inv : ∀ A' : Around, A'.handled = none → A'.frames = some (genv :: X.stack) → Inv (gblk X sb H2 genv fp A') [] (wipe σ (own.map (·.2))) H2 s5
  fpo : ∀ b ∈ fp, (b ∈ X.ex ∨ X.s_0.heap.objs.size ≤ b) ∧ b ≠ X.env.locals ∧ (∀ x c, X.env.cells.lookup x = some c → c ≠ b) ∧ ∀ p ∈ X.pn ++ pins, p.1 ≠ b
  alt : a < s5.heap.objs.size
  fpl : ∀ b ∈ fp, b < s5.heap.objs.size
  nofp : a ∉ fp
  notr : H2 a = none
  loc : genv.locals ≠ a
  age : sb.heap.objs.size ≤ a
  lcl : genv.locals < s5.heap.objs.size

/-- back in the def's context -/
theorem Made.back {X : Cx} {pins : List (Addr × Obj)} {σ : L2.St} {H1 : Hp} {P : Addr} {tg elt iter : Expr} {ifs : List Expr} {scope : Scope} {gpos : Pos} {own : List (Str × Nat)} {J : It} {a : Addr} {g : Nat} {genv : Env} {sb s5 : Shared} {H2 : Hp} {it : Addr} {fp : List Addr} {tn : Nat → Heap → Prop}
    (M : Made X pins σ H1 P tg elt iter ifs scope gpos own J a g genv sb s5 H2 it fp tn) {A' : Around} {σ' : L2.St} {H' : Hp} {s' : Shared} {pl : List (Addr × Obj)} (I : Inv (gblk X sb H2 genv fp A') pl σ' H' s') : Inv X pins σ H' s' :=
  M.base.call' (ch := fp) I.os I.base I.hok I.bare M.fpo

section
variable {X : Cx} {pins : List (Addr × Obj)} {σ : L2.St} {H : Hp} {s : Shared}
theorem gen_made {c P : Addr} {tg elt iter : Expr} {ifs : List Expr} {gpos : Pos} {scope : Scope} {own : List (Str × Nat)} {wi : TI} {k : Nat} {Q' : Value → Shared → Prop} {R : It → Hp → Prop}
    (hr : Room k X.A) (hN : X.N.Nodup) (TB : TabB X.base X.mg c P) (hcode : X.env.code = .ref c) (S : GSc X.N X.env.scope scope own) (hi : PI X tg iter wi)
    (hs : ∀ v, genFold iter X.env v = pure v) (I : Inv X pins σ H s) (h : wi σ H fun J H1 => TabG H1 P ∧ R J H1)
    (hQ : ∀ J H1 a g genv sb s5 H2 it fp tn, R J H1 → Made X pins σ H1 P tg elt iter ifs scope gpos own J a g genv sb s5 H2 it fp tn → Q' (.ref a) s5) :
    wpAny (model X.prog X.w) X.A (eval (.GeneratorExp elt [⟨tg, iter, ifs, 0⟩] scope gpos) X.env) Q' X.xe s := by
  have hfree : ∀ y ∈ scope.names, y.2 = .free → ∃ c, X.env.cells.lookup y.1 = some c := fun y hy e => by
    rcases S.blk.free y hy e with k | k
    · exact I.ok.has _ (.inl k)
    · exact I.ok.has _ (.inr k)
  refine wpAny_GeneratorExp_make S.co (closure_ok hfree) S.cell S.dot S.blk.kind (by have := hr.dp; omega) (thn (hi.run pins s σ H _ I h) fun xv s1 hx => thn hx fun itv s2 h2 => ?_) hs
  obtain ⟨it, fp, tn, J, H1, rfl, I2, T, st2, f2, ⟨ps, hP, ht⟩, hR⟩ := h2
  have hPs : s2.heap.get? P = some { cls := .none, data := .fields ps } := I2.hok P _ hP
  have cd : PySem.W.CodeHd s2.heap c P := TB.code.keeps I2.bk
  refine ⟨I2.nolimit, ?_⟩
  have cont : ∀ (code : Value) (h3 : Heap) (tk : Nat) (ps' : Array Value), Heap.ExtBut P s2.heap h3 → s2.heap.objs.size ≤ h3.objs.size → h3.get? P = some { cls := .none, data := .fields ps' } → (∃ more, ps' = ps ++ more) → TriplesOk ps'.toList →
      wpAny (model X.prog X.w) X.A (builtinsFor X.env.globals X.env.builtins) (fun bi s₄ =>
        ∀ h', h'.Ns s₄.heap.objs.size (fun y => if y = ".0" then some (.ref it) else none) → Heap.SameBut s₄.heap.objs.size (s₄.heap.push { cls := .type "frame", data := .dict #[] }) h' →
          Q' (.ref h'.objs.size) { s₄ with
            gens := s₄.gens.push (.fresh (.compStart (.GeneratorExp elt [⟨tg, iter, ifs, 0⟩] scope gpos) 0 (.ref it) .none (genEnv scope (cloFrom X.env.cells scope.names []) s₄.heap.objs.size code bi X.env))),
            toks := s₄.toks + 1 + 1 + 1,
            heap := h'.push { cls := .type "generator", data := .fields #[.int s₄.gens.size 0, .str "<genexpr>" (s₄.toks + 1), .str (X.env.qual ++ "<genexpr>") (s₄.toks + 1 + 1)] } }) X.xe { s2 with heap := h3, toks := tk } := by
    intro code h3 tk ps' hx hsz hP3 hmore ht3
    obtain ⟨more, rfl⟩ := hmore
    obtain ⟨bm, ob, e1, e2, e3, e4, e5, e6, e7, e8⟩ := TB.bm
    have keep3 : ∀ b u, b ≠ P → s2.heap.get? b = some u → h3.get? b = some u := fun b u hb e => hx b u hb e
    refine wpAny_builtinsFor (m := X.mg) (by rw [I2.ok.glob]; exact (I2.mod.glob.keeps I2.bk).extBut hx TB.gP) e1 e2 (keep3 _ _ e4 (I2.bk _ _ e5)) e6 e7 e8 ?_
    intro h' hn' hs'
    have I3 : Inv X pins σ (upd H1 P (.tbl (ps ++ more))) { s2 with heap := h3, toks := tk } := inv_tab (g' := s2.gens) (d' := s2.drawn) (t' := tk) I2 hP keep3 hP3 I2.bare
    have noP : ∀ b ∈ fp, b ≠ P := fun b hb z => by
      have := (f2 b hb).1
      rw [z, hP] at this
      cases this
    have fpn3 : ∀ b ∈ fp, upd H1 P (.tbl (ps ++ more)) b = none := fun b hb => by rw [upd_ne (noP b hb)]; exact (f2 b hb).1
    have st3 : tn 0 h3 := T.keep _ _ _ st2 fun b hb o e => keep3 b o (noP b hb) e
    have fpl3 : ∀ b ∈ fp, b < h3.objs.size := fun b hb => by
      obtain ⟨o, e, _⟩ := T.obj _ _ st3 b hb
      exact Heap.lt_size e
    have hsz' : h'.objs.size = h3.objs.size + 1 := by rw [hs'.1, Heap.size_push]
    have keep' : ∀ b o, h3.get? b = some o → (h'.push { cls := .type "generator", data := .fields #[.int s2.gens.size 0, .str "<genexpr>" (tk + 1), .str (X.env.qual ++ "<genexpr>") (tk + 1 + 1)] }).get? b = some o :=
      fun b o e => Heap.get?_push_of_some _ (hs'.extBut b o (Nat.ne_of_lt (Heap.lt_size e)) (Heap.get?_push_of_some _ e))
    refine hQ J H1 h'.objs.size s2.gens.size (genEnv scope (cloFrom X.env.cells scope.names []) h3.objs.size code builtinsNs X.env) { s2 with heap := h3, toks := tk } _ (upd H1 P (.tbl (ps ++ more))) it fp tn hR
      { tab := ⟨⟨_, upd_same, ht3⟩, fun b hb => upd_ne hb⟩
        turn := T
        gen := ⟨_, _, _, Heap.get?_push_size _ rfl, rfl, rfl, rfl⟩
        fresh := Array.getElem?_push_size ..
        bare := I2.bare.push rfl
        st := T.keep _ _ _ st3 fun b _ o e => keep' b o e
        fpn := fpn3
        lim := I3.nolimit.keeps keep'
        os := rfl
        env := rfl
        base := I3
        old := keep'
        inv := fun A' hA hf => gstart (s := { s2 with heap := h3, toks := tk }) (itv := .ref it) I3 S hN (fun b hb => ⟨⟨fpn3 b hb, (f2 b hb).2⟩, fpl3 b hb⟩) hn' hs' rfl hA hf
        fpo := fun b hb => ⟨(f2 b hb).2.2.2.1, (f2 b hb).2.1, (f2 b hb).2.2.2.2.1, (f2 b hb).2.2.2.2.2⟩
        alt := by rw [Heap.size_push]; exact Nat.lt_succ_self _
        fpl := fun b hb => Nat.lt_of_lt_of_le (fpl3 b hb) (by rw [Heap.size_push, hsz']; exact Nat.le_add_right _ 2)
        nofp := fun hb => absurd (fpl3 _ hb) (by rw [hsz']; exact Nat.not_lt.mpr (Nat.le_succ _))
        notr := I3.hok.fresh (by show h3.objs.size ≤ h'.objs.size; rw [hsz']; exact Nat.le_succ _)
        loc := by show h3.objs.size ≠ h'.objs.size; rw [hsz']; exact Nat.ne_of_lt (Nat.lt_succ_self _)
        age := by show h3.objs.size ≤ h'.objs.size; rw [hsz']; exact Nat.le_succ _
        lcl := by show h3.objs.size < _; rw [Heap.size_push, hsz']; exact Nat.lt_of_lt_of_le (Nat.lt_succ_self _) (Nat.le_succ _) }
  cases hf : codeAmong gpos ps.toList with
  | none =>
    refine wpAny_genexprCodeX hcode (cd.code hPs ht) (cd.tab hPs) hf fun c' h' tk hx hge hlt hco' _ htab' _ => ?_
    obtain ⟨o1, vs, f1, tf, fl, tg, inF, tx, tt, op, _, _, _, _, _, _, _, _, _, htr, _⟩ := hco'
    exact cont _ h' tk _ hx (Nat.le_trans hge (Nat.le_of_lt hlt)) htab'.2 ⟨_, rfl⟩ htr
  | some cv =>
    refine wpAny_genexprCode_hit hcode (cd.code hPs ht) hf ?_
    exact cont cv s2.heap s2.toks ps (Heap.ExtBut.refl _ _) (Nat.le_refl _) hPs ⟨#[], by simp⟩ ht
end
end GX

end
section
set_option Elab.async false
set_option linter.all false
set_option maxRecDepth 100000
set_option maxHeartbeats 4000000
set_option autoImplicit false
/-! a made generator is asked: next, all, any -/
namespace GX
open PySem PySem.Spec PyProof.Rows L2 GxR GenW

/-- it may be asked again; n: how many values may come yet -/
def Asleep (M : Model) (A : Around) (q : Ask) (Y : Cx) (fp : List Addr) (g : Nat) (n : Nat) (s : Shared) : Prop :=
  ∃ gs, s.gens[g]? = some gs ∧ gs.Goes M A (GRp q Y fp) (GYp q Y fp) n (.send .none) (s.setGen g .running)

theorem bare_set {s : Shared} {g : Nat} {x : GenState} (h : AllBare s.gens) (hx : x.bare = true) : AllBare (s.setGen g x).gens := allBare_setGen h hx
theorem inv_gens {Y : Cx} {pins : List (Addr × Obj)} {σ : L2.St} {H : Hp} {s : Shared} (I : Inv Y pins σ H s) {G : Array GenState} (hG : AllBare G) : Inv Y pins σ H { s with gens := G } :=
  ⟨I.ok, I.os, hG, I.base, I.loc, I.cell, I.free, I.freeC, I.pin, I.hok, I.len⟩

section
variable {P : Program} {w : World} {A : Around} {q : Ask} {Y : Cx} {fp : List Addr} {g : Nat} {a : Addr} {E : Value → Shared → Prop} {Q : Option Value → Shared → Prop}
theorem next_ok (hY : Y.prog = P) (hw : Y.w = w) (hh : A.handled = none) (hroom : A.depth < recursionLimit) {n : Nat} {s : Shared} (hl : s.heap.NoLimit) (hg : s.heap.IsGen a g) (z : Asleep (model P w) A.in1 q Y fp g n s)
    (hv : ∀ v s₁ ys y σ H, RelV y v → Inv Y [] σ H s₁ → (∀ b ∈ fp, H b = none) → CsOk Y q.cs H s₁ → q.Cs ys s₁.heap → q.YO ys y H → (∀ c ∈ q.cs, ∀ o, s.heap.get? c = some o → s₁.heap.get? c = some o) →
      (∀ s₂, Doze q.cs s₁ s₂ → s₂.gens = s₁.gens → q.RS ys y → q.Cs (ys ++ [y]) s₂.heap → ∃ m, n = m + 1 ∧ Asleep (model P w) A.in1 q Y fp g m s₂) → Q (some v) s₁)
    (he : ∀ s₁ ys σ H, Inv Y [] σ H s₁ → (∀ b ∈ fp, H b = none) → CsOk Y q.cs H s₁ → q.Cs ys s₁.heap → q.Fin ys H → (∀ c ∈ q.cs, ∀ o, s.heap.get? c = some o → s₁.heap.get? c = some o) → ∀ h', (∀ b o, s₁.heap.get? b = some o → h'.get? b = some o) → Q none { s₁ with heap := h' }) :
    wpAny (model P w) A (pyNext (.ref a)) Q E s := by
  obtain ⟨gs, hgs, hgo⟩ := z
  have hgl : g < s.gens.size := (Array.getElem?_eq_some_iff.mp hgs).1
  have hgo' : gs.Goes (model P w) A.in1 (fun n s₀ r s₁ => r = .ok .next ∧ (∃ ys σ H, Inv Y [] σ H s₁ ∧ (∀ b ∈ fp, H b = none) ∧ CsOk Y q.cs H s₁ ∧ q.Cs ys s₁.heap ∧ q.Fin ys H ∧ (∀ c ∈ q.cs, ∀ o, s₀.heap.get? c = some o → s₁.heap.get? c = some o))) (GYp q Y fp) n (.send .none) (s.setGen g .running) := hgo
  refine wpAny_mono (wpAny_gsz (n := g + 1) hgl (wpAny_pyNext_genexpQ (E := fun e s' => g + 1 ≤ s'.gens.size → E e s') (Q := fun v s' => g + 1 ≤ s'.gens.size → Q v s') (P := fun n s₀ s₁ => ∃ ys σ H, Inv Y [] σ H s₁ ∧ (∀ b ∈ fp, H b = none) ∧ CsOk Y q.cs H s₁ ∧ q.Cs ys s₁.heap ∧ q.Fin ys H ∧ (∀ c ∈ q.cs, ∀ o, s₀.heap.get? c = some o → s₁.heap.get? c = some o)) hh hl hroom hg hgs hgo' (fun v s₁ gs' hb hy => ?_) (fun s₁ hp h' hk => ?_))) (fun _ _ h => h) (fun _ _ h => h)
  · intro hsz
    obtain ⟨ys, y, σ, H, r, I, hf, hc, hCs, yo, ks, wake⟩ := hy
    have hsz1 : g < s₁.gens.size := by
      have e : (s₁.setGen g gs').gens.size = s₁.gens.size := setGen_size _ _ _
      omega
    refine hv v (s₁.setGen g gs') ys y σ H r (inv_gens I (bare_set I.bare hb)) hf hc hCs yo ks fun s₂ dz eg rs cs => ?_
    have k := wake (s₂.setGen g .running) ⟨dz.os, bare_set dz.bare rfl, dz.keep, dz.there⟩ rs cs
    cases n with
    | zero => exact k.elim
    | succ m =>
      refine ⟨m, rfl, gs', ?_, k⟩
      rw [eg]
      exact setGen_at hsz1
  · intro hsz
    obtain ⟨ys, σ, H, I, hf, hc, hCs, fin, ks⟩ := hp
    exact he (s₁.setGen g .finished) ys σ H (inv_gens I (bare_set I.bare rfl)) hf hc hCs fin ks h' hk
/-- all(g), any(g): until one is b0 -/
theorem all_loop (hY : Y.prog = P) (hw : Y.w = w) (hh : A.handled = none) (hroom : A.depth < recursionLimit) {R : Result → Shared → Prop}
    (hcs : q.cs = [a]) (hC : ∀ ys h, q.Cs ys h ↔ h.IsGen a g)
    (hT : ∀ ys y σ H s, Inv Y [] σ H s → q.YO ys y H → ∃ b : Bool, y = .bl b ∧ (b = true → q.RS ys y) ∧ (b = false → R (.ok (.ret (.bool false))) s))
    (hF : ∀ ys σ H s, Inv Y [] σ H s → q.Fin ys H → R (.ok (.ret (.bool true))) s) :
    ∀ (n : Nat) (s : Shared), s.heap.NoLimit → s.heap.IsGen a g → Asleep (model P w) A.in1.in1 q Y fp g n s → codeAny (model P w) A (.builtin "all.loop" ⟨[.ref a], []⟩) R s := by
  intro n
  induction n with
  | zero =>
    intro s hl hg z
    refine codeAny_builtin F.entry_all_loop ?_
    rw [Around.under_plainId F.plain_all_loop _]
    show wpAny _ A.in1 (pyNext (.ref a) >>= _) _ _ s
    refine wpAny_bind (next_ok (A := A.in1) hY hw hh hroom hl hg z (fun v s₁ ys y σ H r I hf hc hCs yo _ wake => ?_) (fun s₁ ys σ H I hf hc hCs fin _ h' hk => ?_))
    · obtain ⟨b, rfl, h1, h2⟩ := hT ys y σ H s₁ I yo
      cases (show v = .bool b from r)
      refine wpAny_bind (wpAny_holding (wpAny_truthy_bool ?_))
      refine wpAny_bind (wpAny_letGo ?_)
      cases b with
      | true =>
        exfalso
        obtain ⟨m, e, _⟩ := wake s₁ ⟨rfl, I.bare, fun _ _ _ e => e, fun c hc' => (hc c hc').2⟩ rfl (h1 rfl) ((hC _ _).mpr ((hC _ _).mp hCs))
        cases e
      | false =>
        simp only [Bool.false_eq_true, if_false]
        exact wpAny_bind (wpAny_rule (wpAny_pure (h2 rfl)))
    · refine wpAny_bind (wpAny_rule (wpAny_pure ?_))
      exact hF ys σ H _ (I.un (t' := s₁.toks) (Un.kept hk) (I.hok.kept hk)) fin
  | succ n ih =>
    intro s hl hg z
    refine codeAny_builtin F.entry_all_loop ?_
    rw [Around.under_plainId F.plain_all_loop _]
    show wpAny _ A.in1 (pyNext (.ref a) >>= _) _ _ s
    refine wpAny_bind (next_ok (A := A.in1) hY hw hh hroom hl hg z (fun v s₁ ys y σ H r I hf hc hCs yo _ wake => ?_) (fun s₁ ys σ H I hf hc hCs fin _ h' hk => ?_))
    · obtain ⟨b, rfl, h1, h2⟩ := hT ys y σ H s₁ I yo
      cases (show v = .bool b from r)
      refine wpAny_bind (wpAny_holding (wpAny_truthy_bool ?_))
      refine wpAny_bind (wpAny_letGo ?_)
      cases b with
      | true =>
        simp only [if_true]
        obtain ⟨m, e, z'⟩ := wake s₁ ⟨rfl, I.bare, fun _ _ _ e => e, fun c hc' => (hc c hc').2⟩ rfl (h1 rfl) ((hC _ _).mpr ((hC _ _).mp hCs))
        cases e
        exact wpAny_pure ⟨plainId_quiet F.plain_all_loop _, ih s₁ I.nolimit ((hC _ _).mp hCs) z'⟩
      | false =>
        simp only [Bool.false_eq_true, if_false]
        exact wpAny_bind (wpAny_rule (wpAny_pure (h2 rfl)))
    · refine wpAny_bind (wpAny_rule (wpAny_pure ?_))
      exact hF ys σ H _ (I.un (t' := s₁.toks) (Un.kept hk) (I.hok.kept hk)) fin
/-- any(g) -/
theorem any_loop (hY : Y.prog = P) (hw : Y.w = w) (hh : A.handled = none) (hroom : A.depth < recursionLimit) {R : Result → Shared → Prop}
    (hcs : q.cs = [a]) (hC : ∀ ys h, q.Cs ys h ↔ h.IsGen a g)
    (hT : ∀ ys y σ H s, Inv Y [] σ H s → q.YO ys y H → ∃ b : Bool, y = .bl b ∧ (b = false → q.RS ys y) ∧ (b = true → R (.ok (.ret (.bool true))) s))
    (hF : ∀ ys σ H s, Inv Y [] σ H s → q.Fin ys H → R (.ok (.ret (.bool false))) s) :
    ∀ (n : Nat) (s : Shared), s.heap.NoLimit → s.heap.IsGen a g → Asleep (model P w) A.in1.in1 q Y fp g n s → codeAny (model P w) A (.builtin "any.loop" ⟨[.ref a], []⟩) R s := by
  intro n
  induction n with
  | zero =>
    intro s hl hg z
    refine codeAny_builtin F.entry_any_loop ?_
    rw [Around.under_plainId F.plain_any_loop _]
    show wpAny _ A.in1 (pyNext (.ref a) >>= _) _ _ s
    refine wpAny_bind (next_ok (A := A.in1) hY hw hh hroom hl hg z (fun v s₁ ys y σ H r I hf hc hCs yo _ wake => ?_) (fun s₁ ys σ H I hf hc hCs fin _ h' hk => ?_))
    · obtain ⟨b, rfl, h1, h2⟩ := hT ys y σ H s₁ I yo
      cases (show v = .bool b from r)
      refine wpAny_bind (wpAny_holding (wpAny_truthy_bool ?_))
      refine wpAny_bind (wpAny_letGo ?_)
      cases b with
      | false =>
        exfalso
        obtain ⟨m, e, _⟩ := wake s₁ ⟨rfl, I.bare, fun _ _ _ e => e, fun c hc' => (hc c hc').2⟩ rfl (h1 rfl) ((hC _ _).mpr ((hC _ _).mp hCs))
        cases e
      | true =>
        simp only [if_true]
        exact wpAny_bind (wpAny_rule (wpAny_pure (h2 rfl)))
    · refine wpAny_bind (wpAny_rule (wpAny_pure ?_))
      exact hF ys σ H _ (I.un (t' := s₁.toks) (Un.kept hk) (I.hok.kept hk)) fin
  | succ n ih =>
    intro s hl hg z
    refine codeAny_builtin F.entry_any_loop ?_
    rw [Around.under_plainId F.plain_any_loop _]
    show wpAny _ A.in1 (pyNext (.ref a) >>= _) _ _ s
    refine wpAny_bind (next_ok (A := A.in1) hY hw hh hroom hl hg z (fun v s₁ ys y σ H r I hf hc hCs yo _ wake => ?_) (fun s₁ ys σ H I hf hc hCs fin _ h' hk => ?_))
    · obtain ⟨b, rfl, h1, h2⟩ := hT ys y σ H s₁ I yo
      cases (show v = .bool b from r)
      refine wpAny_bind (wpAny_holding (wpAny_truthy_bool ?_))
      refine wpAny_bind (wpAny_letGo ?_)
      cases b with
      | false =>
        simp only [Bool.false_eq_true, if_false]
        obtain ⟨m, e, z'⟩ := wake s₁ ⟨rfl, I.bare, fun _ _ _ e => e, fun c hc' => (hc c hc').2⟩ rfl (h1 rfl) ((hC _ _).mpr ((hC _ _).mp hCs))
        cases e
        exact wpAny_pure ⟨plainId_quiet F.plain_any_loop _, ih s₁ I.nolimit ((hC _ _).mp hCs) z'⟩
      | true =>
        simp only [if_true]
        exact wpAny_bind (wpAny_rule (wpAny_pure (h2 rfl)))
    · refine wpAny_bind (wpAny_rule (wpAny_pure ?_))
      exact hF ys σ H _ (I.un (t' := s₁.toks) (Un.kept hk) (I.hok.kept hk)) fin
end
/-- it is asleep as it was made -/
theorem asleep0 {X : Cx} {pins : List (Addr × Obj)} {σ : L2.St} {H1 : Hp} {P : Addr} {tg elt iter : Expr} {ifs : List Expr} {scope : Scope} {gpos : Pos} {own : List (Str × Nat)} {J : It} {a : Addr} {g : Nat} {genv : Env} {sb s5 : Shared} {H2 : Hp} {it : Addr} {fp : List Addr} {tn : Nat → Heap → Prop}
    {q : Ask} {gg : TG} {tt : TT} {te : TE} {A : Around} {s' : Shared}
    (M : Made X pins σ H1 P tg elt iter ifs scope gpos own J a g genv sb s5 H2 it fp tn) (hcalm : X.calm = true) (hco : scope.isCoroutine = false) (hA : A.handled = none) (hfr : A.frames = some X.stack)
    (pg : PG (gblk X sb H2 genv fp (A.over (.compLoop (.GeneratorExp elt [⟨tg, iter, ifs, 0⟩] scope gpos) 0 (.ref it) .none genv) [])) tg gg)
    (pt : PTs (gblk X sb H2 genv fp (A.over (.compLoop (.GeneratorExp elt [⟨tg, iter, ifs, 0⟩] scope gpos) 0 (.ref it) .none genv) [])) ifs tt)
    (pe : PE (gblk X sb H2 genv fp (A.over (.compLoop (.GeneratorExp elt [⟨tg, iter, ifs, 0⟩] scope gpos) 0 (.ref it) .none genv) [])) elt te)
    (hq : q.Stable) (tu : Turns q J gg tt te (wipe σ (own.map (·.2))) (own.map (·.2)))
    (hos : s'.os = s5.os) (hg : s'.gens = s5.gens) (keep : ∀ b o, s5.heap.get? b = some o → s'.heap.get? b = some o)
    (hcs : ∀ c ∈ q.cs, (c = a ∨ s5.heap.objs.size ≤ c) ∧ ∃ o, s'.heap.get? c = some o ∧ ∀ v, o.data ≠ .cell v) (hCs : q.Cs [] s'.heap) (w : q.W 0 [] H2) :
    Asleep (model X.prog X.w) A q (gblk X sb H2 genv fp (A.over (.compLoop (.GeneratorExp elt [⟨tg, iter, ifs, 0⟩] scope gpos) 0 (.ref it) .none genv) [])) fp g q.N s' := by
  have hA' : (A.over (.compLoop (.GeneratorExp elt [⟨tg, iter, ifs, 0⟩] scope gpos) 0 (.ref it) .none genv) []).handled = none := hA
  have hF' : (A.over (.compLoop (.GeneratorExp elt [⟨tg, iter, ifs, 0⟩] scope gpos) 0 (.ref it) .none genv) []).frames = some (genv :: X.stack) := by
    show pushEnvs [genv] (pushEnvs [] A.frames) = _
    rw [hfr]; rfl
  have I5 := M.inv _ hA' hF'
  have hgsc : genv.scope = scope := by rw [M.env]; rfl
  generalize hYe : A.over (.compLoop (.GeneratorExp elt [⟨tg, iter, ifs, 0⟩] scope gpos) 0 (.ref it) .none genv) [] = A' at *
  refine ⟨.fresh (.compStart (.GeneratorExp elt [⟨tg, iter, ifs, 0⟩] scope gpos) 0 (.ref it) .none genv), by rw [hg]; exact M.fresh, ?_⟩
  refine ⟨rfl, ?_⟩
  have age : ∀ c ∈ q.cs, sb.heap.objs.size ≤ c := fun c hc => by
    rcases (hcs c hc).1 with e | e
    · rw [e]; exact M.age
    · refine Nat.le_trans ?_ e
      refine Nat.le_trans M.age (Nat.le_of_lt M.alt)
  have hn : ∀ c ∈ q.cs, H2 c = none := fun c hc => M.base.hok.fresh (age c hc)
  have hdis : ∀ c ∈ q.cs, c ∉ fp := fun c hc hb => by
    rcases (hcs c hc).1 with e | e
    · exact M.nofp (e ▸ hb)
    · exact absurd (Nat.lt_of_lt_of_le (M.fpl c hb) e) (Nat.lt_irrefl _)
  have I6 : Inv (gblk X sb H2 genv fp A') [] (wipe σ (own.map (·.2))) H2 (s'.setGen g .running) := by
    have I6' : Inv (gblk X sb H2 genv fp A') [] (wipe σ (own.map (·.2))) H2 { s5 with heap := s'.heap, toks := s'.toks } := I5.un (Un.kept keep) (I5.hok.kept keep)
    have b6 : AllBare (s'.setGen g .running).gens := bare_set (by rw [hg]; exact M.bare) rfl
    obtain ⟨hh, gg', d, t, o⟩ := s'
    have ho : o = s5.os := hos
    subst ho
    exact ⟨I6'.ok, I6'.os, b6, I6'.base, I6'.loc, I6'.cell, I6'.free, I6'.freeC, I6'.pin, I6'.hok, I6'.len⟩
  have hC6 : CsOk (gblk X sb H2 genv fp A') q.cs H2 (s'.setGen g .running) := fun c hc => by
    have h0 := M.base.fpOk (age c hc) (hn c hc)
    refine ⟨⟨hn c hc, ?_, fun z => ?_, .inr (age c hc), fun x d e z => ?_, fun p hp => absurd (show p ∈ ([] : List (Addr × Obj)) ++ [] from hp) (by simp)⟩, (hcs c hc).2⟩
    · show c ≠ genv.locals
      rcases (hcs c hc).1 with e | e
      · rw [e]; exact Ne.symm M.loc
      · exact Nat.ne_of_gt (Nat.lt_of_lt_of_le M.lcl e)
    · rcases List.mem_cons.mp (M.base.stkSub c z) with y | y
      · exact h0.2.1 y
      · exact h0.2.2.1 y
    · obtain ⟨v, ic⟩ := I5.cell x d e
      have z' : d = c := z
      subst z'
      obtain ⟨o', ho', hd'⟩ := ic
      rcases (hcs d hc).1 with y | y
      · obtain ⟨o2, nm, qn, ho2, hc2, hd2, _⟩ := M.gen
        rw [← y, ho'] at ho2
        cases ho2
        rw [hd'] at hd2
        cases hd2
      · exact absurd (Nat.lt_of_lt_of_le (Heap.lt_size ho') y) (Nat.lt_irrefl _)
  rw [← hYe] at pg pt pe I6 hC6 ⊢
  exact start_ok M.turn hcalm hq hdis (by rw [hgsc]; exact hco) pg pt pe tu _ _ _ I6 (M.turn.keep _ _ _ M.st fun b _ o e => keep b o e) M.fpn hC6 hCs w fun _ _ _ e => e
end GX

end
section
set_option Elab.async false
set_option linter.all false
set_option maxRecDepth 100000
set_option maxHeartbeats 4000000
set_option autoImplicit false
/-! all, any of a generator expression -/
namespace GX
open PySem PySem.Spec PyProof.Rows L2 GxR GenW

/-- the parts of a generator expression, in any frame that it may get -/
def Parts (X : Cx) (scope : Scope) (tg elt : Expr) (ifs : List Expr) (g : TG) (tt : TT) (te : TE) : Prop :=
  ∀ (s : Shared) (H : Hp) (genv : Env) (fp : List Addr) (A : Around), genv.scope = scope → A.handled = none → A.depth ≤ X.A.depth + 2 → A.units ≤ X.A.units + 16 →
    PG (gblk X s H genv fp A) tg g ∧ PTs (gblk X s H genv fp A) ifs tt ∧ PE (gblk X s H genv fp A) elt te

/-- all(elt for target in iter if ..) -/
def tAllG (P : Addr) (wi : TI) (g : TG) (tt : TT) (te : TE) (vs : List Nat) : TE := fun σ H Q => wi σ H fun J H1 => TabG H1 P ∧ ∀ H2, Tabbed P H1 H2 → ∃ (N : Nat) (W : Nat → Hp → Prop), W 0 H2 ∧ ∀ i H, W i H →
  (J.stop i H ∧ Q (.bl true) H) ∨ (J.go i H ∧ i < N ∧ ∀ x H', J.yld i H x H' → g x (wipe σ vs) H' fun σ2 H3 => wipe σ2 vs = wipe σ vs ∧ tt σ2 H3 fun b H4 =>
    if b = true then te σ2 H4 fun y H5 => (∃ t : Bool, y = .bl t ∧ (t = false → Q (.bl false) H5)) ∧ (y = .bl true → W (i + 1) H5) else W (i + 1) H4)

/-- any(elt for target in iter if ..) -/
def tAnyG (P : Addr) (wi : TI) (g : TG) (tt : TT) (te : TE) (vs : List Nat) : TE := fun σ H Q => wi σ H fun J H1 => TabG H1 P ∧ ∀ H2, Tabbed P H1 H2 → ∃ (N : Nat) (W : Nat → Hp → Prop), W 0 H2 ∧ ∀ i H, W i H →
  (J.stop i H ∧ Q (.bl false) H) ∨ (J.go i H ∧ i < N ∧ ∀ x H', J.yld i H x H' → g x (wipe σ vs) H' fun σ2 H3 => wipe σ2 vs = wipe σ vs ∧ tt σ2 H3 fun b H4 =>
    if b = true then te σ2 H4 fun y H5 => (∃ t : Bool, y = .bl t ∧ (t = true → Q (.bl true) H5)) ∧ (y = .bl false → W (i + 1) H5) else W (i + 1) H4)

section
variable {X : Cx} {k : Nat} {c P : Addr} {tg elt iter : Expr} {ifs : List Expr} {p pos gpos : Pos} {scope : Scope} {own : List (Str × Nat)} {wi : TI} {g : TG} {tt : TT} {te : TE}
theorem pe_allG (hr : Room k X.A) (hc : X.calm = true) (hN : X.N.Nodup) (hgl : Gl X "all") (hm : X.mg "all" = none) (hb : bootBuiltins "all" = some (.builtin "all")) (TB : TabB X.base X.mg c P) (hcode : X.env.code = .ref c)
    (S : GSc X.N X.env.scope scope own) (hi : PI X tg iter wi) (hp : Parts X scope tg elt ifs g tt te) (hs : ∀ v, genFold iter X.env v = pure v)
    (he : starEach [.GeneratorExp elt [⟨tg, iter, ifs, 0⟩] scope gpos] X.env = (false, eval (.GeneratorExp elt [⟨tg, iter, ifs, 0⟩] scope gpos) X.env) :: starEach [] X.env := by rfl) :
    PE X (.Call (.Name "all" p) [.GeneratorExp elt [⟨tg, iter, ifs, 0⟩] scope gpos] [] pos) (tAllG P wi g tt te (own.map (·.2))) := by
  refine ⟨fun pins s σ H Q I h => ?_⟩
  refine wpAny_Call_Name_kw (ld_blt I hgl hm hb ?_)
  refine PyProof.Rows.callWith_builtin1 ?_ he (by rfl)
  rw [he]
  show wpAny _ _ (spliced ((false, eval (.GeneratorExp elt [⟨tg, iter, ifs, 0⟩] scope gpos) X.env) :: backTo pos (starEach [] X.env))) _ _ s
  refine Calls.spliced_cons (gen_made hr hN TB hcode S hi hs I h fun J H1 a gn genv sb s5 H2 it fp tn hR M => ?_)
  refine Calls.spliced_nil ?_
  obtain ⟨N, W, w0, turn⟩ := hR H2 M.tab
  refine call_function_tree F.kind_all F.plain_all F.entry_all (F.args_all1 _) ?_
  unfold Builtin.«all»
  refine wpAny_bind (m := oneArg "all" _) (wpAny_pure ?_)
  refine wpAny_bind (wpAny_pyIter_gen M.gen ?_)
  refine wpAny_pure ⟨plainId_quiet F.plain_all_loop _, ?_⟩
  have hsc : genv.scope = scope := by rw [M.env]; rfl
  have fr : X.A.frames = some X.stack := I.ok.frames
  obtain ⟨pg, pt, pe⟩ := hp sb H2 genv fp (X.A.in1.in1.over (.compLoop (.GeneratorExp elt [⟨tg, iter, ifs, 0⟩] scope gpos) 0 (.ref it) .none genv) []) hsc (I.ok.hd hc) (by show X.A.depth + 0 + 1 ≤ _; omega) (by show X.A.units + 1 + 1 + 0 + 3 ≤ _; omega)
  let q : Ask := { N := N, W := fun i _ H => W i H, YO := fun _ y H => ∃ t : Bool, y = .bl t ∧ (t = false → Q (.bl false) H), RS := fun _ y => y = .bl true, Fin := fun _ H => Q (.bl true) H, cs := [a], Cs := fun _ h => h.IsGen a gn }
  have hq : q.Stable := fun ys h h' hh k => by
    obtain ⟨o, nm, qn, ho, r⟩ := hh
    exact ⟨o, nm, qn, k a (List.mem_singleton.mpr rfl) o ho, r⟩
  have tu : Turns q J g tt te (wipe σ (own.map (·.2))) (own.map (·.2)) := fun i ys H w => turn i H w
  have z := asleep0 (q := q) M hc S.co (A := X.A.in1.in1) (s' := s5) (I.ok.hd hc) fr pg pt pe hq tu rfl rfl (fun _ _ e => e) (fun d hd => by
    have e : d = a := List.mem_singleton.mp hd
    subst e
    obtain ⟨o, nm, qn, ho, hc', hd', hsl⟩ := M.gen
    exact ⟨.inl rfl, o, ho, fun v z => by rw [hd'] at z; cases z⟩) M.gen w0
  refine all_loop (P := X.prog) (w := X.w) (q := q) (Y := gblk X sb H2 genv fp (X.A.in1.in1.over (.compLoop (.GeneratorExp elt [⟨tg, iter, ifs, 0⟩] scope gpos) 0 (.ref it) .none genv) [])) (fp := fp) rfl rfl (I.ok.hd hc) (by have := hr.dp; show X.A.depth < _; omega) rfl (fun _ _ => Iff.rfl) (fun ys y σ' H' s' I' yo => ?_) (fun ys σ' H' s' I' fin => ?_) _ s5 M.lim M.gen z
  · obtain ⟨t, rfl, h2⟩ := yo
    exact ⟨t, rfl, fun e => by rw [e], fun e => ⟨.bl false, H', M.back I', rfl, h2 e⟩⟩
  · exact ⟨.bl true, H', M.back I', rfl, fin⟩
theorem pe_anyG (hr : Room k X.A) (hc : X.calm = true) (hN : X.N.Nodup) (hgl : Gl X "any") (hm : X.mg "any" = none) (hb : bootBuiltins "any" = some (.builtin "any")) (TB : TabB X.base X.mg c P) (hcode : X.env.code = .ref c)
    (S : GSc X.N X.env.scope scope own) (hi : PI X tg iter wi) (hp : Parts X scope tg elt ifs g tt te) (hs : ∀ v, genFold iter X.env v = pure v)
    (he : starEach [.GeneratorExp elt [⟨tg, iter, ifs, 0⟩] scope gpos] X.env = (false, eval (.GeneratorExp elt [⟨tg, iter, ifs, 0⟩] scope gpos) X.env) :: starEach [] X.env := by rfl) :
    PE X (.Call (.Name "any" p) [.GeneratorExp elt [⟨tg, iter, ifs, 0⟩] scope gpos] [] pos) (tAnyG P wi g tt te (own.map (·.2))) := by
  refine ⟨fun pins s σ H Q I h => ?_⟩
  refine wpAny_Call_Name_kw (ld_blt I hgl hm hb ?_)
  refine PyProof.Rows.callWith_builtin1 ?_ he (by rfl)
  rw [he]
  show wpAny _ _ (spliced ((false, eval (.GeneratorExp elt [⟨tg, iter, ifs, 0⟩] scope gpos) X.env) :: backTo pos (starEach [] X.env))) _ _ s
  refine Calls.spliced_cons (gen_made hr hN TB hcode S hi hs I h fun J H1 a gn genv sb s5 H2 it fp tn hR M => ?_)
  refine Calls.spliced_nil ?_
  obtain ⟨N, W, w0, turn⟩ := hR H2 M.tab
  refine call_function_tree F.kind_any F.plain_any F.entry_any (F.args_any1 _) ?_
  unfold Builtin.«any»
  refine wpAny_bind (m := oneArg "any" _) (wpAny_pure ?_)
  refine wpAny_bind (wpAny_pyIter_gen M.gen ?_)
  refine wpAny_pure ⟨plainId_quiet F.plain_any_loop _, ?_⟩
  have hsc : genv.scope = scope := by rw [M.env]; rfl
  have fr : X.A.frames = some X.stack := I.ok.frames
  obtain ⟨pg, pt, pe⟩ := hp sb H2 genv fp (X.A.in1.in1.over (.compLoop (.GeneratorExp elt [⟨tg, iter, ifs, 0⟩] scope gpos) 0 (.ref it) .none genv) []) hsc (I.ok.hd hc) (by show X.A.depth + 0 + 1 ≤ _; omega) (by show X.A.units + 1 + 1 + 0 + 3 ≤ _; omega)
  let q : Ask := { N := N, W := fun i _ H => W i H, YO := fun _ y H => ∃ t : Bool, y = .bl t ∧ (t = true → Q (.bl true) H), RS := fun _ y => y = .bl false, Fin := fun _ H => Q (.bl false) H, cs := [a], Cs := fun _ h => h.IsGen a gn }
  have hq : q.Stable := fun ys h h' hh k => by
    obtain ⟨o, nm, qn, ho, r⟩ := hh
    exact ⟨o, nm, qn, k a (List.mem_singleton.mpr rfl) o ho, r⟩
  have tu : Turns q J g tt te (wipe σ (own.map (·.2))) (own.map (·.2)) := fun i ys H w => turn i H w
  have z := asleep0 (q := q) M hc S.co (A := X.A.in1.in1) (s' := s5) (I.ok.hd hc) fr pg pt pe hq tu rfl rfl (fun _ _ e => e) (fun d hd => by
    have e : d = a := List.mem_singleton.mp hd
    subst e
    obtain ⟨o, nm, qn, ho, hc', hd', hsl⟩ := M.gen
    exact ⟨.inl rfl, o, ho, fun v z => by rw [hd'] at z; cases z⟩) M.gen w0
  refine any_loop (P := X.prog) (w := X.w) (q := q) (Y := gblk X sb H2 genv fp (X.A.in1.in1.over (.compLoop (.GeneratorExp elt [⟨tg, iter, ifs, 0⟩] scope gpos) 0 (.ref it) .none genv) [])) (fp := fp) rfl rfl (I.ok.hd hc) (by have := hr.dp; show X.A.depth < _; omega) rfl (fun _ _ => Iff.rfl) (fun ys y σ' H' s' I' yo => ?_) (fun ys σ' H' s' I' fin => ?_) _ s5 M.lim M.gen z
  · obtain ⟨t, rfl, h2⟩ := yo
    exact ⟨t, rfl, fun e => by rw [e], fun e => ⟨.bl true, H', M.back I', rfl, h2 e⟩⟩
  · exact ⟨.bl false, H', M.back I', rfl, fin⟩
end
end GX

end
section
set_option Elab.async false
set_option linter.all false
set_option maxRecDepth 100000
set_option maxHeartbeats 4000000
set_option autoImplicit false
/-! tuple of a generator expression -/
namespace GX
open PySem PySem.Spec PyProof.Rows L2 GxR GenW

/-- the consumer's list at S holds what came -/
def CsL (a : Addr) (g : Nat) (S : Addr) (ys : List V) (h : Heap) : Prop := h.IsGen a g ∧ ∃ acc c, h.get? S = some (lstObj acc c) ∧ Vals ys acc.toList ∧ ys.length ≤ sizeLine

section
variable {P : Program} {w : World} {A : Around} {q : Ask} {Y : Cx} {fp : List Addr} {g : Nat} {a S : Addr} {E : Value → Shared → Prop} {res : Value}
theorem ext_loop (hY : Y.prog = P) (hw : Y.w = w) (hh : A.handled = none) (hroom : A.depth < recursionLimit) {R : Result → Shared → Prop} (hSa : S ≠ a)
    (hcs : q.cs = [a, S]) (hC : q.Cs = CsL a g S) (hT : ∀ ys y H, q.YO ys y H → ys.length < sizeLine ∧ q.RS ys y)
    (hF : ∀ ys σ H s acc c, Inv Y [] σ H s → H S = none → s.heap.get? S = some (lstObj acc c) → Vals ys acc.toList → ys.length ≤ sizeLine → q.Fin ys H → R (.ok (.ret res)) s) :
    ∀ (n : Nat) (s : Shared), s.heap.NoLimit → s.heap.IsGen a g → Asleep (model P w) A.in1.in1 q Y fp g n s → codeAny (model P w) A (.builtin "list.extend.loop" ⟨[.ref S, .ref a, res], []⟩) R s := by
  have mS : S ∈ q.cs := by rw [hcs]; exact List.mem_cons_of_mem _ (List.mem_singleton.mpr rfl)
  have nota : ∀ {H : Hp} {s : Shared}, CsOk Y q.cs H s → H S = none := fun hc => (hc S mS).1.1
  have stop : ∀ {ys σ H s₁ h'}, Inv Y [] σ H s₁ → CsOk Y q.cs H s₁ → q.Cs ys s₁.heap → q.Fin ys H → (∀ b o, s₁.heap.get? b = some o → h'.get? b = some o) → R (.ok (.ret res)) { s₁ with heap := h' } := fun {ys σ H s₁ h'} I hc hCs fin hk => by
    rw [hC] at hCs
    obtain ⟨_, acc, c, e, r, hl⟩ := hCs
    exact hF ys σ H _ acc c (I.un (t' := s₁.toks) (Un.kept hk) (I.hok.kept hk)) (nota hc) (hk _ _ e) r hl fin
  have step : ∀ {v s₁ ys y σ H}, RelV y v → Inv Y [] σ H s₁ → CsOk Y q.cs H s₁ → q.Cs ys s₁.heap → q.YO ys y H → ∃ acc c, s₁.heap.get? S = some (lstObj acc c) ∧ acc.size < sizeLine ∧
      Doze q.cs s₁ { s₁ with heap := s₁.heap.update S (Obj.mapSeq (·.push v)) } ∧ q.Cs (ys ++ [y]) (s₁.heap.update S (Obj.mapSeq (·.push v))) ∧ (s₁.heap.update S (Obj.mapSeq (·.push v))).IsGen a g := fun {v s₁ ys y σ H} r I hc hCs yo => by
    rw [hC] at hCs
    obtain ⟨ig, acc, c, e, rv, hl⟩ := hCs
    obtain ⟨hlt, _⟩ := hT ys y H yo
    have hsz : acc.size = ys.length := by rw [rv.length]; simp
    have keep : ∀ b o, b ≠ S → s₁.heap.get? b = some o → (s₁.heap.update S (Obj.mapSeq (·.push v))).get? b = some o := fun b o hb e => (Heap.get?_update_other _ _ (Ne.symm hb)).trans e
    have self := Heap.get?_update_self (Obj.mapSeq (·.push v)) e rfl
    have ig' : (s₁.heap.update S (Obj.mapSeq (·.push v))).IsGen a g := by
      obtain ⟨o, nm, qn, ho, rr⟩ := ig
      exact ⟨o, nm, qn, keep a o (Ne.symm hSa) ho, rr⟩
    refine ⟨acc, c, e, by omega, ⟨rfl, I.bare, fun b o hb e => keep b o (fun z => hb (z ▸ mS)) e, fun b hb => ?_⟩, ?_, ig'⟩
    · by_cases hbS : b = S
      · subst hbS
        exact ⟨_, self, fun v z => by cases z⟩
      · obtain ⟨o, e1, nd⟩ := (hc b hb).2
        exact ⟨o, keep b o hbS e1, nd⟩
    · rw [hC]
      refine ⟨ig', acc.push v, _, self, ?_, by rw [List.length_append]; show ys.length + 1 ≤ _; omega⟩
      rw [Array.toList_push]
      exact rv.append (.cons r .nil)
  intro n
  induction n with
  | zero =>
    intro s hl hg z
    refine codeAny_builtin F.entry_extend_loop ?_
    rw [Around.under_plainId F.plain_extend_loop _]
    show wpAny _ A.in1 (pyNext (.ref a) >>= _) _ _ s
    refine wpAny_bind (next_ok (A := A.in1) hY hw hh hroom hl hg z (fun v s₁ ys y σ H r I hf hc hCs yo _ wake => ?_) (fun s₁ ys σ H I hf hc hCs fin _ h' hk => wpAny_pure (stop I hc hCs fin hk)))
    obtain ⟨acc, c, e, hsz, dz, cs', _⟩ := step r I hc hCs yo
    obtain ⟨m, em, _⟩ := wake _ dz rfl (hT ys y H yo).2 cs'
    cases em
  | succ n ih =>
    intro s hl hg z
    refine codeAny_builtin F.entry_extend_loop ?_
    rw [Around.under_plainId F.plain_extend_loop _]
    show wpAny _ A.in1 (pyNext (.ref a) >>= _) _ _ s
    refine wpAny_bind (next_ok (A := A.in1) hY hw hh hroom hl hg z (fun v s₁ ys y σ H r I hf hc hCs yo _ wake => ?_) (fun s₁ ys σ H I hf hc hCs fin _ h' hk => wpAny_pure (stop I hc hCs fin hk)))
    obtain ⟨acc, c, e, hsz, dz, cs', ig'⟩ := step r I hc hCs yo
    obtain ⟨m, em, z'⟩ := wake _ dz rfl (hT ys y H yo).2 cs'
    cases em
    show wpAny _ A.in1 (updateSeq S (·.push v) >>= _) _ _ _
    refine wpAny_bind ?_
    refine wpAny_updateSeq e rfl (wpAny_pure ⟨plainId_quiet F.plain_extend_loop _, ih _ (dozed I hc dz).1.nolimit ig' z'⟩) (Nat.le_of_lt hsz) (by show (acc.push v).size ≤ sizeLine + 1; rw [Array.size_push]; omega)
end
section
variable {P : Program} {w : World} {A : Around} {Y : Cx} {fp : List Addr} {g : Nat} {a : Addr} {E : Value → Shared → Prop} {s : Shared}
/-- what came, as a list of the machine's -/
theorem collect_ok {q : Ask} {Q : List Value → Shared → Prop} (hY : Y.prog = P) (hw : Y.w = w) (hh : A.handled = none) (hroom : A.depth < recursionLimit) (hl : s.heap.NoLimit) (hg : s.heap.IsGen a g)
    (hcs : q.cs = [a, s.heap.objs.size]) (hC : q.Cs = CsL a g s.heap.objs.size) (hT : ∀ ys y H, q.YO ys y H → ys.length < sizeLine ∧ q.RS ys y) (n : Nat)
    (hz : ∀ s', s'.os = s.os → s'.gens = s.gens → (∀ b o, s.heap.get? b = some o → s'.heap.get? b = some o) → (∃ c, s'.heap.get? s.heap.objs.size = some (lstObj #[] c)) → Asleep (model P w) A.in1.in1 q Y fp g n s')
    (hQ : ∀ ys σ H s' acc, Inv Y [] σ H s' → Vals ys acc → ys.length ≤ sizeLine → q.Fin ys H → Q acc s') : wpAny (model P w) A (collect (.ref a)) Q E s := by
  have hSa : s.heap.objs.size ≠ a := fun e => by
    obtain ⟨o, nm, qn, ho, _⟩ := hg
    exact absurd (Heap.lt_size ho) (by rw [e]; exact Nat.lt_irrefl _)
  have hcl : cStatics < s.heap.objs.size := let ⟨_, hn, _⟩ := hl; hn.lt
  have gty : ∀ {h : Heap}, (∀ b o, s.heap.get? b = some o → h.get? b = some o) → h.IsGen a g := fun {h} q => hg.keeps q
  unfold collect
  refine wpAny_bind (wpAny_runValue (codeAny_builtin F.entry_proto_collect ?_))
  rw [Around.under_plainId F.plain_proto_collect _]
  show wpAny _ A.in1 (newList [] >>= fun l => again (.builtin "list.__iadd__" ⟨[l, .ref a], []⟩)) _ _ s
  refine wpAny_bind (wpAny_newObj_type ?_)
  refine wpAny_pure ⟨plainId_quiet F.plain_list_iadd _, codeAny_builtin F.entry_list_iadd ?_⟩
  rw [Around.under_plainId F.plain_list_iadd _]
  show wpAny _ A.in1 (Builtin.List.listExtendWith (.ref s.heap.objs.size) (.ref a) (.ref s.heap.objs.size)) _ _ _
  unfold Builtin.List.listExtendWith
  have k1 : ∀ b o, s.heap.get? b = some o → (s.heap.push { cls := .type "list", data := .seq ([] : List Value).toArray }).get? b = some o := fun b o e => Heap.get?_push_of_some _ e
  refine wpAny_bind (wpAny_typeOf (Heap.IsGen.typeIs (s := { s with heap := _ }) (gty k1)) ?_)
  have h1 : Builtin.List.listSameRef (.ref s.heap.objs.size) (.ref a) = false := by simp [Builtin.List.listSameRef, hSa]
  have h2 : (Value.type "generator" == Value.type "list") = false := by decide
  have h3 : (Value.type "generator" == Value.type "tuple") = false := by decide
  simp only [h1, h2, h3, Bool.or_false, Bool.false_eq_true, if_false]
  refine wpAny_bind (wpAny_pyIter_gen (s := { s with heap := _ }) (gty k1) ?_)
  refine wpAny_bind (wpAny_holding ?_)
  unfold Builtin.List.listLengthHint
  refine wpAny_bind (wpAny_specialOf (Heap.IsGen.typeIs (s := { s with heap := _ }) (gty k1)) F.gen_no_len ?_)
  show wpAny _ A.in1 (specialOf (Value.ref a) (Str.ofString "__length_hint__") >>= _) _ _ _
  refine wpAny_bind (wpAny_specialOf (Heap.IsGen.typeIs (s := { s with heap := _ }) (gty k1)) F.gen_no_hint ?_)
  refine wpAny_pure ?_
  show wpAny _ A.in1 (rule "list.extend.makes-room" >>= fun _ => Builtin.List.listTouch (.ref s.heap.objs.size) >>= fun _ =>
    again (.builtin "list.extend.loop" ⟨[.ref s.heap.objs.size, .ref a, .ref s.heap.objs.size], []⟩)) _ _ _
  refine wpAny_bind (wpAny_rule ?_)
  have hS₁ : (s.heap.push { cls := .type "list", data := .seq ([] : List Value).toArray }).get? s.heap.objs.size = some { cls := .type "list", data := .seq ([] : List Value).toArray } := Heap.get?_push_size _ rfl
  refine wpAny_bind ?_
  show wpAny _ A.in1 (updateSeq s.heap.objs.size (·.push .none) >>= fun _ => updateSeq s.heap.objs.size (·.pop)) _ _ _
  refine wpAny_bind (wpAny_updateSeq hS₁ rfl ?_)
  have hS₂ := Heap.get?_update_self (Obj.mapSeq (·.push Value.none)) hS₁ rfl
  refine wpAny_updateSeq (hz := by seq_fits) hS₂ rfl ?_
  have hS₃ := Heap.get?_update_self (Obj.mapSeq (·.pop)) hS₂ rfl
  have up : ∀ (h : Heap) (f : Obj → Obj), (∀ b o, s.heap.get? b = some o → h.get? b = some o) → ∀ b o, s.heap.get? b = some o → (h.update s.heap.objs.size f).get? b = some o := fun h f q b o e =>
    (Heap.get?_update_other _ _ (Ne.symm (Nat.ne_of_lt (Heap.lt_size e)))).trans (q b o e)
  have k3 := up _ (Obj.mapSeq (·.pop)) (up _ (Obj.mapSeq (·.push Value.none)) k1)
  refine wpAny_pure ⟨plainId_quiet F.plain_extend_loop _, ?_⟩
  refine ext_loop (q := q) (Y := Y) (fp := fp) hY hw hh hroom hSa hcs hC hT (fun ys σ H s' acc c I hn e r hle fin => ?_) n _ (hl.keeps k3) (gty k3) (hz _ rfl rfl k3 ⟨_, hS₃⟩)
  show wpAny _ A (load s.heap.objs.size >>= _) _ _ s'
  refine wpAny_bind (wpAny_load e ?_)
  exact wpAny_pure (hQ ys σ H s' acc.toList I r hle fin)

theorem code_tuple_ok {q : Ask} {Q₁ : Value → Shared → Prop} (hY : Y.prog = P) (hw : Y.w = w) (hh : A.handled = none) (hroom : A.depth < recursionLimit) (hl : s.heap.NoLimit) (hg : s.heap.IsGen a g)
    (hcs : q.cs = [a, s.heap.objs.size]) (hC : q.Cs = CsL a g s.heap.objs.size) (hT : ∀ ys y H, q.YO ys y H → ys.length < sizeLine ∧ q.RS ys y) (n : Nat)
    (hz : ∀ s', s'.os = s.os → s'.gens = s.gens → (∀ b o, s.heap.get? b = some o → s'.heap.get? b = some o) → (∃ c, s'.heap.get? s.heap.objs.size = some (lstObj #[] c)) → Asleep (model P w) A.in1.in1.in1 q Y fp g n s')
    (hQ : ∀ ys σ H s' acc, Inv Y [] σ H s' → Vals ys acc → ys.length ≤ sizeLine → q.Fin ys H → Q₁ (.ref s'.heap.objs.size) { s' with heap := s'.heap.push { cls := .type "tuple", data := .seq acc.toArray } }) :
    codeAny (model P w) A (.call (.builtin "tuple.__new__") ⟨[.type "tuple", .ref a], []⟩) (wants Q₁ E) s := by
  refine codeAny_of_tree ?_
  show wpAny _ A.in1 (do checkBuiltinCall "tuple.__new__" ⟨[.type "tuple", .ref a], []⟩; again (.builtin "tuple.__new__" ⟨[.type "tuple", .ref a], []⟩)) _ _ s
  refine wpAny_bind (wpAny_of_eq (F.newCall_tuple_1 _) (wpAny_pure ⟨plainId_quiet F.plain_tuple_new _, codeAny_builtin F.entry_tuple_new ?_⟩))
  rw [Around.under_plainId F.plain_tuple_new _]
  have hsub := sub_tuple_self
  have hinit := init_tuple_lookup
  have hmh := madeHere_tuple
  have hTI : s.TypeIs (.ref a) "generator" := hg.typeIs
  wp_walk using wpAny_typeOf hTI, collect_ok (fp := fp) (g := g) hY hw (show A.in1.handled = none from hh) hroom hl hg hcs hC hT n hz
  intro ys σ H s' acc I r hle fin
  show wpAny _ _ (Builtin.Tuple.tupleExact acc.toArray >>= fun v => ret v) _ _ _
  unfold Builtin.Tuple.tupleExact
  refine wpAny_bind (wpAny_newObj_type ?_ (by show acc.toArray.size ≤ sizeLine; rw [List.size_toArray, ← r.length]; exact hle))
  exact wpAny_pure (hQ ys σ H s' acc I r hle fin)
theorem call_tuple_ok {q : Ask} {Q : Value → Shared → Prop} (hY : Y.prog = P) (hw : Y.w = w) (hh : A.handled = none) (hroom : A.depth < recursionLimit) (hl : s.heap.NoLimit) (hg : s.heap.IsGen a g)
    (hcs : q.cs = [a, s.heap.objs.size]) (hC : q.Cs = CsL a g s.heap.objs.size) (hT : ∀ ys y H, q.YO ys y H → ys.length < sizeLine ∧ q.RS ys y) (n : Nat)
    (hz : ∀ s', s'.os = s.os → s'.gens = s.gens → (∀ b o, s.heap.get? b = some o → s'.heap.get? b = some o) → (∃ c, s'.heap.get? s.heap.objs.size = some (lstObj #[] c)) → Asleep (model P w) A.in1.in1.in1.in1 q Y fp g n s')
    (hQ : ∀ ys σ H s' acc, Inv Y [] σ H s' → Vals ys acc → ys.length ≤ sizeLine → q.Fin ys H → Q (.ref s'.heap.objs.size) { s' with heap := s'.heap.push { cls := .type "tuple", data := .seq acc.toArray } }) :
    wpAny (model P w) A (call (.type "tuple") [.ref a]) Q E s := by
  refine callType_codes (Q₁ := fun obj s₁ => s₁.TypeIs obj "tuple" ∧ Q obj s₁) F.called_tuple (F.typeCall_tuple_1 _) F.entry_object_init
    (code_tuple_ok (A := A.in1) hY hw hh hroom hl hg hcs hC hT n hz fun ys σ H s' acc I r hle fin => ⟨⟨_, Heap.get?_push_size _ rfl, rfl⟩, hQ ys σ H s' acc I r hle fin⟩) fun obj s₁ h₁ => ?_
  exact ⟨h₁.1, F.args_object_init_2 obj _, object_init_meets F.called_tuple.init.lookup F.called_tuple.made (by decide) P w A.in1 _ s₁ ⟨h₁.1, rfl, h₁.2⟩⟩
end

/-- tuple(elt for target in iter if ..) -/
def tTupG (P : Addr) (wi : TI) (g : TG) (tt : TT) (te : TE) (vs : List Nat) : TE := fun σ H Q => wi σ H fun J H1 => TabG H1 P ∧ ∀ H2, Tabbed P H1 H2 → ∃ (N : Nat) (W : Nat → List V → Hp → Prop), W 0 [] H2 ∧ ∀ i ys H, W i ys H →
  (J.stop i H ∧ TQ H ys Q) ∨ (J.go i H ∧ i < N ∧ ∀ x H', J.yld i H x H' → g x (wipe σ vs) H' fun σ2 H3 => wipe σ2 vs = wipe σ vs ∧ tt σ2 H3 fun b H4 =>
    if b = true then te σ2 H4 fun y H5 => ys.length < sizeLine ∧ (True → W (i + 1) (ys ++ [y]) H5) else W (i + 1) ys H4)
section
variable {X : Cx} {k : Nat} {c P : Addr} {tg elt iter : Expr} {ifs : List Expr} {p pos gpos : Pos} {scope : Scope} {own : List (Str × Nat)} {wi : TI} {g : TG} {tt : TT} {te : TE}
theorem pe_tupG (hr : Room k X.A) (hc : X.calm = true) (hN : X.N.Nodup) (hgl : Gl X "tuple") (hm : X.mg "tuple" = none) (TB : TabB X.base X.mg c P) (hcode : X.env.code = .ref c)
    (S : GSc X.N X.env.scope scope own) (hi : PI X tg iter wi) (hp : Parts X scope tg elt ifs g tt te) (hs : ∀ v, genFold iter X.env v = pure v)
    (he : starEach [.GeneratorExp elt [⟨tg, iter, ifs, 0⟩] scope gpos] X.env = (false, eval (.GeneratorExp elt [⟨tg, iter, ifs, 0⟩] scope gpos) X.env) :: starEach [] X.env := by rfl) :
    PE X (.Call (.Name "tuple" p) [.GeneratorExp elt [⟨tg, iter, ifs, 0⟩] scope gpos] [] pos) (tTupG P wi g tt te (own.map (·.2))) := by
  refine ⟨fun pins s σ H Q I h => ?_⟩
  refine wpAny_Call_Name_kw (ld_blt I hgl hm boot_tuple ?_)
  refine PyProof.Rows.callWith_type1 ?_ he (by rfl)
  rw [he]
  show wpAny _ _ (spliced ((false, eval (.GeneratorExp elt [⟨tg, iter, ifs, 0⟩] scope gpos) X.env) :: backTo pos (starEach [] X.env))) _ _ s
  refine Calls.spliced_cons (gen_made hr hN TB hcode S hi hs I h fun J H1 a gn genv sb s5 H2 it fp tn hR M => ?_)
  refine Calls.spliced_nil ?_
  obtain ⟨N, W, w0, turn⟩ := hR H2 M.tab
  have hsc : genv.scope = scope := by rw [M.env]; rfl
  have fr : X.A.frames = some X.stack := I.ok.frames
  obtain ⟨pg, pt, pe⟩ := hp sb H2 genv fp (X.A.in1.in1.in1.in1.over (.compLoop (.GeneratorExp elt [⟨tg, iter, ifs, 0⟩] scope gpos) 0 (.ref it) .none genv) []) hsc (I.ok.hd hc) (by show X.A.depth + 0 + 1 ≤ _; omega) (by show X.A.units + 1 + 1 + 1 + 1 + 0 + 3 ≤ _; omega)
  let q : Ask := { N := N, W := W, YO := fun ys _ _ => ys.length < sizeLine, RS := fun _ _ => True, Fin := fun ys H => TQ H ys Q, cs := [a, s5.heap.objs.size], Cs := CsL a gn s5.heap.objs.size }
  have hq : q.Stable := fun ys h h' hh k => by
    obtain ⟨⟨o, nm, qn, ho, r⟩, acc, c, e, rr⟩ := hh
    exact ⟨⟨o, nm, qn, k a List.mem_cons_self o ho, r⟩, acc, c, k _ (List.mem_cons_of_mem _ (List.mem_singleton.mpr rfl)) _ e, rr⟩
  have tu : Turns q J g tt te (wipe σ (own.map (·.2))) (own.map (·.2)) := fun i ys H w => turn i ys H w
  refine call_tuple_ok (P := X.prog) (w := X.w) (q := q) (Y := gblk X sb H2 genv fp (X.A.in1.in1.in1.in1.over (.compLoop (.GeneratorExp elt [⟨tg, iter, ifs, 0⟩] scope gpos) 0 (.ref it) .none genv) [])) (fp := fp) rfl rfl (I.ok.hd hc) (by have := hr.dp; show X.A.depth < _; omega) M.lim M.gen rfl rfl
    (fun ys y H h => ⟨h, trivial⟩) q.N (fun s' ho hg' kp hS => ?_) (fun ys σ' H' s' acc I' r hle fin => ?_)
  · obtain ⟨cc, hS⟩ := hS
    obtain ⟨o, nm, qn, ho2, hc', hd', hsl⟩ := M.gen
    have ig : s'.heap.IsGen a gn := ⟨o, nm, qn, kp a o ho2, hc', hd', hsl⟩
    refine asleep0 (q := q) M hc S.co (A := X.A.in1.in1.in1.in1) (s' := s') (I.ok.hd hc) fr pg pt pe hq tu ho hg' kp (fun d hd => ?_) ⟨ig, _, cc, hS, .nil, Nat.zero_le _⟩ w0
    rcases List.mem_cons.mp hd with e | hd
    · subst e
      exact ⟨.inl rfl, o, kp _ o ho2, fun v z => by rw [hd'] at z; cases z⟩
    · have e := List.mem_singleton.mp hd
      subst e
      exact ⟨.inr (Nat.le_refl _), _, hS, fun v z => by cases z⟩
  · have I8 := M.back I'
    exact I8.madeT hle r fin
end
end GX

end
section
set_option Elab.async false
set_option linter.all false
set_option maxRecDepth 100000
set_option maxHeartbeats 4000000
set_option autoImplicit false
/-! sum of a generator expression -/
namespace GX
open PySem PySem.Spec PyProof.Rows L2 GxR GenW

/-- the consumer's list at S holds the sum of what came -/
def CsS (a : Addr) (g : Nat) (S : Addr) (ys : List V) (h : Heap) : Prop := h.IsGen a g ∧ ∃ (ns : List Int) (t : Tok) (c : Nat), ys = ns.map V.int ∧ h.get? S = some (lstObj #[.int ns.sum t] c)

section
variable {P : Program} {w : World} {A : Around} {q : Ask} {Y : Cx} {fp : List Addr} {g : Nat} {a S : Addr} {E : Value → Shared → Prop}
theorem sum_loop (hY : Y.prog = P) (hw : Y.w = w) (hh : A.handled = none) (hroom : A.depth < recursionLimit) {R : Result → Shared → Prop} (hSa : S ≠ a)
    (hcs : q.cs = [a, S]) (hC : q.Cs = CsS a g S) (hT : ∀ ys y H, q.YO ys y H → (∃ m, y = .int m) ∧ q.RS ys y)
    (hF : ∀ (ns : List Int) σ H s t, Inv Y [] σ H s → q.Fin ((ns : List Int).map V.int) H → R (.ok (.ret (.int ns.sum t))) s) :
    ∀ (n : Nat) (s : Shared) (st : Int), (st = 0 ∨ st = 2) → s.heap.NoLimit → s.heap.IsGen a g → (∃ (ns : List Int) (t : Tok) (c : Nat), s.heap.get? S = some (lstObj #[.int ns.sum t] c)) → Asleep (model P w) A.in1.in1 q Y fp g n s →
      codeAny (model P w) A (.builtin "sum.loop" ⟨[.ref a, .ref S, rawInt st, rawInt 0], []⟩) R s := by
  have mS : S ∈ q.cs := by rw [hcs]; exact List.mem_cons_of_mem _ (List.mem_singleton.mpr rfl)
  -- what a step does
  have step : ∀ {s₁ ys σ H} {m : Int} {h' : Heap} {tk : Nat} {ns : List Int} {t' : Tok} {c' : Nat}, Inv Y [] σ H s₁ → CsOk Y q.cs H s₁ → s₁.heap.IsGen a g → ys = ns.map V.int → (∀ b o, b ≠ S → s₁.heap.get? b = some o → h'.get? b = some o) → h'.get? S = some (lstObj #[.int (ns.sum + m) t'] c') →
      Doze q.cs s₁ { s₁ with heap := h', toks := tk } ∧ q.Cs (ys ++ [.int m]) h' ∧ h'.IsGen a g := fun {s₁ ys σ H m h' tk ns t' c'} I hc ig hys keep self => by
    have ig' : h'.IsGen a g := by
      obtain ⟨o, nm, qn, ho, rr⟩ := ig
      exact ⟨o, nm, qn, keep a o (Ne.symm hSa) ho, rr⟩
    refine ⟨⟨rfl, I.bare, fun b o hb e => keep b o (fun z => hb (z ▸ mS)) e, fun b hb => ?_⟩, ?_, ig'⟩
    · by_cases hbS : b = S
      · subst hbS
        exact ⟨_, self, fun v z => by cases z⟩
      · obtain ⟨o, e1, nd⟩ := (hc b hb).2
        exact ⟨o, keep b o hbS e1, nd⟩
    · rw [hC]
      refine ⟨ig', ns ++ [m], t', c', by rw [hys, List.map_append]; rfl, ?_⟩
      rw [self, List.sum_append]
      simp
  have upd1 : ∀ {h : Heap} {f : Obj → Obj} (b : Addr) (o : Obj), b ≠ S → h.get? b = some o → (h.update S f).get? b = some o := fun b o hb e => (Heap.get?_update_other _ _ (Ne.symm hb)).trans e
  have same : ∀ {ns ns0 : List Int} {t t0 : Tok} {c c0 : Nat} {h : Heap}, h.get? S = some (lstObj #[.int ns.sum t] c) → h.get? S = some (lstObj #[.int ns0.sum t0] c0) → ns.sum = ns0.sum := fun e1 e2 => by
    rw [e1] at e2
    simpa using congrArg (fun o => match o with | some o => o.data | none => .plain) e2 |> fun z => by injection z with z _; simp at z; exact z.1
  intro n
  induction n with
  | zero =>
    intro s st hst hl hg hS z
    obtain ⟨ns0, t0, c0, hS⟩ := hS
    refine codeAny_builtin F.entry_sum_loop ?_
    rw [Around.under_plainId F.plain_sum_loop _]
    show wpAny _ A.in1 (seqItems? (.ref S) >>= _) _ _ s
    refine wpAny_bind (wpAny_seqItems hS rfl ?_)
    show wpAny _ A.in1 (tryCatch (pyNext (.ref a)) _ >>= _) _ _ s
    refine wpAny_bind (wpAny_tryCatch (next_ok (A := A.in1) hY hw hh hroom hl hg z (fun v s₁ ys y σ H r I hf hc hCs yo ks wake => ?_) (fun s₁ ys σ H I hf hc hCs fin ks h' hk => ?_)))
    · obtain ⟨⟨m, rfl⟩, rs⟩ := hT ys y H yo
      obtain ⟨t, rfl⟩ : ∃ t, v = .int m t := r
      have hS1 := ks S mS _ hS
      rw [hC] at hCs
      obtain ⟨ig, ns, t2, c2, rfl, e⟩ := hCs
      have eq := same e hS1
      have go : ∀ (h' : Heap) (tk : Nat) (t' : Tok) (c' : Nat) (st' : Int), (st' = 0 ∨ st' = 2) → (∀ b o, b ≠ S → s₁.heap.get? b = some o → h'.get? b = some o) → h'.get? S = some (lstObj #[.int (ns0.sum + m) t'] c') →
          codeAny (model P w) A (.builtin "sum.loop" ⟨[.ref a, .ref S, rawInt st', rawInt 0], []⟩) R { s₁ with heap := h', toks := tk } := fun h' tk t' c' st' hst' keep self => by
        rw [← eq] at self
        obtain ⟨dz, cs', ig'⟩ := step (tk := tk) I hc ig rfl keep self
        obtain ⟨k, em, z'⟩ := wake _ dz rfl rs cs'
        cases em
      rcases hst with rfl | rfl
      · show wpAny _ A.in1 (if (_ : Bool) = true then (mkInt (ns0.sum + m) >>= _) else _) _ _ _
        split
        · refine wpAny_bind (wpAny_mkInt ?_)
          show wpAny _ A.in1 (updateSeq S (fun _ => #[.int (ns0.sum + m) s₁.toks]) >>= _) _ _ _
          refine wpAny_bind ?_
          exact wpAny_updateSeq hS1 rfl (wpAny_pure ⟨plainId_quiet F.plain_sum_loop _, go _ _ s₁.toks _ 0 (.inl rfl) (fun b o hb e => upd1 b o hb e) (Heap.get?_update_self _ hS1 rfl)⟩)
        · refine wpAny_bind (wpAny_rule ?_)
          refine wpAny_bind (wpAny_attempt (wpAny_holding (wpAny_add_int ?_)))
          show wpAny _ A.in1 (updateSeq S (fun _ => #[.int (ns0.sum + m) s₁.toks]) >>= _) _ _ _
          refine wpAny_bind (wpAny_updateSeq hS1 rfl ?_)
          have hS₂ := Heap.get?_update_self (Obj.mapSeq fun _ => #[Value.int (ns0.sum + m) s₁.toks]) hS1 rfl
          refine wpAny_bind (wpAny_letGo ?_)
          exact wpAny_bind (wpAny_updateSeq hS₂ rfl (wpAny_pure ⟨plainId_quiet F.plain_sum_loop _, go _ _ s₁.toks _ 2 (.inr rfl) (fun b o hb e => upd1 b o hb (upd1 b o hb e)) (Heap.get?_update_self _ hS₂ rfl)⟩))
      · show wpAny _ A.in1 ((holding [Value.int m t] (binaryOp .Add (.int ns0.sum t0) (.int m t))).attempt >>= _) _ _ _
        refine wpAny_bind (wpAny_attempt (wpAny_holding (wpAny_add_int ?_)))
        show wpAny _ A.in1 (updateSeq S (fun _ => #[.int (ns0.sum + m) s₁.toks]) >>= _) _ _ _
        refine wpAny_bind (wpAny_updateSeq hS1 rfl ?_)
        have hS₂ := Heap.get?_update_self (Obj.mapSeq fun _ => #[Value.int (ns0.sum + m) s₁.toks]) hS1 rfl
        refine wpAny_bind (wpAny_letGo ?_)
        exact wpAny_bind (wpAny_updateSeq hS₂ rfl (wpAny_pure ⟨plainId_quiet F.plain_sum_loop _, go _ _ s₁.toks _ 2 (.inr rfl) (fun b o hb e => upd1 b o hb (upd1 b o hb e)) (Heap.get?_update_self _ hS₂ rfl)⟩))
    · have hS1 := ks S mS _ hS
      rw [hC] at hCs
      obtain ⟨_, ns, t, c, rfl, e⟩ := hCs
      have eq := same e hS1
      rw [← eq]
      exact wpAny_pure (hF ns σ H _ t0 (I.un (t' := s₁.toks) (Un.kept hk) (I.hok.kept hk)) fin)
  | succ n ih =>
    intro s st hst hl hg hS z
    obtain ⟨ns0, t0, c0, hS⟩ := hS
    refine codeAny_builtin F.entry_sum_loop ?_
    rw [Around.under_plainId F.plain_sum_loop _]
    show wpAny _ A.in1 (seqItems? (.ref S) >>= _) _ _ s
    refine wpAny_bind (wpAny_seqItems hS rfl ?_)
    show wpAny _ A.in1 (tryCatch (pyNext (.ref a)) _ >>= _) _ _ s
    refine wpAny_bind (wpAny_tryCatch (next_ok (A := A.in1) hY hw hh hroom hl hg z (fun v s₁ ys y σ H r I hf hc hCs yo ks wake => ?_) (fun s₁ ys σ H I hf hc hCs fin ks h' hk => ?_)))
    · obtain ⟨⟨m, rfl⟩, rs⟩ := hT ys y H yo
      obtain ⟨t, rfl⟩ : ∃ t, v = .int m t := r
      have hS1 := ks S mS _ hS
      rw [hC] at hCs
      obtain ⟨ig, ns, t2, c2, rfl, e⟩ := hCs
      have eq := same e hS1
      have go : ∀ (h' : Heap) (tk : Nat) (t' : Tok) (c' : Nat) (st' : Int), (st' = 0 ∨ st' = 2) → (∀ b o, b ≠ S → s₁.heap.get? b = some o → h'.get? b = some o) → h'.get? S = some (lstObj #[.int (ns0.sum + m) t'] c') →
          codeAny (model P w) A (.builtin "sum.loop" ⟨[.ref a, .ref S, rawInt st', rawInt 0], []⟩) R { s₁ with heap := h', toks := tk } := fun h' tk t' c' st' hst' keep self => by
        rw [← eq] at self
        obtain ⟨dz, cs', ig'⟩ := step (tk := tk) I hc ig rfl keep self
        obtain ⟨k, em, z'⟩ := wake _ dz rfl rs cs'
        cases em
        exact ih _ st' hst' (dozed I hc dz).1.nolimit ig' ⟨ns ++ [m], t', c', by rw [self, List.sum_append]; simp⟩ z'
      rcases hst with rfl | rfl
      · show wpAny _ A.in1 (if (_ : Bool) = true then (mkInt (ns0.sum + m) >>= _) else _) _ _ _
        split
        · refine wpAny_bind (wpAny_mkInt ?_)
          show wpAny _ A.in1 (updateSeq S (fun _ => #[.int (ns0.sum + m) s₁.toks]) >>= _) _ _ _
          refine wpAny_bind ?_
          exact wpAny_updateSeq hS1 rfl (wpAny_pure ⟨plainId_quiet F.plain_sum_loop _, go _ _ s₁.toks _ 0 (.inl rfl) (fun b o hb e => upd1 b o hb e) (Heap.get?_update_self _ hS1 rfl)⟩)
        · refine wpAny_bind (wpAny_rule ?_)
          refine wpAny_bind (wpAny_attempt (wpAny_holding (wpAny_add_int ?_)))
          show wpAny _ A.in1 (updateSeq S (fun _ => #[.int (ns0.sum + m) s₁.toks]) >>= _) _ _ _
          refine wpAny_bind (wpAny_updateSeq hS1 rfl ?_)
          have hS₂ := Heap.get?_update_self (Obj.mapSeq fun _ => #[Value.int (ns0.sum + m) s₁.toks]) hS1 rfl
          refine wpAny_bind (wpAny_letGo ?_)
          exact wpAny_bind (wpAny_updateSeq hS₂ rfl (wpAny_pure ⟨plainId_quiet F.plain_sum_loop _, go _ _ s₁.toks _ 2 (.inr rfl) (fun b o hb e => upd1 b o hb (upd1 b o hb e)) (Heap.get?_update_self _ hS₂ rfl)⟩))
      · show wpAny _ A.in1 ((holding [Value.int m t] (binaryOp .Add (.int ns0.sum t0) (.int m t))).attempt >>= _) _ _ _
        refine wpAny_bind (wpAny_attempt (wpAny_holding (wpAny_add_int ?_)))
        show wpAny _ A.in1 (updateSeq S (fun _ => #[.int (ns0.sum + m) s₁.toks]) >>= _) _ _ _
        refine wpAny_bind (wpAny_updateSeq hS1 rfl ?_)
        have hS₂ := Heap.get?_update_self (Obj.mapSeq fun _ => #[Value.int (ns0.sum + m) s₁.toks]) hS1 rfl
        refine wpAny_bind (wpAny_letGo ?_)
        exact wpAny_bind (wpAny_updateSeq hS₂ rfl (wpAny_pure ⟨plainId_quiet F.plain_sum_loop _, go _ _ s₁.toks _ 2 (.inr rfl) (fun b o hb e => upd1 b o hb (upd1 b o hb e)) (Heap.get?_update_self _ hS₂ rfl)⟩))
    · have hS1 := ks S mS _ hS
      rw [hC] at hCs
      obtain ⟨_, ns, t, c, rfl, e⟩ := hCs
      have eq := same e hS1
      rw [← eq]
      exact wpAny_pure (hF ns σ H _ t0 (I.un (t' := s₁.toks) (Un.kept hk) (I.hok.kept hk)) fin)
end

/-- sum(elt for target in iter if ..) -/
def tSumG (P : Addr) (wi : TI) (g : TG) (tt : TT) (te : TE) (vs : List Nat) : TE := fun σ H Q => wi σ H fun J H1 => TabG H1 P ∧ ∀ H2, Tabbed P H1 H2 → ∃ (N : Nat) (W : Nat → List V → Hp → Prop), W 0 [] H2 ∧ ∀ i ys H, W i ys H →
  (J.stop i H ∧ ∀ ns : List Int, ys = ns.map V.int → Q (.int ns.sum) H) ∨ (J.go i H ∧ i < N ∧ ∀ x H', J.yld i H x H' → g x (wipe σ vs) H' fun σ2 H3 => wipe σ2 vs = wipe σ vs ∧ tt σ2 H3 fun b H4 =>
    if b = true then te σ2 H4 fun y H5 => (∃ m, y = .int m) ∧ (True → W (i + 1) (ys ++ [y]) H5) else W (i + 1) ys H4)
section
variable {X : Cx} {k : Nat} {c P : Addr} {tg elt iter : Expr} {ifs : List Expr} {p pos gpos : Pos} {scope : Scope} {own : List (Str × Nat)} {wi : TI} {g : TG} {tt : TT} {te : TE}
theorem pe_sumG (hr : Room k X.A) (hc : X.calm = true) (hN : X.N.Nodup) (hgl : Gl X "sum") (hm : X.mg "sum" = none) (hb : bootBuiltins "sum" = some (.builtin "sum")) (TB : TabB X.base X.mg c P) (hcode : X.env.code = .ref c)
    (S : GSc X.N X.env.scope scope own) (hi : PI X tg iter wi) (hp : Parts X scope tg elt ifs g tt te) (hs : ∀ v, genFold iter X.env v = pure v)
    (he : starEach [.GeneratorExp elt [⟨tg, iter, ifs, 0⟩] scope gpos] X.env = (false, eval (.GeneratorExp elt [⟨tg, iter, ifs, 0⟩] scope gpos) X.env) :: starEach [] X.env := by rfl) :
    PE X (.Call (.Name "sum" p) [.GeneratorExp elt [⟨tg, iter, ifs, 0⟩] scope gpos] [] pos) (tSumG P wi g tt te (own.map (·.2))) := by
  refine ⟨fun pins s σ H Q I h => ?_⟩
  refine wpAny_Call_Name_kw (ld_blt I hgl hm hb ?_)
  refine PyProof.Rows.callWith_builtin1 ?_ he (by rfl)
  rw [he]
  show wpAny _ _ (spliced ((false, eval (.GeneratorExp elt [⟨tg, iter, ifs, 0⟩] scope gpos) X.env) :: backTo pos (starEach [] X.env))) _ _ s
  refine Calls.spliced_cons (gen_made hr hN TB hcode S hi hs I h fun J H1 a gn genv sb s5 H2 it fp tn hR M => ?_)
  refine Calls.spliced_nil ?_
  obtain ⟨N, W, w0, turn⟩ := hR H2 M.tab
  have hsc : genv.scope = scope := by rw [M.env]; rfl
  have fr : X.A.frames = some X.stack := I.ok.frames
  obtain ⟨pg, pt, pe⟩ := hp sb H2 genv fp (X.A.in1.in1.over (.compLoop (.GeneratorExp elt [⟨tg, iter, ifs, 0⟩] scope gpos) 0 (.ref it) .none genv) []) hsc (I.ok.hd hc) (by show X.A.depth + 0 + 1 ≤ _; omega) (by show X.A.units + 1 + 1 + 0 + 3 ≤ _; omega)
  let q : Ask := { N := N, W := W, YO := fun _ y _ => ∃ m, y = .int m, RS := fun _ _ => True, Fin := fun ys H => ∀ ns : List Int, ys = ns.map V.int → Q (.int ns.sum) H, cs := [a, s5.heap.objs.size], Cs := CsS a gn s5.heap.objs.size }
  have hq : q.Stable := fun ys h h' hh k => by
    obtain ⟨⟨o, nm, qn, ho, r⟩, ns, t, c, hys, e⟩ := hh
    exact ⟨⟨o, nm, qn, k a List.mem_cons_self o ho, r⟩, ns, t, c, hys, k _ (List.mem_cons_of_mem _ (List.mem_singleton.mpr rfl)) _ e⟩
  have tu : Turns q J g tt te (wipe σ (own.map (·.2))) (own.map (·.2)) := fun i ys H w => turn i ys H w
  have hSa : s5.heap.objs.size ≠ a := Nat.ne_of_gt M.alt
  refine call_function_tree F.kind_sum F.plain_sum F.entry_sum (F.args_sum1 _) ?_
  unfold Builtin.«sum»
  simp only [List.length_cons, List.length_nil]
  rw [if_neg (by decide)]
  refine wpAny_bind (wpAny_of_eq (show Builtin.Builtins.bindParams "sum" ["start"] 0 { } = pure [none] from rfl) ?_)
  refine wpAny_bind (wpAny_pyIter_gen M.gen ?_)
  refine wpAny_bind (wpAny_mkInt ?_)
  refine wpAny_bind (wpAny_pure ?_)
  simp only [List.forIn_cons, List.forIn_nil]
  refine wpAny_bind (wpAny_bind (wpAny_bind (wpAny_isInstance (T := "int") (b := false) (typeIs_int _ _ _) PySem.sub_int_str ?_)))
  simp only [Bool.false_eq_true, if_false]
  refine wpAny_pure (wpAny_bind (wpAny_bind (wpAny_isInstance (T := "int") (b := false) (typeIs_int _ _ _) PySem.sub_int_bytes ?_)))
  simp only [Bool.false_eq_true, if_false]
  refine wpAny_pure (wpAny_bind (wpAny_bind (wpAny_isInstance (T := "int") (b := false) (typeIs_int _ _ _) PySem.sub_int_bytearray ?_)))
  simp only [Bool.false_eq_true, if_false]
  refine wpAny_pure (wpAny_pure ?_)
  refine wpAny_bind (wpAny_newObj_type ?_)
  have kp : ∀ (ob : Obj) b o, s5.heap.get? b = some o → (s5.heap.push ob).get? b = some o := fun _ b o e => Heap.get?_push_of_some _ e
  refine wpAny_pure ⟨plainId_quiet F.plain_sum_loop _, sum_loop (P := X.prog) (w := X.w) (q := q) (Y := gblk X sb H2 genv fp (X.A.in1.in1.over (.compLoop (.GeneratorExp elt [⟨tg, iter, ifs, 0⟩] scope gpos) 0 (.ref it) .none genv) [])) (fp := fp) rfl rfl (I.ok.hd hc)
    (by have := hr.dp; show X.A.depth < _; omega) hSa rfl rfl (fun ys y H h => ⟨h, trivial⟩) (fun ns σ' H' s' t I' fin => ?_) q.N _ 0 (.inl rfl) (M.lim.keeps (kp _)) (M.gen.keeps (kp _)) ⟨[], _, _, Heap.get?_push_size _ rfl⟩ ?_⟩
  · exact ⟨.int ns.sum, H', M.back I', ⟨t, rfl⟩, fin ns rfl⟩
  · obtain ⟨o, nm, qn, ho2, hc', hd', hsl⟩ := M.gen
    refine asleep0 (q := q) M hc S.co (A := X.A.in1.in1) (I.ok.hd hc) fr pg pt pe hq tu rfl rfl (kp _) (fun d hd => ?_) ⟨M.gen.keeps (kp _), [], _, _, rfl, Heap.get?_push_size _ rfl⟩ w0
    rcases List.mem_cons.mp hd with e | hd
    · subst e
      exact ⟨.inl rfl, o, kp _ _ o ho2, fun v z => by rw [hd'] at z; cases z⟩
    · have e := List.mem_singleton.mp hd
      subst e
      exact ⟨.inr (Nat.le_refl _), _, Heap.get?_push_size _ rfl, fun v z => by cases z⟩
end
end GX

end
section
set_option Elab.async false
set_option linter.all false
set_option maxRecDepth 100000
set_option maxHeartbeats 4000000
set_option autoImplicit false
/-! enumerate of a tuple -/
namespace EnT
open PySem PySem.Spec PyProof.Rows L2
theorem new1 {v : Value} {ob : Obj} {Hh : Heap → Prop} (B : Begins v ob Hh) : Meets (Builtin.«enumerate.__new__» ⟨[.type "enumerate", v], []⟩) (fun _ R s => Hh s.heap ∧
    R (.ok (.ret (.ref (s.heap.push ob).objs.size))) { s with heap := (s.heap.push ob).push { cls := .type "enumerate", data := .fields #[.none, .bool false, .ref s.heap.objs.size, rawInt 0, .none, .none] } }) :=
  .of_wp fun pr wl Ar R s hs => by
    obtain ⟨h0, g0, d0, t0, o0⟩ := s
    obtain ⟨h1, hR⟩ := hs
    have hsb := sub_enumerate
    have pit : ∀ {A' : Around} {E' : Value → Shared → Prop} {Q' : Value → Shared → Prop}, Q' (.ref h0.objs.size) ⟨h0.push ob, g0, d0, t0, o0⟩ → wpAny (model pr wl) A' (pyIter v) Q' E' ⟨h0, g0, d0, t0, o0⟩ :=
      fun q => B.iter pr wl _ _ ⟨h0, g0, d0, t0, o0⟩ _ h1 q
    wp_walk using pit
    refine wpAny_stack_any fun _ => wpAny_pure ?_
    split
    · rename_i cl _ _ _ _ _
      cases (cl == Value.type "enumerate") <;> (wp_walk using pit; exact ⟨_, rfl, hR⟩)
    · (wp_walk using pit; exact ⟨_, rfl, hR⟩)
section
variable {P : Program} {w : World} {A : Around} {Ex : Value → Shared → Prop} {s : Shared}
theorem call1 {v : Value} {ob : Obj} {Hh : Heap → Prop} {Q : Value → Shared → Prop} (B : Begins v ob Hh) (h1 : Hh s.heap)
    (k : ∀ h2, IsEnum h2 (s.heap.objs.size + 1) s.heap.objs.size 0 .none → h2.get? s.heap.objs.size = some ob → (∀ b o, s.heap.get? b = some o → h2.get? b = some o) → Q (.ref (s.heap.objs.size + 1)) { s with heap := h2 }) :
    wpAny (model P w) A (call (.type "enumerate") [v]) Q Ex s := by
  refine callType_new F.called_enumerate (by decide) (F.typeCall_enumerate_1 _) (F.newCall_enumerate_1 _) (fun ob' => F.args_object_init_2 ob' _) F.entry_enumerate_new (new1 B) ⟨h1, ?_⟩
  have sz : (s.heap.push ob).objs.size = s.heap.objs.size + 1 := Heap.size_push ..
  show _ ∧ _
  rw [sz]
  have en : IsEnum ((s.heap.push ob).push { cls := .type "enumerate", data := .fields #[.none, .bool false, .ref s.heap.objs.size, rawInt 0, .none, .none] }) (s.heap.objs.size + 1) s.heap.objs.size 0 .none := by
    have e0 := Heap.get?_push_size (s.heap.push ob) (o := { cls := .type "enumerate", data := .fields #[.none, .bool false, .ref s.heap.objs.size, rawInt 0, .none, .none] }) rfl
    rw [sz] at e0
    exact e0
  exact ⟨⟨_, en, rfl⟩, k _ en (Heap.get?_push_of_some _ (Heap.get?_push_size _ B.free)) fun b o q => Heap.get?_push_of_some _ (Heap.get?_push_of_some _ q)⟩
end
/-- the pairs of the tuple at a -/
def IteT (K : PySem.W.Frag) (a : Addr) : It :=
  ⟨fun i H => ∃ (xs : List V) (x : V), SqT K H a xs ∧ xs[i]? = some x, fun i H v H' => ∃ T x ho, v = .ref T ∧ H T = none ∧ TupHO ho [.int (i : Nat), x] ∧ H' = upd H T ho ∧ ∀ xs, SqT K H a xs → xs[i]? = some x, fun i H => ∃ xs : List V, SqT K H a xs ∧ xs.length ≤ i⟩
theorem turn_en {P : Program} {w : World} {K : PySem.W.Frag} {elts : List Expr} {kk : Nat} {tpos : Pos} (a e it : Addr) :
    Turn P w K (.Tuple elts kk tpos) (IteT K a) [e, it] e (fun i h => (∃ old, IsEnum h e it ((i : Nat) : Int) old) ∧ h.IsTupleIter it a i ∧ e ≠ it) where
  mem := List.mem_cons_self
  obj := fun i h st b hb => by
    obtain ⟨⟨old, he⟩, ⟨o, ho, hc, hd⟩, _⟩ := st
    rcases (show b = e ∨ b = it by simpa using hb) with rfl | rfl
    · exact ⟨_, he, fun v q => nomatch q⟩
    · exact ⟨o, ho, fun v q => by rw [hd] at q; cases q⟩
  keep := fun i h h' st k => by
    obtain ⟨⟨old, he⟩, hi, hne⟩ := st
    exact ⟨⟨old, k e (by simp) _ he⟩, hi.at fun o q => k it (by simp) o q, hne⟩
  item := by
    intro X hP hw hK hc i pins s σ H E I hf st hg
    subst hP hw hK
    obtain ⟨⟨old, he⟩, hit, hne⟩ := st
    obtain ⟨xs, x, hq, hx⟩ := hg
    obtain ⟨its, rv, p, hz⟩ := I.tuple hq
    obtain ⟨u, hu, ru⟩ := rv.get hx
    have szE : e < s.heap.objs.size := Heap.lt_size he
    have szI : it < s.heap.objs.size := by obtain ⟨_, q, _⟩ := hit; exact Heap.lt_size q
    have tp : s.heap.IsTuple a its.toArray := p
    have nI : a ≠ it := fun z => by
      obtain ⟨o1, q1, q2, _⟩ := hit
      obtain ⟨o2, q3, q4, _⟩ := tp
      rw [z, q1] at q3
      cases q3
      rw [q2] at q4
      simp at q4
    have nE : e ≠ a := fun z => by
      obtain ⟨o2, q3, q4, _⟩ := tp
      rw [← z, he] at q3
      cases q3
      simp at q4
    have D := Draws.tuple (prog := X.prog) (w := X.w) (A := X.A.in1) (I.ok.hd hc) it a nI its.toArray
    have hil : i < its.toArray.size := by
      have := (List.getElem?_eq_some_iff.mp hu).1
      simpa using this
    refine wpAny_pyNext_enum_itemD D he ⟨hit, tp⟩ hil hne (by simp [hne, nE]) fun y h1 tk hy ho hst hT hsz hk => ?_
    have ey : y = u := by
      have e1 : its.toArray[i]? = some u := by simpa using hu
      rw [e1] at hy
      exact (Option.some.inj hy).symm
    subst ey
    refine ⟨_, rfl, wpAny_letOwnedTupleGo_enum (s := { s with heap := h1, toks := tk + 1 }) ho fun h2 he2 sb => ?_⟩
    have hT2 : h2.get? s.heap.objs.size = some { cls := .type "tuple", data := .seq #[.int i tk, y] } := (sb.2 _ (Nat.ne_of_gt szE)).trans hT
    have new : ∀ H2, ObjOk X.prog X.w H2 h2 s.heap.objs.size (tHO { cls := .type "tuple", data := .seq #[.int i tk, y] } [.int (i : Nat), x]) := fun H2 =>
      tHO_ok (its := [.int i tk, y]) (n := 0) (by show 2 ≤ sizeLine; decide) (.cons ⟨_, rfl⟩ (.cons ru .nil)) hT2 rfl rfl
    have I1 : Inv X pins σ (upd H s.heap.objs.size (tHO { cls := .type "tuple", data := .seq #[.int i tk, y] } [.int (i : Nat), x])) { s with heap := h2, toks := tk + 1 } :=
      I.turnedNew (ch := [e, it]) (fun b ob hb q => (sb.2 b (fun z => hb (by simp [z]))).trans (hk b ob (fun z => hb (by simp [z])) (fun z => hb (by simp [z])) q)) hf (Nat.le_refl _) (new _)
    refine ⟨.ref s.heap.objs.size, _, I1, rfl, ⟨_, x, _, rfl, I.hok.fresh (Nat.le_refl _), tHO_is rfl rfl, rfl, fun ys hy' => by rw [I.tuple_inj hy' hq]; exact hx⟩, ⟨⟨y, ?_⟩, hst.1.at fun o q => (sb.2 it (Ne.symm hne)).trans q, hne⟩, fun b hb => ?_⟩
    · rw [show ((i + 1 : Nat) : Int) = (i : Int) + 1 by omega]
      exact he2
    · have lt : b < s.heap.objs.size := by
        rcases (show b = e ∨ b = it by simpa using hb) with z | z
        · rw [z]; exact szE
        · rw [z]; exact szI
      rw [upd_ne (Nat.ne_of_lt lt)]
      exact (hf b hb).1
  done := by
    intro X hP hw hK hc i pins s σ H E I hf st hg
    subst hP hw hK
    obtain ⟨⟨old, he⟩, hit, hne⟩ := st
    obtain ⟨xs, hq, hx⟩ := hg
    obtain ⟨its, rv, p, hz⟩ := I.tuple hq
    obtain ⟨f0, f1, f2, f3, f4, f5⟩ := hf it (by simp)
    have hl := rv.length
    have tp : s.heap.IsTuple a its.toArray := p
    have nI : a ≠ it := fun z => by
      obtain ⟨o1, q1, q2, _⟩ := hit
      obtain ⟨o2, q3, q4, _⟩ := tp
      rw [z, q1] at q3
      cases q3
      rw [q2] at q4
      simp at q4
    unfold pyNext
    have hTy : s.TypeIs (.ref e) "enumerate" := ⟨_, he, rfl⟩
    refine wpAny_bind (wpAny_attempt (wpAny_callSpecial?_slot (name := Str.ofString "__next__") hTy F.slot_enumerate_next
      (wpAny_call_entry F.slot_enumerate_next hTy F.entry_enumerate_next ?_ (F.args_enumerate_next_1 _))))
    show wpAny _ _ (field (.ref e) 2 >>= _) _ _ _
    refine wpAny_bind (wpAny_field he rfl (x := .ref it) rfl ?_)
    refine wpAny_bind (wpAny_nextOf_tuple_end (I.ok.hd hc) hit tp (by simp; omega) fun h1 x1 he1 hx1 => ?_)
    obtain ⟨o, ho, hcl⟩ := hx1
    refine wpAny_bind (wpAny_isInstance (T := "StopIteration") (b := true) ⟨o, ho, hcl⟩ isSubtype_stop ?_)
    exact wpAny_pure ⟨rfl, I.turned (t' := s.toks) (fun b o hb q => he1 b o hb q) f0 f1 f3 f4 f5⟩
  self := fun A i s Q E st h => let ⟨⟨_, he⟩, _⟩ := st; wpAny_pyIter_enum he h
/-- enumerate(x), x a list or a tuple -/
def iEn (K : PySem.W.Frag) (te : TE) : TI := fun σ H R => te σ H fun v H1 => ∃ (a : Addr) (xs : List V), v = .ref a ∧ ((SqL K H1 a xs ∧ R (Ite K a) H1) ∨ (SqT K H1 a xs ∧ R (IteT K a) H1))
theorem pi_en {X : Cx} {e : Expr} {te : TE} {p pos tpos : Pos} {elts : List Expr} {kk : Nat} (hg : Gl X "enumerate") (hm : X.mg "enumerate" = none) (he : PE X e te) (hs : starEach [e] X.env = (false, eval e X.env) :: starEach [] X.env := by rfl) :
    PI X (.Tuple elts kk tpos) (.Call (.Name "enumerate" p) [e] [] pos) (iEn X.K te) := by
  refine ⟨fun pins s σ H R I h => ?_⟩
  refine Call_ (ld_blt I hg hm boot_enumerate (PyProof.Rows.callWith_type1 (args_cons (thn (he.run pins s σ H _ I h) fun u s1 ⟨v, H1, I1, r1, q1⟩ => args_nil ?_) hs) hs rfl))
  obtain ⟨a, xs, ev, q⟩ := q1
  subst ev
  obtain rfl : u = Value.ref a := r1
  have fresh2 : ∀ b, b ∈ [s1.heap.objs.size + 1, s1.heap.objs.size] → FpOk X pins H1 b := fun b hb => by
    have le : s1.heap.objs.size ≤ b := by
      rcases (show b = s1.heap.objs.size + 1 ∨ b = s1.heap.objs.size by simpa using hb) with z | z <;> omega
    exact I1.fpOk le (I1.hok.fresh le)
  rcases q with ⟨hq, q⟩ | ⟨hq, q⟩
  · obtain ⟨its, rv, p1, hz⟩ := I1.list hq
    refine call1 (begins_list a its.toArray) p1.isList fun h2 en it2 hk => wpAny_pyIter_enum en ?_
    have I2 : Inv X pins σ H1 { s1 with heap := h2 } := I1.kept (t' := s1.toks) hk
    exact ⟨s1.heap.objs.size + 1, [s1.heap.objs.size + 1, s1.heap.objs.size], _, _, H1, rfl, I2, turn_enum a (s1.heap.objs.size + 1) s1.heap.objs.size, ⟨⟨.none, en⟩, ⟨_, it2, rfl, rfl⟩, Nat.succ_ne_self _⟩, fresh2, q⟩
  · obtain ⟨its, rv, p1, hz⟩ := I1.tuple hq
    refine call1 (begins_tuple a its.toArray) (show s1.heap.IsTuple a its.toArray from p1) fun h2 en it2 hk => wpAny_pyIter_enum en ?_
    have I2 : Inv X pins σ H1 { s1 with heap := h2 } := I1.kept (t' := s1.toks) hk
    exact ⟨s1.heap.objs.size + 1, [s1.heap.objs.size + 1, s1.heap.objs.size], _, _, H1, rfl, I2, turn_en a (s1.heap.objs.size + 1) s1.heap.objs.size, ⟨⟨.none, en⟩, ⟨_, it2, rfl, rfl⟩, Nat.succ_ne_self _⟩, fresh2, q⟩
end EnT

end
section
set_option Elab.async false
set_option linter.all false
set_option maxRecDepth 100000
set_option maxHeartbeats 4000000
set_option autoImplicit false
/-! tuple * int, any int -/
namespace TM
open PySem PySem.Spec PyProof.Rows L2
theorem mul_same (l : Addr) (its : Array Value) (n : Nat) (dd : Option Addr) (sl : Array (Option Value)) (x : Int) (u : Tok) (h0 : (decide (x < -(2 ^ 63)) || decide (x ≥ 2 ^ 63)) = false) (h1 : (its.isEmpty || x == 1) = true) :
    Meets (Builtin.«tuple.__mul__» ⟨[.ref l, .int x u], []⟩) (fun _ R s => s.heap.get? l = some { cls := .type "tuple", dict := dd, data := .seq its n, slots := sl } ∧ R (.ok (.ret (.ref l))) s) :=
  .of_wp fun pr wl Ar R s hh => by
    obtain ⟨h9, g, d, tk, os⟩ := s
    obtain ⟨hl, hr⟩ := hh
    have f1 := AutoSeq1.idx_int
    wp_walk using wpAny_loadPart' hl
    repeat (first
      | (refine wpAny_ite_false (decide_eq_false (by rw [h0]; exact Bool.false_ne_true)) ?_; wp_walk using wpAny_loadPart' hl)
      | (refine wpAny_ite_true (decide_eq_true h1) ?_; wp_walk using wpAny_loadPart' hl))
    exact ⟨_, rfl, hr⟩
theorem mul_none (l : Addr) (its : Array Value) (n : Nat) (dd : Option Addr) (sl : Array (Option Value)) (x : Int) (u : Tok) (h0 : (decide (x < -(2 ^ 63)) || decide (x ≥ 2 ^ 63)) = false) (h1 : (its.isEmpty || x == 1) = false) (h2 : (decide (x ≤ 0) || its.isEmpty) = true) :
    Meets (Builtin.«tuple.__mul__» ⟨[.ref l, .int x u], []⟩) (fun _ R s => s.heap.get? l = some { cls := .type "tuple", dict := dd, data := .seq its n, slots := sl } ∧
      R (.ok (.ret (.ref s.heap.objs.size))) { s with heap := s.heap.push { cls := .type "tuple", data := .seq #[] } }) :=
  .of_wp fun pr wl Ar R s hh => by
    obtain ⟨h9, g, d, tk, os⟩ := s
    obtain ⟨hl, hr⟩ := hh
    have f1 := AutoSeq1.idx_int
    wp_walk using wpAny_loadPart' hl
    repeat (first
      | (refine wpAny_ite_false (decide_eq_false (by rw [h0]; exact Bool.false_ne_true)) ?_; wp_walk using wpAny_loadPart' hl)
      | (refine wpAny_ite_false (decide_eq_false (by rw [h1]; exact Bool.false_ne_true)) ?_; wp_walk using wpAny_loadPart' hl)
      | (refine wpAny_ite_true (decide_eq_true h2) ?_; wp_walk using wpAny_loadPart' hl))
    exact ⟨_, rfl, hr⟩
def rRepA (K : PySem.W.Frag) : R2 := fun x y H Q => ∃ l k xs, x = .ref l ∧ y = .int k ∧ SqT K H l xs ∧ -1000 ≤ k ∧ k ≤ 1000 ∧ xs.length ≤ 1000 ∧ (xs = [] ∨ k = 1 → Q (.ref l) H) ∧ TQ H (List.replicate k.toNat xs).flatten Q
section
variable {X : Cx}
theorem op_repA : OpR X (binaryOp .Mult) (rRepA X.K) := by
  intro pins s σ H x y v u Q I rx ry h
  obtain ⟨l, k, xs, rfl, rfl, hT, hk0, hk1, hz, q1, q2⟩ := h
  cases rx
  obtain ⟨t, rfl⟩ := ry
  obtain ⟨its, r, ⟨⟨cls, dd, data, sl⟩, ho, hc, n, hd⟩, hs⟩ := I.tuple hT
  simp only at hc hd
  subst hc hd
  have hle : its.length = xs.length := r.length.symm
  have c0 : (decide (k < -(2 ^ 63)) || decide (k ≥ 2 ^ 63)) = false := by
    rw [decide_eq_false (by omega), decide_eq_false (by omega)] <;> rfl
  have hem : its.toArray.isEmpty = decide (xs = []) := by
    cases its with
    | nil => rw [List.eq_nil_of_length_eq_zero (l := xs) (by simpa using hle.symm)]; rfl
    | cons a b => cases xs with
      | nil => simp at hle
      | cons c d => rfl
  by_cases hs1 : xs = [] ∨ k = 1
  · have c1 : (its.toArray.isEmpty || k == 1) = true := by
      rw [hem]
      rcases hs1 with h | h
      · rw [decide_eq_true h]; rfl
      · rw [h]; simp
    refine wpAny_binaryOp_repeat_ref (T := "tuple") (U := "int") (by decide) ⟨_, ho, rfl⟩ (fun s' => typeIs_int s' k t) noFill_tuple_mul F.fills_int_mul F.slot_int_rmul repeat_tuple F.slot_int_index.lookup
      (call_meets F.slot_int_rmul (typeIs_int s k t) F.entry_int_rmul (F.args_int_rmul_2 _ _) (int_rmul_tuple k t l its.toArray n dd sl)
        ⟨ho, rfl, ⟨_, ho, rfl⟩, call_meets F.slot_tuple_mul ⟨_, ho, rfl⟩ F.entry_tuple_mul (F.args_tuple_mul_2 _ _) (mul_same l its.toArray n dd sl k t c0 c1) ⟨ho, ?_⟩⟩)
    exact ⟨.ref l, H, I, rfl, q1 hs1⟩
  · have hne : xs ≠ [] := fun z => hs1 (.inl z)
    have hk1' : k ≠ 1 := fun z => hs1 (.inr z)
    have c1 : (its.toArray.isEmpty || k == 1) = false := by
      rw [hem, decide_eq_false hne, Bool.false_or]
      exact beq_eq_false_iff_ne.mpr (by omega)
    have small : (List.replicate k.toNat xs).flatten.length ≤ sizeLine := by
      rw [PyProof.Rows.lm_len_rep_flat, sizeLine_eq]
      have : k.toNat * xs.length ≤ 1000 * 1000 := Nat.mul_le_mul (by omega) hz
      omega
    by_cases hk : k ≤ 0
    · have c2 : (decide (k ≤ 0) || its.toArray.isEmpty) = true := by rw [decide_eq_true hk]; rfl
      refine wpAny_binaryOp_repeat_ref (T := "tuple") (U := "int") (by decide) ⟨_, ho, rfl⟩ (fun s' => typeIs_int s' k t) noFill_tuple_mul F.fills_int_mul F.slot_int_rmul repeat_tuple F.slot_int_index.lookup
        (call_meets F.slot_int_rmul (typeIs_int s k t) F.entry_int_rmul (F.args_int_rmul_2 _ _) (int_rmul_tuple k t l its.toArray n dd sl)
          ⟨ho, rfl, ⟨_, ho, rfl⟩, call_meets F.slot_tuple_mul ⟨_, ho, rfl⟩ F.entry_tuple_mul (F.args_tuple_mul_2 _ _) (mul_none l its.toArray n dd sl k t c0 c1 c2) ⟨ho, ?_⟩⟩)
      have e0 : (List.replicate k.toNat xs).flatten = [] := by rw [show k.toNat = 0 by omega]; rfl
      rw [e0] at q2
      exact I.madeT (Nat.zero_le _) .nil q2
    · have c2 : (decide (k ≤ 0) || its.toArray.isEmpty) = false := by
        rw [decide_eq_false hk, hem, decide_eq_false hne]; rfl
      have ez : its.toArray.size = xs.length := by rw [List.size_toArray, hle]
      have few : ((its.toArray.size : Nat) : Int) * k ≤ 1000000 := by
        rw [ez]
        have : ((xs.length : Nat) : Int) * k ≤ 1000 * k := Int.mul_le_mul_of_nonneg_right (by omega) (by omega)
        omega
      have c4 : Builtin.Tuple.tupleTooMany (((its.toArray.size : Nat) : Int) * k) = false := by
        unfold Builtin.Tuple.tupleTooMany
        rw [sizeLine_eq]
        exact decide_eq_false (by omega)
      have rr := r.rep k.toNat
      have c5 : (List.foldl (fun x1 x2 => x1 ++ x2) #[] (List.replicate k.toNat its.toArray)).size ≤ sizeLine := by
        rw [size_rep, List.size_toArray, ← rr.length]; exact small
      have q3 := I.madeT small rr q2
      rw [← size_rep] at q3
      exact wpAny_binaryOp_repeat_ref (T := "tuple") (U := "int") (by decide) ⟨_, ho, rfl⟩ (fun s' => typeIs_int s' k t) noFill_tuple_mul F.fills_int_mul F.slot_int_rmul repeat_tuple F.slot_int_index.lookup
        (call_meets F.slot_int_rmul (typeIs_int s k t) F.entry_int_rmul (F.args_int_rmul_2 _ _) (int_rmul_tuple k t l its.toArray n dd sl)
          ⟨ho, rfl, ⟨_, ho, rfl⟩, call_meets F.slot_tuple_mul ⟨_, ho, rfl⟩ F.entry_tuple_mul (F.args_tuple_mul_2 _ _) (tuple_mulW l its.toArray n dd sl k t c0 c1 c2 (by omega) c4 c5) ⟨ho, q3⟩⟩)
end
end TM

end
section
set_option Elab.async false
set_option linter.all false
set_option maxRecDepth 100000
set_option maxHeartbeats 4000000
set_option autoImplicit false
/-! sorted(t), t a tuple of ints -/
namespace ST
open PySem PySem.Spec PyProof.Rows SrtO
section
variable {prog : Program} {w : World} {A : Around} {E : Value → Shared → Prop} {s : Shared}
theorem collect_tup {l : Addr} {vs : List Value} {Q : List Value → Shared → Prop} (hl : s.heap.IsTuple l vs.toArray)
    (h : Q vs { s with heap := (s.heap.push (seqObj "list" #[] 0)).update s.heap.objs.size (Obj.mapSeq (· ++ vs.toArray)) }) (hz : vs.length ≤ sizeLine) :
    wpAny (model prog w) A (collect (.ref l)) Q E s := by
  obtain ⟨o, ho, hc, n, hd⟩ := id hl
  unfold collect
  refine wpAny_bind (wpAny_runValue (codeAny_builtin entry_proto_collect' ?_))
  show wpAny _ _ (do again (.builtin "list.__iadd__" ⟨[← newList [], .ref l], []⟩)) _ _ s
  refine wpAny_bind (wpAny_newList (wpAny_pure ⟨Code.quiet_builtin _ (by decide +kernel), codeAny_builtin entry_list_iadd' ?_⟩))
  show wpAny _ _ (Builtin.List.listExtendWith (.ref s.heap.objs.size) (.ref l) (.ref s.heap.objs.size)) _ _ { s with heap := s.heap.push (seqObj "list" #[] 0) }
  unfold Builtin.List.listExtendWith
  have ho' : (s.heap.push (seqObj "list" #[] 0)).get? l = some o := Heap.get?_push_of_some _ ho
  refine wpAny_bind (wpAny_typeOf (T := "tuple") ⟨o, ho', hc⟩ ?_)
  have ht : (Value.type "tuple" == Value.type "tuple") = true := by rfl
  rw [if_pos (by rw [ht]; simp)]
  refine wpAny_bind (listItems_at ho' hd ?_)
  refine wpAny_bind (listItems_at (xs := #[]) (n := 0) (Heap.get?_push_size _ rfl) rfl ?_)
  rw [if_neg (by simp)]
  refine wpAny_bind (listUpdate_at (xs := #[]) (n := 0) (Heap.get?_push_size _ rfl) rfl ?_ (Nat.zero_le _) (by show (#[] ++ vs.toArray).size ≤ sizeLine + 1; simp only [Array.size_append, List.size_toArray, List.length_nil]; omega))
  refine wpAny_pure ?_
  refine wpAny_bind (wpAny_load (get?_update_seq (Heap.get?_push_size _ rfl) _) ?_)
  show wpAny _ _ (pure ((#[] : Array Value) ++ vs.toArray).toList) Q E _
  rw [show ((#[] : Array Value) ++ vs.toArray).toList = vs by simp]
  exact wpAny_pure h
theorem sorted_tup {l : Addr} {vs : List Value} {ltv : Value → Value → Bool} {Q : Value → Shared → Prop} (O : Swo ltv) (hl : s.heap.IsTuple l vs.toArray) (hz : vs.length ≤ sizeLine)
    (hS : 2 ≤ vs.length → ∀ (h₁ : Heap) (a : Addr), h₁.get? a = some (seqObj "list" vs.toArray 0) → SortableO prog w A.in1.in1 { s with heap := h₁ } a vs ltv)
    (h : ∀ out : List Value, Srtd ltv out → Stb ltv out vs → Q (.ref (s.heap.objs.size + 1)) { s with heap := sortedAll s.heap vs out.toArray }) :
    wpAny (model prog w) A (call (.builtin "sorted") [.ref l]) Q E s := by
  refine Calls.call_function_entry kind_sorted plain_sorted entry_sorted (args_sorted1 _) ?_
  unfold Builtin.«sorted»
  refine wpAny_bind (m := checkCount "sorted" 1 1 _) (wpAny_pure ?_)
  refine wpAny_bind (collect_tup hl ?_ hz)
  refine wpAny_bind (wpAny_newList ?_ hz)
  have hsz : ((s.heap.push (seqObj "list" #[] 0)).update s.heap.objs.size (Obj.mapSeq (· ++ vs.toArray))).objs.size = s.heap.objs.size + 1 := by
    rw [Heap.size_update, size_push']
  have hoL : (((s.heap.push (seqObj "list" #[] 0)).update s.heap.objs.size (Obj.mapSeq (· ++ vs.toArray))).push (seqObj "list" vs.toArray 0)).get? (s.heap.objs.size + 1) = some (seqObj "list" vs.toArray 0) := by
    rw [← hsz]; exact Heap.get?_push_size _ rfl
  show wpAny _ _ _ _ _ { s with heap := ((s.heap.push (seqObj "list" #[] 0)).update s.heap.objs.size (Obj.mapSeq (· ++ vs.toArray))).push (seqObj "list" vs.toArray 0) }
  rw [hsz]
  refine wpAny_bind (wpAny_holding (wpAny_call_entry slot_list_sort ⟨_, hoL, rfl⟩ entry_list_sort (list_sort_ord O hoL hz (fun h2 => hS h2 _ _ hoL) fun out hs hb => ⟨_, rfl, ?_⟩) (args_list_sort _)))
  exact wpAny_pure ⟨_, rfl, h out hs hb⟩
end
end ST
namespace L2
open PySem PySem.Spec PyProof.Rows
def rSortedTu (K : PySem.W.Frag) : List V → Hp → VK → Prop := fun vs H Q => ∃ (a : Addr) (ns : List Int), vs = [V.ref a] ∧ SqT K H a (ns.map V.int) ∧
  ∀ (ns' : List Int) (p : Addr), ns'.Perm ns → ns'.Pairwise (· ≤ ·) → H p = none → Q (.ref p) (upd H p (.lst (ns'.map V.int)))
theorem cr_sortedTu {X : Cx} : CallR X (.builtin "sorted") (rSortedTu X.K) := by
  intro pins s σ H vs us Q I r h
  obtain ⟨a, ns, rfl, hs, q⟩ := h
  obtain ⟨its, rv, hl, hz⟩ := I.tuple hs
  rw [Vals.ref1 r]
  have hi := rv.ints
  refine ST.sorted_tup SrtO.swo_int (show s.heap.IsTuple a its.toArray from hl) (by rw [← rv.length]; exact hz) (fun h2 h₁ a' _ => SrtO.ints_sortable hi h2) fun out h1 h2 => ?_
  obtain ⟨k1, k2, k3⟩ := SrtO.ints_out hi h1 h2
  obtain ⟨ep, he'⟩ := PyProof.Rows.sortedAll_at s.heap its out.toArray
  have hlen : ((out.map SrtO.iv).map V.int).length ≤ sizeLine := by
    rw [List.length_map, k2.length_eq]
    rw [List.length_map] at hz
    exact hz
  exact ⟨.ref _, upd H (s.heap.objs.size + 1) (.lst ((out.map SrtO.iv).map V.int)), I.laid (t' := s.toks) (fun _ _ => PyProof.Rows.sortedAll_old) (Nat.le_succ _) ⟨hlen, out, ep, vals_of_ints k1, he'⟩, rfl, q _ _ k2 k3 (I.hok.fresh (Nat.le_succ _))⟩
end L2

end
section
set_option Elab.async false
set_option linter.all false
set_option maxRecDepth 100000
set_option maxHeartbeats 4000000
set_option autoImplicit false
/-! sorted(xs), xs a list of pairs of ints, tuples of any origin -/
namespace L2
open PySem PySem.Spec PyProof.Rows
def rSortedPT (K : PySem.W.Frag) : List V → Hp → VK → Prop := fun vs H Q => ∃ (a : Addr) (xs : List V) (k : V → Int × Int), vs = [V.ref a] ∧ SqL K H a xs ∧ (∀ x ∈ xs, ∃ t, x = V.ref t ∧ SqT K H t [.int (k x).1, .int (k x).2]) ∧
  ∀ ys p, SrtO.Srtd (ltP k) ys → ys.Perm xs → H p = none → Q (.ref p) (upd H p (.lst ys))
theorem cr_sortedPT {X : Cx} : CallR X (.builtin "sorted") (rSortedPT X.K) := by
  intro pins s σ H vs us Q I r h
  obtain ⟨a, xs, k, rfl, hs, hx, q⟩ := h
  obtain ⟨its, rv, hl, hz⟩ := I.list hs
  obtain ⟨u, rfl, ru⟩ := vals1 r
  obtain rfl : u = Value.ref a := ru
  obtain ⟨e1, e2⟩ := refs_back rv fun x m => by
    obtain ⟨t, e, _⟩ := hx x m
    exact ⟨t, e⟩
  refine SrtO.sorted_pairsO (k := fun u => k (backV u)) hl.isList (by rw [← rv.length]; exact hz) (fun v hv => ?_) fun h' d out h1 h2 kp hd hn => ?_
  · obtain ⟨t, rfl⟩ := e2 v hv
    have hm : V.ref t ∈ xs := by rw [e1]; exact List.mem_map.mpr ⟨_, hv, rfl⟩
    obtain ⟨t', e, ht⟩ := hx _ hm
    cases e
    obtain ⟨its2, r2, ⟨o, ho, hc, n, hd⟩, _⟩ := I.tuple ht
    obtain ⟨u1, u2, rfl, ri, rj⟩ := vals2 r2
    obtain ⟨t1, rfl⟩ := ri
    obtain ⟨t2, rfl⟩ := rj
    exact ⟨t, o, t1, t2, n, rfl, ho, hc, hd⟩
  · have h3 : ∀ u ∈ out, ∃ a, u = Value.ref a := fun u hu => e2 u (h2.perm.mem_iff.mp hu)
    obtain ⟨n, hn⟩ := hn
    have hb : SrtO.Stb (ltP k) (out.map backV) xs := by
      rw [e1]
      exact SrtO.Stb.map (ltP_swo k) backV h2
    refine ⟨.ref d, upd H d (.lst (out.map backV)), I.laid (t' := s.toks) kp hd ⟨?_, out, n, vals_back h3, hn⟩, rfl, q _ d (SrtO.srtd_map h1) hb.perm (I.hok.fresh hd)⟩
    rw [hb.len]
    exact hz
end L2

end
section
set_option Elab.async false
set_option linter.all false
set_option maxRecDepth 100000
set_option maxHeartbeats 4000000
set_option autoImplicit false
/-! list(range(a, b, c)) -/
namespace LR
open PySem PySem.Spec PyProof.Rows L2
def P3 (X : Cx) (e : Expr) (t : L2.St → Hp → (Int → Int → Int → Nat → Hp → Prop) → Prop) : Prop :=
  ∀ (pins : List (Addr × Obj)) (s : Shared) (σ : L2.St) (H : Hp) (Q : Int → Int → Int → Nat → Hp → Prop), Inv X pins σ H s → t σ H Q →
    wpAny (model X.prog X.w) X.A (eval e X.env) (fun x s' => ∃ r i j c n t u v H', x = .ref r ∧ IsRange s'.heap r i j c t u v ∧ RgC i j c n ∧ Inv X pins σ H' s' ∧ Q i j c n H') X.xe s
def t3 (ta : TA) : L2.St → Hp → (Int → Int → Int → Nat → Hp → Prop) → Prop := fun σ H Q => ta σ H fun vs H1 => ∃ (i j c : Int) (n : Nat), vs = [.int i, .int j, .int c] ∧ RgC i j c n ∧ Q i j c n H1
section
variable {X : Cx}
theorem p3 {a b c : Expr} {ta : TA} {p pos : Pos} (hg : Gl X "range") (hm : X.mg "range" = none) (ha : PA X [a, b, c] ta) (hs : starEach [a, b, c] X.env = (false, eval a X.env) :: starEach [b, c] X.env) (hpl : (backTo pos (starEach [b, c] X.env)).any (·.1) = false) :
    P3 X (.Call (.Name "range" p) [a, b, c] [] pos) (t3 ta) := by
  intro pins s σ H Q I h
  refine Call_ (ld_blt I hg hm boot_range (PyProof.Rows.callWith_type1 (thn (ha.run pos pins s σ H _ I h) fun us s1 ⟨vs, H1, I1, r1, q1⟩ => ?_) hs hpl))
  obtain ⟨i, j, k, n, e, R, q⟩ := q1
  subst e
  cases r1 with
  | cons ra rr =>
    cases rr with
    | cons rb rr =>
      cases rr with
      | cons rc rr =>
        cases rr
        obtain ⟨ta', rfl⟩ := ra
        obtain ⟨tb', rfl⟩ := rb
        obtain ⟨tc', rfl⟩ := rc
        refine call_range_3 R.1 ?_ (.inl (PyProof.noPylong_small R.2.1))
        exact ⟨_, i, j, k, n, _, _, _, H1, rfl, IsRange.new _ _ _ _ _ _ _, R, I1.kept (t' := s1.toks) fun b o e => Heap.get?_push_of_some _ e, q⟩
def stV (i c : Int) (n : Nat) : List V := (List.range n).map fun (k : Nat) => V.int (i + (k : Nat) * c)
theorem vals_st {i c : Int} {n : Nat} {acc : Array Value} (h : ItemsOf (fun k v => ∃ t, v = .int (i + k * c) t) acc n) : Vals (stV i c n) acc.toList := by
  have e : acc.toList.length = n := by rw [Array.length_toList]; exact h.1
  unfold stV
  rw [← e]
  refine vals_of_get acc.toList _ fun j u hj => ?_
  obtain ⟨t, rfl⟩ := h.2 j u (by rw [← hj, Array.getElem?_toList])
  exact ⟨t, rfl⟩
def tLr (te : L2.St → Hp → (Int → Int → Int → Nat → Hp → Prop) → Prop) : TE := fun σ H Q => te σ H fun i j c n H1 => n ≤ 2 ^ 24 ∧ ∀ q, H1 q = none → Q (.ref q) (upd H1 q (.lst (stV i c n)))
theorem pe_lr {e : Expr} {te : L2.St → Hp → (Int → Int → Int → Nat → Hp → Prop) → Prop} {p pos : Pos} (hc : X.calm = true) (hg : Gl X "list") (hm : X.mg "list" = none) (he : P3 X e te) (na : starEach [e] X.env = (false, eval e X.env) :: starEach [] X.env) : PE X (.Call (.Name "list" p) [e] [] pos) (tLr te) := by
  refine ⟨fun pins s σ H Q I h => ?_⟩
  refine Call_ (ld_blt I hg hm boot_list (PyProof.Rows.callWith_type1 (args_cons (thn (he pins s σ H _ I h) fun x s1 ⟨r, i, j, c, n, t, u, v, H1, ex, hr, R, I1, hn, q⟩ => args_nil ?_) na) na))
  subst ex
  refine call_list_range (n := n) (I1.ok.hd hc) hr R.2.2.1 R.2.2.2 hn fun h2 tk acc c2 hk e2 hi => ?_
  refine ⟨.ref s1.heap.objs.size, upd H1 s1.heap.objs.size (.lst (stV i c n)), I1.laid hk (Nat.le_refl _) (show ObjOk X.prog X.w _ _ _ (.lst (stV i c n)) from ⟨?_, acc.toList, c2, vals_st hi, ?_⟩), rfl, q _ (I1.hok.fresh (Nat.le_refl _))⟩
  · unfold stV
    rw [List.length_map, List.length_range, sizeLine_eq]; omega
  · rw [Array.toArray_toList]; exact e2
end
end LR

end
section
set_option Elab.async false
set_option linter.all false
set_option maxRecDepth 100000
set_option maxHeartbeats 4000000
set_option autoImplicit false
/-! t[::-1], t a tuple -/
namespace HT
open PySem PySem.Spec PyProof.Rows
section
variable {prog : Program} {w : World} {A : Around} {E : Value → Shared → Prop} {s : Shared}
theorem places_rev (n : Nat) : Builtin.Slice.slicePlaces ((n : Int) - 1) (-1) (-1) = n := by
  unfold Builtin.Slice.slicePlaces
  rw [if_neg (by decide)]
  split
  · show (((n : Int) - 1 - -1 - 1) / 1 + 1).toNat = n
    rw [Int.ediv_one]; omega
  · omega
theorem sliceApplied_rev {sl : Addr} {vl vu vs : Value} {n : Nat} {Q : Int × Int × Nat → Shared → Prop} (hs : s.heap.IsSliceOf sl vl vu vs) (pl : IsPart vl none) (pu : IsPart vu none) (ps : IsPart vs (some (-1)))
    (h : Q (((n : Int) - 1), -1, n) s) : wpAny (model prog w) A (Builtin.Slice.sliceApplied (.ref sl) (pure (n : Int))) Q E s := by
  obtain ⟨os, hos, hcs, hds⟩ := id hs
  unfold Builtin.Slice.sliceApplied Builtin.Slice.sliceFields
  refine wpAny_bind (wpAny_bind (wpAny_field hos hds (x := vl) rfl (wpAny_bind (wpAny_field hos hds (x := vu) rfl (wpAny_bind (wpAny_field hos hds (x := vs) rfl (wpAny_pure ?_)))))))
  refine wpAny_bind (slicePart_ ps ?_)
  show wpAny _ _ (if ((-1 : Int) == 0) = true then _ else _) _ _ s
  rw [if_neg (by decide)]
  refine wpAny_bind (slicePart_ pl (wpAny_bind (slicePart_ pu (wpAny_bind (wpAny_pure ?_)))))
  show wpAny _ _ (pure (((n : Int) - 1), (-1 : Int), Builtin.Slice.slicePlaces ((n : Int) - 1) (-1) (-1))) _ _ s
  rw [places_rev]
  exact wpAny_pure h
theorem fm_map {α β : Type} {f : α → Option β} {g : α → β} : ∀ {l : List α}, (∀ m ∈ l, f m = some (g m)) → l.filterMap f = l.map g
  | [], _ => rfl
  | x :: l, h => by
    rw [List.filterMap_cons_some (h x List.mem_cons_self), List.map_cons, fm_map fun m hm => h m (List.mem_cons_of_mem _ hm)]
theorem pick_rev (xs : Array Value) : ((List.range xs.size).filterMap fun (m : Nat) => xs[((xs.size : Int) - 1 + (m : Int) * -1).toNat]?).toArray = xs.toList.reverse.toArray := by
  congr 1
  have hl : xs.toList.length = xs.size := Array.length_toList
  rw [fm_map (g := fun m => (xs.toList.reverse[m]?).getD .none) fun m hm => ?_]
  · refine List.ext_getElem? fun i => ?_
    rw [List.getElem?_map]
    by_cases h : i < xs.size
    · rw [List.getElem?_range h]
      have : i < xs.toList.reverse.length := by rw [List.length_reverse, hl]; exact h
      rw [List.getElem?_eq_getElem this]
      show some ((xs.toList.reverse[i]?).getD .none) = _
      rw [List.getElem?_eq_getElem this]; rfl
    · rw [List.getElem?_eq_none (l := List.range _) (by rw [List.length_range]; omega), List.getElem?_eq_none (l := xs.toList.reverse) (by rw [List.length_reverse, hl]; omega)]; rfl
  · have hm := List.mem_range.mp hm
    have e : ((xs.size : Int) - 1 + (m : Int) * -1).toNat = xs.size - 1 - m := by omega
    rw [e, List.getElem?_reverse (by rw [hl]; exact hm), hl, Array.getElem?_toList]
    rw [Array.getElem?_eq_getElem (by omega)]; rfl
theorem getItem_tuple_rev {t sl : Addr} {items : Array Value} {vl vu vs : Value} {Q : Value → Shared → Prop} (ht : IsTup s.heap t items) (hs : s.heap.IsSliceOf sl vl vu vs) (pl : IsPart vl none) (pu : IsPart vu none) (ps : IsPart vs (some (-1)))
    (h : Q (.ref s.heap.objs.size) { s with heap := s.heap.push { cls := .type "tuple", data := .seq items.toList.reverse.toArray } }) (hz : items.size ≤ sizeLine) : wpAny (model prog w) A (getItem (.ref t) (.ref sl)) Q E s := by
  have htake : sizeOk (.seq items.toList.reverse.toArray) := by
    show items.toList.reverse.toArray.size ≤ sizeLine
    simpa using hz
  obtain ⟨os, hos, hcs, hds⟩ := id hs
  have hTs : s.TypeIs (.ref sl) "slice" := ⟨os, hos, hcs⟩
  unfold getItem
  try with_reducible refine wpAny_holding ?_
  first | refine wpAny_bind (wpAny_pure ?_) | skip
  refine wpAny_bind (wpAny_sequenceKey ht.typeIs (by decide) ?_)
  refine wpAny_bind (wpAny_callSpecial?_slot (name := Str.ofString "__getitem__") ht.typeIs PyProof.Rows.slot_tuple_getitem
    (wpAny_call_entry PyProof.Rows.slot_tuple_getitem ht.typeIs entry_tuple_getitem ?_ (args_tuple_getitem _ _)))
  show wpAny _ _ (Builtin.Tuple.tupleItemsOf (.ref t) >>= _) _ _ s
  refine wpAny_bind (tupleItemsOf_ ht ?_)
  refine wpAny_bind (wpAny_typeOf hTs ?_)
  rw [if_pos (by decide)]
  refine wpAny_bind (sliceApplied_rev hs pl pu ps ?_)
  show wpAny _ _ (if (((items.size : Int) - 1) == 0 && (-1 : Int) == 1 && items.size == items.size) = true then _ else _) _ _ s
  rw [if_neg (by simp), pick_rev]
  first
    | exact wpAny_bind (m := Builtin.Tuple.tupleExact _) (wpAny_newObj_type (wpAny_pure ⟨_, rfl, wpAny_pure h⟩) htake)
    | exact wpAny_bind (m := Builtin.Tuple.tupleExact _) (wpAny_newObj_type (wpAny_bind (wpAny_pure (wpAny_pure ⟨_, rfl, wpAny_pure h⟩))) htake)
    | exact wpAny_bind (wpAny_bind (m := Builtin.Tuple.tupleExact _) (wpAny_newObj_type (wpAny_pure (wpAny_pure ⟨_, rfl, wpAny_pure h⟩)) htake))
    | exact wpAny_bind (wpAny_bind (m := Builtin.Tuple.tupleExact _) (wpAny_newObj_type (wpAny_pure ⟨_, rfl, wpAny_pure h⟩) htake))
end
end HT
namespace L2
open PySem PySem.Spec PyProof.Rows
section
variable {X : Cx}
/-- x[::-1], a list or a tuple: a new one -/
def tRevT (K : PySem.W.Frag) (te : TE) : TE := fun σ H Q => te σ H fun x H1 => (∃ a xs, x = .ref a ∧ SqL K H1 a xs ∧ ∀ p, H1 p = none → Q (.ref p) (upd H1 p (.lst xs.reverse))) ∨ (∃ a xs, x = .ref a ∧ SqT K H1 a xs ∧ TQ H1 xs.reverse Q)
theorem pe_revT {e : Expr} {te : TE} {k : Nat} {p1 p2 p3 pos : Pos} (he : PE X e te) : PE X (.Subscript e (.Slice none none (some (.UnaryOp .USub (.Constant (.int 1) k p1) p2)) p3) pos) (tRevT X.K te) := by
  refine ⟨fun pins s σ H Q I h => ?_⟩
  refine Subscript_ (thn (he.run pins s σ H _ I h) fun v s1 ⟨x, H1, I1, r1, q1⟩ => ?_)
  have hst : PO X (some (.UnaryOp .USub (.Constant (.int 1) k p1) p2)) (tPart (tUn (rU fun i => .int (-i)) (tC (.int 1)))) := po_some (pe_un un_neg pe_int)
  refine wpAny_Slice (thn (po_none.run pins s1 σ H1 (fun o H2 => o = none ∧ H2 = H1) I1 ⟨rfl, rfl⟩) fun vl s2 ⟨l, H2, I2, pl, el, e2⟩ => ?_)
  subst el e2
  refine thn (po_none.run pins s2 σ H2 (fun o H3 => o = none ∧ H3 = H2) I2 ⟨rfl, rfl⟩) fun vu s3 ⟨u, H3, I3, pu, eu, e3⟩ => ?_
  subst eu e3
  refine thn (hst.run pins s3 σ H3 (fun o H4 => o = some (-1) ∧ H4 = H3) I3 ⟨1, rfl, -1, rfl, rfl, rfl⟩) fun vs s4 ⟨o, H4, I4, ps, eo, e4⟩ => ?_
  subst eo e4
  have I5 : Inv X pins σ H4 { s4 with heap := s4.heap.push { cls := .type "slice", data := .fields #[vl, vu, vs] } } := I4.kept (t' := s4.toks) fun b ob q => Heap.get?_push_of_some _ q
  rcases q1 with ⟨a, xs, ex, hx, q⟩ | ⟨a, xs, ex, hx, q⟩
  · subst ex
    cases r1
    obtain ⟨its, r, ht, hz⟩ := I5.list hx
    have hlen := r.length
    show wpAny (model X.prog X.w) X.A (subscriptTail e (.Slice none none (some (.UnaryOp .USub (.Constant (.int 1) k p1) p2)) p3) (.ref a) (.ref s4.heap.objs.size)) (EP X pins σ Q) X.xe { s4 with heap := s4.heap.push { cls := .type "slice", data := .fields #[vl, vu, vs] } }
    refine tail_any (ops := [.ref a, .ref s4.heap.objs.size]) ht.isList.typeIs (PySem.slot_list_getitem.lookup) ?_ (by with_unfolding_all rfl)
    refine wpAny_getItem_list_slice ht.isList (Heap.IsSliceOf.new _ vl vu vs) pl pu ps (by decide) ?_ (by rw [List.size_toArray]; omega)
    rw [PySem.W.krv_pick]
    refine ⟨.ref _, _, I5.laid (t' := s4.toks) (o := .lst xs.reverse) (fun b ob q => Heap.get?_push_of_some _ q) (Nat.le_refl _) ?_, rfl, q _ (I5.hok.fresh (Nat.le_refl _))⟩
    exact ⟨by rw [List.length_reverse]; exact hz, _, 0, r.reverse, Heap.get?_push_size _ rfl⟩
  · subst ex
    cases r1
    obtain ⟨its, r, ht, hz⟩ := I5.tuple hx
    have hlen := r.length
    show wpAny (model X.prog X.w) X.A (subscriptTail e (.Slice none none (some (.UnaryOp .USub (.Constant (.int 1) k p1) p2)) p3) (.ref a) (.ref s4.heap.objs.size)) (EP X pins σ Q) X.xe { s4 with heap := s4.heap.push { cls := .type "slice", data := .fields #[vl, vu, vs] } }
    refine tail_any (ops := [.ref a, .ref s4.heap.objs.size]) ht.typeIs (PyProof.Rows.slot_tuple_getitem.lookup) ?_ (by with_unfolding_all rfl)
    exact HT.getItem_tuple_rev ht (Heap.IsSliceOf.new _ vl vu vs) pl pu ps (I5.madeT (by rw [List.length_reverse]; exact hz) r.reverse q) (by rw [List.size_toArray]; omega)
end
end L2

end
section
set_option Elab.async false
set_option linter.all false
set_option maxRecDepth 100000
set_option maxHeartbeats 4000000
namespace RX
open PySem

abbrev D := PyData

/-- a slot of a frame: unset, a value that never changes any more, a list or a dict of the frame's own (b: lent by the caller), a caught exception -/
inductive Slot where
  | no
  | sh (d : D)
  | ol (b : Bool) (xs : List D)
  | od (b : Bool) (kvs : List (D × D))
  | ex (c : Str)
abbrev Env := List Slot

/-- an operand: a value, what stands in the own slot i, a list that no one else knows -/
inductive Opd where
  | val (d : D)
  | own (i : Nat)
  | new (xs : List D)

inductive Out (α : Type) where
  | ok (a : α) (ρ : Env)
  | ex (c : Str) (ρ : Env)

def bnd {α β : Type} (m : Option (Out α)) (f : α → Env → Option (Out β)) : Option (Out β) :=
  match m with
  | some (.ok a ρ) => f a ρ
  | some (.ex c ρ) => some (.ex c ρ)
  | none => none
@[simp] theorem bnd_ok {α β : Type} {a : α} {ρ : Env} {f : α → Env → Option (Out β)} : bnd (some (.ok a ρ)) f = f a ρ := rfl
@[simp] theorem bnd_ex {α β : Type} {c : Str} {ρ : Env} {f : α → Env → Option (Out β)} : bnd (some (.ex c ρ)) f = some (.ex c ρ) := rfl
@[simp] theorem bnd_none {α β : Type} {f : α → Env → Option (Out β)} : bnd none f = none := rfl

/-! ### operands -/
def Opd.rd : Opd → Env → Option D
  | .val d, _ => some d
  | .new xs, _ => some (.list xs)
  | .own i, ρ => match ρ[i]? with
    | some (.sh d) => some d
    | some (.ol _ xs) => some (.list xs)
    | some (.od _ kvs) => some (.dict kvs)
    | _ => none
/-- it goes where others see it: from now on it never changes -/
def Opd.fz : Opd → Env → Option (D × Env)
  | .val d, ρ => some (d, ρ)
  | .new xs, ρ => some (.list xs, ρ)
  | .own i, ρ => match ρ[i]? with
    | some (.sh d) => some (d, ρ)
    | some (.ol false xs) => some (.list xs, ρ.set i (.sh (.list xs)))
    | _ => none
def frz (o : Opd) (ρ : Env) : Option (Out D) :=
  match o.fz ρ with
  | some (d, ρ') => some (.ok d ρ')
  | none => none

/-! ### the plain operations -/
def big : Nat := 2 ^ 4000
def okMul (i j : Int) : Bool := (i.natAbs < 18446744073709551616) || (j.natAbs < 18446744073709551616) || (decide (i.natAbs < big) && decide (j.natAbs < big))
def okDiv (j : Int) : Bool := (j != 0) && (decide (j.natAbs < 1073741824) || (decide (0 < j) && decide (j.natAbs < big)))
def okPow (i j : Int) : Bool := decide (0 ≤ j) && decide (j ≤ 1000000) && decide (i.natAbs < 18446744073709551616)
def line : Nat := 16777216

def binI : Operator → Int → Int → Option Int
  | .Add, i, j => some (i + j)
  | .Sub, i, j => some (i - j)
  | .Mult, i, j => if okMul i j then some (i * j) else none
  | .FloorDiv, i, j => if okDiv j then some (i.fdiv j) else none
  | .Mod, i, j => if j != 0 then some (i.fmod j) else none
  | .Pow, i, j => if okPow i j then some (i ^ j.toNat) else none
  | .LShift, i, j => if okPow i j then some (i * 2 ^ j.toNat) else none
  | .RShift, i, j => if decide (0 ≤ j) then some (i / 2 ^ j.toNat) else none
  | .BitAnd, i, j => some (Builtin.bitAnd i j)
  | .BitOr, i, j => some (Builtin.bitOr i j)
  | .BitXor, i, j => some (Builtin.bitXor i j)
  | _, _, _ => none
def rep {α : Type} (xs : List α) (k : Nat) : List α := (List.replicate k xs).flatten
def binD : Operator → D → D → Option Opd
  | o, .int i, .int j => (binI o i j).map fun n => .val (.int n)
  | .Add, .list xs, .list ys => if xs.length + ys.length ≤ line then some (.new (xs ++ ys)) else none
  | .Add, .tuple xs, .tuple ys => if xs.length + ys.length ≤ line then some (.val (.tuple (xs ++ ys))) else none
  | .Add, .str x, .str y => if x.length + y.length ≤ line then some (.val (.str (x ++ y))) else none
  | .Mult, .list xs, .int k => if k ≤ 16777216 ∧ -16777216 ≤ k ∧ xs.length * k.toNat ≤ line then some (.new (rep xs k.toNat)) else none
  | .Mult, .tuple xs, .int k => if -1000 ≤ k ∧ k ≤ 1000 ∧ xs.length ≤ 1000 then some (.val (.tuple (rep xs k.toNat))) else none
  | _, _, _ => none

mutual
/-- no dict in it, not deeper than n -/
def flat : Nat → D → Bool
  | _, .none | _, .bool _ | _, .int _ | _, .str _ => true
  | 0, _ => false
  | n + 1, .list xs => flatAll n xs
  | n + 1, .tuple xs => flatAll n xs
  | _, .dict _ => false
def flatAll : Nat → List D → Bool
  | _, [] => true
  | n, x :: xs => flat n x && flatAll n xs
end
def deep : Nat := 30
def cmpI : CmpOp → Int → Int → Option Bool
  | .Lt, i, j => some (decide (i < j))
  | .LtE, i, j => some (decide (i ≤ j))
  | .Gt, i, j => some (decide (j < i))
  | .GtE, i, j => some (decide (j ≤ i))
  | .Eq, i, j => some (decide (i = j))
  | .NotEq, i, j => some (!decide (i = j))
  | _, _, _ => none
def isNo : D → Bool
  | .none => true
  | _ => false
def cmpD : CmpOp → D → D → Option Bool
  | .Is, x, .none => some (isNo x)
  | .IsNot, x, .none => some (!isNo x)
  | .Is, .bool a, .bool b => some (a == b)
  | .IsNot, .bool a, .bool b => some (!(a == b))
  | .In, x, .list ys => if flat deep x && flatAll deep ys then some (ys.any fun z => PyData.eqv z x) else none
  | .NotIn, x, .list ys => if flat deep x && flatAll deep ys then some (!ys.any fun z => PyData.eqv z x) else none
  | .In, x, .tuple ys => if flat deep x && flatAll deep ys then some (ys.any fun z => PyData.eqv z x) else none
  | .NotIn, x, .tuple ys => if flat deep x && flatAll deep ys then some (!ys.any fun z => PyData.eqv z x) else none
  | o, .int i, .int j => cmpI o i j
  | .Eq, x, y => if flat deep x && flat deep y then some (PyData.eqv x y) else none
  | .NotEq, x, y => if flat deep x && flat deep y then some (!PyData.eqv x y) else none
  | _, _, _ => none

/-- the place of index i in n items -/
def ixOf (n : Nat) (i : Int) : Option Nat := if 0 ≤ i then (if i < n then some i.toNat else none) else if -(n : Int) ≤ i then some (i + n).toNat else none
def ixD : D → D → Option D
  | .list xs, .int i => (ixOf xs.length i).bind fun j => xs[j]?
  | .tuple xs, .int i => (ixOf xs.length i).bind fun j => xs[j]?
  | .str s, .int i => (if s.length ≤ line then ixOf s.cps.toList.length i else none).bind fun j => (s.cps.toList[j]?).map fun c => .str ⟨#[c]⟩
  | _, _ => none
/-- a bound of a slice -/
def bdOf (n d : Nat) : Option Int → Nat
  | none => d
  | some v => if v < 0 then (v + n).toNat else min v.toNat n
def cut {α : Type} (xs : List α) (lo hi : Option Int) : List α := (xs.drop (bdOf xs.length 0 lo)).take (bdOf xs.length xs.length hi - bdOf xs.length 0 lo)
def slD : D → Option Int → Option Int → Option Opd
  | .list xs, lo, hi => some (.new (cut xs lo hi))
  | .tuple xs, lo, hi => some (.val (.tuple (cut xs lo hi)))
  | _, _, _ => none
def truD : D → Option Bool
  | .none => some false
  | .bool b => some b
  | .int i => some (i != 0)
  | .list xs => some (!xs.isEmpty)
  | .tuple xs => some (!xs.isEmpty)
  | _ => none

inductive Ty where
  | int | bool | str | list | tuple
def isD : Ty → D → Option Bool
  | _, .dict _ => none
  | .int, .int _ => some true
  | .int, .bool _ => some true
  | .bool, .bool _ => some true
  | .str, .str _ => some true
  | .list, .list _ => some true
  | .tuple, .tuple _ => some true
  | _, _ => some false

def intsOf : List D → Option (List Int)
  | [] => some []
  | .int i :: r => (intsOf r).map (i :: ·)
  | _ :: _ => none
inductive BI where
  | len | abs | int | min | max | sum | list | tuple | sorted | divmod
def maxL : Int → List Int → Int
  | m, [] => m
  | m, x :: xs => maxL (if x > m then x else m) xs
def minL : Int → List Int → Int
  | m, [] => m
  | m, x :: xs => minL (if x < m then x else m) xs
def insI (n : Int) : List Int → List Int
  | [] => [n]
  | m :: r => if n ≤ m then n :: m :: r else m :: insI n r
def sortI : List Int → List Int
  | [] => []
  | n :: r => insI n (sortI r)
def pairsI : List D → Option (List (Int × Int))
  | [] => some []
  | .tuple [.int i, .int j] :: r => (pairsI r).map ((i, j) :: ·)
  | _ => none
def leP (p q : Int × Int) : Bool := decide (p.1 < q.1) || (decide (p.1 = q.1) && decide (p.2 ≤ q.2))
def insP (n : Int × Int) : List (Int × Int) → List (Int × Int)
  | [] => [n]
  | m :: r => if leP n m then n :: m :: r else m :: insP n r
def sortP : List (Int × Int) → List (Int × Int)
  | [] => []
  | n :: r => insP n (sortP r)
def pD (p : Int × Int) : D := .tuple [.int p.1, .int p.2]
def biD : BI → List D → Option Opd
  | .len, [.list xs] => some (.val (.int xs.length))
  | .len, [.tuple xs] => some (.val (.int xs.length))
  | .len, [.str s] => if s.length ≤ line then some (.val (.int s.length)) else none
  | .abs, [.int i] => some (.val (.int (if i < 0 then -i else i)))
  | .int, [.int i] => some (.val (.int i))
  | .int, [.bool b] => some (.val (.int (if b then 1 else 0)))
  | .min, [.int i, .int j] => some (.val (.int (if j < i then j else i)))
  | .max, [.int i, .int j] => some (.val (.int (if j > i then j else i)))
  | .min, [.list xs] => (intsOf xs).bind fun | [] => none | n :: ns => some (.val (.int (minL n ns)))
  | .max, [.list xs] => (intsOf xs).bind fun | [] => none | n :: ns => some (.val (.int (maxL n ns)))
  | .sum, [.list xs] => (intsOf xs).map fun ns => .val (.int ns.sum)
  | .min, [.tuple xs] => (intsOf xs).bind fun | [] => none | n :: ns => some (.val (.int (minL n ns)))
  | .max, [.tuple xs] => (intsOf xs).bind fun | [] => none | n :: ns => some (.val (.int (maxL n ns)))
  | .sum, [.tuple xs] => (intsOf xs).map fun ns => .val (.int ns.sum)
  | .sorted, [.list xs] => match intsOf xs with
    | some ns => some (.new ((sortI ns).map .int))
    | none => (pairsI xs).map fun ps => .new ((sortP ps).map pD)
  | .sorted, [.tuple xs] => (intsOf xs).map fun ns => .new ((sortI ns).map .int)
  | .divmod, [.int i, .int j] => if 0 < j ∧ j < 1073741824 then some (.val (.tuple [.int (i / j), .int (i % j)])) else none
  | .list, [.list xs] => some (.new xs)
  | .list, [.tuple xs] => some (.new xs)
  | .tuple, [.list xs] => some (.val (.tuple xs))
  | .tuple, [.tuple xs] => some (.val (.tuple xs))
  | _, _ => none

/-- math.gcd -/
def gcdD : List D → Option Opd
  | [.int i, .int j] => some (.val (.int ((Nat.gcd i.natAbs j.natAbs : Nat) : Int)))
  | _ => none
/-- math.isqrt -/
def isqD : List D → Option Opd
  | [.int i] => if 0 ≤ i ∧ i.toNat.log2 ≤ 13000 then some (.val (.int ((PySem.Float64.isqrt i.toNat : Nat) : Int))) else none
  | _ => none
/-- the keys of a dict of pairs -/
def keyD : D → Option (Int ⊕ Str)
  | .int i => some (.inl i)
  | .str x => some (.inr x)
  | _ => none
def keysD : List D → Option (List (Int ⊕ Str))
  | [] => some []
  | d :: ds => (keyD d).bind fun k => (keysD ds).map (k :: ·)
def pairK : D → Option (List (Int ⊕ Str))
  | .tuple [.tuple ks, _] => keysD ks
  | _ => none
def pairsK : List D → Option (List (List (Int ⊕ Str)))
  | [] => some []
  | d :: ds => (pairK d).bind fun k => (pairsK ds).map (k :: ·)
/-- each once -/
def dedL {α : Type} [DecidableEq α] : List α → List α → List α
  | acc, [] => acc
  | acc, k :: ks => dedL (if k ∈ acc then acc else acc ++ [k]) ks
/-- the first place of an item equal to x -/
def idxL (x : D) : List D → Option Nat
  | [] => none
  | y :: ys => if PyData.eqv y x then some 0 else (idxL x ys).map (· + 1)
def itemsD : D → Option (List D)
  | .list xs => some xs
  | .tuple xs => some xs
  | _ => none
/-- what enumerate bears -/
def itemsE : D → Option (List D)
  | .list xs => if L2.smode then none else some xs
  | .tuple xs => some xs
  | _ => none
/-- enumerate's pairs, from i on -/
def enuL : Nat → List D → List D
  | _, [] => []
  | i, x :: xs => .tuple [.int (i : Nat), x] :: enuL (i + 1) xs
def zipL : List D → List D → List D
  | x :: xs, y :: ys => .tuple [x, y] :: zipL xs ys
  | _, _ => []
def zipD : D → D → Option (List D)
  | .list xs, .list ys => if L2.smode then none else some (zipL xs ys)
  | .tuple xs, .tuple ys => if L2.smode then none else some (zipL xs ys)
  | _, _ => none
/-- lo, lo + st, .. (n of them) -/
def rngL (lo st : Int) (n : Nat) : List D := (List.range n).map fun (i : Nat) => .int (lo + (i : Nat) * st)
/-- how many numbers range(i, j, c) has -/
def rngN (i j c : Int) : Nat := if 0 < c then (if i < j then ((j - i - 1) / c + 1).toNat else 0) else (i - j).toNat
def okR (i : Int) : Bool := decide (-(2 ^ 62) ≤ i) && decide (i < 2 ^ 62)

/-! ### the form of a def's text -/
/-- who takes a generator's values -/
inductive GK where
  | all | any | tuple | sum
mutual
inductive E where
  | v (i : Nat)
  | gi (j : Nat)
  | k (d : D)
  | bin (o : Operator) (a b : E)
  | neg (a : E)
  | cmp (o : CmpOp) (a b : E)
  | ch (o o' : CmpOp) (a b c : E)
  | ch3 (o o' o2 : CmpOp) (a b d e : E)
  | no (a : E)
  | an (a b : E)
  | orr (a b : E)
  | ife (c a b : E)
  | tup (es : Es)
  | lst (es : Es)
  | ix (a i : E)
  | sl (a : E) (lo hi : P)
  | call (f : Nat) (as : As)
  | b1 (b : BI) (a : E)
  | b2 (b : BI) (a d : E)
  | isi (a : E) (t : Ty)
  | isx (i : Nat) (c : Str)
  | lc (own : List Nat) (g : G) (it : It) (cs : Es) (e : E)
  | lch (own : List Nat) (g : G) (a : E) (cs : Es) (e : E)
  | lrev (a : E)
  | rv (a : E)
  | lr1 (a : E)
  | lr2 (a b : E)
  | lr3 (a b d : E)
  | ldc (a : E)
  | gq (q : GK) (own : List Nat) (g : G) (it : It) (cs : Es) (e : E)
  | gcd (a b : E)
  | isq (a : E)
  | cnt (a b : E)
  | cntT (a b : E)
  | idxT (a b : E)
  | idx (a b : E)
  | app (i : Nat) (a : E)
  | pop (i : Nat)
inductive P where
  | no
  | so (e : E)
inductive Es where
  | nil
  | cons (e : E) (es : Es)
inductive As where
  | nil
  | ex (e : E) (r : As)
  | bo (i : Nat) (r : As)
  | xv (i : Nat) (r : As)
inductive It where
  | seq (e : E)
  | r1 (a : E)
  | r2 (a b : E)
  | rc (a b c : E)
  | enu (e : E)
  | zip (a b : E)
  | rev (e : E)
inductive G where
  | n (i : Nat)
  | t (gs : Gs)
inductive Gs where
  | nil
  | cons (g : G) (gs : Gs)
end
mutual
inductive S where
  | asg (i : Nat) (e : E)
  | asgO (i : Nat) (e : E)
  | asgG (g : G) (e : E)
  | par (gs : Gs) (es : Es)
  | parO (ts : List (Nat × Bool)) (es : Es)
  | st (a : Nat) (i e : E)
  | aug (i : Nat) (o : Operator) (e : E)
  | ex (e : E)
  | ret (e : E)
  | retO (e : E)
  | retN
  | ifs (c : E) (a b : Ss)
  | forr (g : G) (it : It) (b : Ss)
  | whl (c : E) (b : Ss)
  | brk
  | cnt
  | pass
  | rais (c : Str)
  | tri (b : Ss) (c : Str) (i : Nat) (h : Ss)
inductive Ss where
  | nil
  | cons (s : S) (r : Ss)
end

/-! ### what it does -/
inductive CArg where
  | av (d : D)
  | al (xs : List D)
  | ax (c : Str)
/-- an argument: a value, the own list of slot i, the exception of slot i -/
inductive AV where
  | av (d : D)
  | al (i : Nat)
  | ax (i : Nat)
inductive FOut where
  | ok (d : D) (os : List (List D))
  | ow (xs : List D) (os : List (List D))
  | ex (c : Str) (os : List (List D))
abbrev CF := Nat → List CArg → Option FOut

inductive SOut where
  | nx (ρ : Env)
  | rt (d : D) (ρ : Env)
  | ro (xs : List D) (ρ : Env)
  | bk (ρ : Env)
  | ct (ρ : Env)
  | ex (c : Str) (ρ : Env)

def wip (ρ : Env) : List Nat → Env
  | [] => ρ
  | v :: vs => (wip ρ vs).set v .no
/-- the slots at vs as they were -/
def unw (ρ0 ρ : Env) : List Nat → Env
  | [] => ρ
  | v :: vs => (unw ρ0 ρ vs).set v ((ρ0[v]?).getD .no)

def setSlot (i : Nat) (s : Slot) (ρ : Env) : Option Env :=
  if i < ρ.length then some (ρ.set i s) else none
mutual
def asgG : G → D → Env → Option Env
  | .n i, d, ρ => setSlot i (.sh d) ρ
  | .t gs, d, ρ => match d with
    | .tuple xs => asgGs gs xs ρ
    | _ => none
def asgGs : Gs → List D → Env → Option Env
  | .nil, [], ρ => some ρ
  | .cons g gs, d :: ds, ρ => (asgG g d ρ).bind fun ρ' => asgGs gs ds ρ'
  | _, _, _ => none
end

def ocons : Option D → List D → List D
  | some y, ys => y :: ys
  | none, ys => ys
/-- a comprehension's turns: nothing may be raised -/
def lcL (own : List Nat) (stp : D → Env → Option (Option D × Env)) : List D → Env → Option (List D × Env)
  | [], ρ => some ([], ρ)
  | d :: ds, ρ => (stp d (wip ρ own)).bind fun (y, ρ') => (lcL own stp ds ρ').map fun (ys, ρ'') => (ocons y ys, ρ'')
/-- until one is b0 -/
def untL (own : List Nat) (stp : D → Env → Option (Option D × Env)) (b0 : Bool) : List D → Env → Option (Bool × Env)
  | [], ρ => some (!b0, ρ)
  | d :: ds, ρ => (stp d (wip ρ own)).bind fun (y, ρ') => match y with
    | none => untL own stp b0 ds ρ'
    | some (.bool b) => if b = b0 then some (b0, ρ') else untL own stp b0 ds ρ'
    | some _ => none
/-- what becomes of a generator's values -/
def gqR (q : GK) (own : List Nat) (stp : D → Env → Option (Option D × Env)) (xs : List D) (ρ : Env) : Option (D × Env) := match q with
  | .all => (untL own stp false xs ρ).map fun (b, ρ') => (.bool b, ρ')
  | .any => (untL own stp true xs ρ).map fun (b, ρ') => (.bool b, ρ')
  | .tuple => (lcL own stp xs ρ).map fun (ys, ρ') => (.tuple ys, ρ')
  | .sum => (lcL own stp xs ρ).bind fun (ys, ρ') => (intsOf ys).map fun ns => (.int ns.sum, ρ')
def noEx {α : Type} : Option (Out α) → Option (α × Env)
  | some (.ok a ρ) => some (a, ρ)
  | _ => none

def collect : List AV → Env → Option (List CArg)
  | [], _ => some []
  | .av d :: r, ρ => (collect r ρ).map (.av d :: ·)
  | .al i :: r, ρ => match ρ[i]? with
    | some (.ol _ xs) => (collect r ρ).map (.al xs :: ·)
    | _ => none
  | .ax i :: r, ρ => match ρ[i]? with
    | some (.ex c) => (collect r ρ).map (.ax c :: ·)
    | _ => none
def bos : List AV → List Nat
  | [] => []
  | .av _ :: r => bos r
  | .ax _ :: r => bos r
  | .al i :: r => i :: bos r
def putB : List Nat → List (List D) → Env → Option Env
  | [], [], ρ => some ρ
  | i :: is, xs :: os, ρ => match ρ[i]? with
    | some (.ol b _) => putB is os (ρ.set i (.ol b xs))
    | _ => none
  | _, _, _ => none
def doCall (c : CF) (f : Nat) (as : List AV) (ρ : Env) : Option (Out Opd) :=
  if (bos as).Nodup then
    (collect as ρ).bind fun cs => match c f cs with
      | some (.ok d os) => (putB (bos as) os ρ).map fun ρ' => .ok (.val d) ρ'
      | some (.ow xs os) => (putB (bos as) os ρ).map fun ρ' => .ok (.new xs) ρ'
      | some (.ex x os) => (putB (bos as) os ρ).map fun ρ' => .ex x ρ'
      | none => none
  else none
def notEx : Slot → Bool
  | .ex _ => false
  | _ => true
/-- the name of an except clause goes -/
def clrX (i : Nat) (ρ : Env) : Option Env := if (ρ.set i .no).all notEx then some (ρ.set i .no) else none
/-- except classes: c is a class below x -/
abbrev Sub := Str → Str → Option Bool

/-- the truth of what came -/
def tstO (r : Option (Out Opd)) : Option (Out Bool) := bnd r fun x ρ => (x.rd ρ).bind fun x => (truD x).map fun t => .ok t ρ
variable (u : Sub) (gc : List D) (c : CF)
mutual
def evE : E → Env → Option (Out Opd)
  | .v i, ρ => match ρ[i]? with
    | some (.sh d) => some (.ok (.val d) ρ)
    | some (.ol _ _) => some (.ok (.own i) ρ)
    | some (.od _ _) => some (.ok (.own i) ρ)
    | _ => none
  | .gi j, ρ => (gc[j]?).map fun d => .ok (.val d) ρ
  | .k d, ρ => some (.ok (.val d) ρ)
  | .bin o a b, ρ => bnd (evE a ρ) fun x ρ => bnd (evE b ρ) fun y ρ =>
      (x.rd ρ).bind fun x => (y.rd ρ).bind fun y => (binD o x y).map fun z => .ok z ρ
  | .neg a, ρ => bnd (evE a ρ) fun x ρ => match x.rd ρ with
    | some (.int i) => some (.ok (.val (.int (-i))) ρ)
    | _ => none
  | .cmp o a b, ρ => bnd (evE a ρ) fun x ρ => bnd (evE b ρ) fun y ρ =>
      (x.rd ρ).bind fun x => (y.rd ρ).bind fun y => (cmpD o x y).map fun z => .ok (.val (.bool z)) ρ
  | .ch o o' a b d, ρ => bnd (evE a ρ) fun x ρ => bnd (evE b ρ) fun y ρ =>
      (x.rd ρ).bind fun x => (y.rd ρ).bind fun y' => (cmpD o x y').bind fun z => match z with
        | false => some (.ok (.val (.bool false)) ρ)
        | true => bnd (evE d ρ) fun w ρ => (y.rd ρ).bind fun y => (w.rd ρ).bind fun w => (cmpD o' y w).map fun z => .ok (.val (.bool z)) ρ
  | .ch3 o o' o2 a b d e, ρ => bnd (evE a ρ) fun x ρ => bnd (evE b ρ) fun y ρ =>
      (x.rd ρ).bind fun x => (y.rd ρ).bind fun y' => (cmpD o x y').bind fun z => match z with
        | false => some (.ok (.val (.bool false)) ρ)
        | true => bnd (evE d ρ) fun w ρ => (y.rd ρ).bind fun y => (w.rd ρ).bind fun w' => (cmpD o' y w').bind fun z => match z with
          | false => some (.ok (.val (.bool false)) ρ)
          | true => bnd (evE e ρ) fun v ρ => (w.rd ρ).bind fun w => (v.rd ρ).bind fun v => (cmpD o2 w v).map fun z => .ok (.val (.bool z)) ρ
  | .no a, ρ => bnd (tstO (evE a ρ)) fun b ρ => some (.ok (.val (.bool (!b))) ρ)
  | .an a b, ρ => bnd (evE a ρ) fun x ρ => match x with
    | .val (.bool true) => evE b ρ
    | .val (.bool false) => some (.ok (.val (.bool false)) ρ)
    | _ => none
  | .orr a b, ρ => bnd (evE a ρ) fun x ρ => match x with
    | .val (.bool true) => some (.ok (.val (.bool true)) ρ)
    | .val (.bool false) => evE b ρ
    | _ => none
  | .ife d a b, ρ => bnd (tstO (evE d ρ)) fun t ρ => match t with
    | true => evE a ρ
    | false => evE b ρ
  | .tup es, ρ => bnd (evEs es ρ) fun ds ρ => if ds.length ≤ line then some (.ok (.val (.tuple ds)) ρ) else none
  | .lst es, ρ => bnd (evEs es ρ) fun ds ρ => if ds.length ≤ line then some (.ok (.new ds) ρ) else none
  | .ix a i, ρ => bnd (evE a ρ) fun x ρ => bnd (evE i ρ) fun y ρ =>
      (x.rd ρ).bind fun x => (y.rd ρ).bind fun y => (ixD x y).map fun z => .ok (.val z) ρ
  | .sl a lo hi, ρ => bnd (evE a ρ) fun x ρ => bnd (evP lo ρ) fun l ρ => bnd (evP hi ρ) fun h ρ =>
      (x.rd ρ).bind fun x => (slD x l h).map fun z => .ok z ρ
  | .call f as, ρ => bnd (evAs as ρ) fun xs ρ => doCall c f xs ρ
  | .b1 b a, ρ => bnd (evE a ρ) fun x ρ => (x.rd ρ).bind fun x => (biD b [x]).map fun z => .ok z ρ
  | .b2 b a d, ρ => bnd (evE a ρ) fun x ρ => bnd (evE d ρ) fun y ρ => (x.rd ρ).bind fun x => (y.rd ρ).bind fun y => (biD b [x, y]).map fun z => .ok z ρ
  | .isi a t, ρ => bnd (evE a ρ) fun x ρ => (x.rd ρ).bind fun x => (isD t x).map fun b => .ok (.val (.bool b)) ρ
  | .isx i x, ρ => match ρ[i]? with
    | some (.ex y) => (u y x).map fun b => .ok (.val (.bool b)) ρ
    | _ => none
  | .lc own g it cs e, ρ => bnd (evIt it ρ) fun xs ρ =>
      if xs.length ≤ line then
        (lcL own (fun d ρ => (asgG g d ρ).bind fun ρ => (noEx (evTs cs ρ)).bind fun (t, ρ) => match t with
          | true => (noEx (bnd (evE e ρ) fun y ρ => frz y ρ)).map fun (y, ρ) => (some y, ρ)
          | false => some (none, ρ)) xs ρ).map fun (ys, ρ') => .ok (.new ys) (unw ρ ρ' own)
      else none
  | .lch own g a cs e, ρ => bnd (bnd (evE a ρ) fun x ρ => bnd (frz x ρ) fun d ρ => match d with
      | .list xs => some (.ok xs ρ)
      | _ => none) fun xs ρ =>
      if xs.length ≤ line then
        (lcL own (fun d ρ => (asgG g d ρ).bind fun ρ => (noEx (evTs cs ρ)).bind fun (t, ρ) => match t with
          | true => (noEx (bnd (evE e ρ) fun y ρ => frz y ρ)).map fun (y, ρ) => (some y, ρ)
          | false => some (none, ρ)) xs ρ).map fun (ys, ρ') => .ok (.new ys) (unw ρ ρ' own)
      else none
  | .lrev a, ρ => bnd (evE a ρ) fun x ρ => match x.rd ρ with
    | some (.list xs) => some (.ok (.new xs.reverse) ρ)
    | _ => none
  | .rv a, ρ => bnd (evE a ρ) fun x ρ => match x.rd ρ with
    | some (.list xs) => some (.ok (.new xs.reverse) ρ)
    | some (.tuple xs) => some (.ok (.val (.tuple xs.reverse)) ρ)
    | _ => none
  | .lr1 a, ρ => bnd (evE a ρ) fun x ρ => match x with
    | .val (.int j) => if okR j && decide (j.toNat ≤ line) then some (.ok (.new (rngL 0 1 j.toNat)) ρ) else none
    | _ => none
  | .lr2 a b, ρ => bnd (evE a ρ) fun x ρ => bnd (evE b ρ) fun y ρ => match x, y with
    | .val (.int i), .val (.int j) => if (okR i && okR j) && decide ((j - i).toNat ≤ line) then some (.ok (.new (rngL i 1 (j - i).toNat)) ρ) else none
    | _, _ => none
  | .lr3 a b d, ρ => bnd (evE a ρ) fun x ρ => bnd (evE b ρ) fun y ρ => bnd (evE d ρ) fun z ρ => match x, y, z with
    | .val (.int i), .val (.int j), .val (.int s) => if (okR i && okR j && (decide (0 < s) && decide (s ≤ 1000000) || s == -1)) && decide (rngN i j s ≤ line) then some (.ok (.new (rngL i s (rngN i j s))) ρ) else none
    | _, _, _ => none
  | .gcd a b, ρ => bnd (evE a ρ) fun x ρ => bnd (evE b ρ) fun y ρ => (x.rd ρ).bind fun x => (y.rd ρ).bind fun y => (gcdD [x, y]).map fun z => .ok z ρ
  | .isq a, ρ => bnd (evE a ρ) fun x ρ => (x.rd ρ).bind fun x => (isqD [x]).map fun z => .ok z ρ
  | .cnt a b, ρ => bnd (evE a ρ) fun x ρ => match x.rd ρ with
    | some (.list _) => bnd (evE b ρ) fun y ρ => (x.rd ρ).bind fun x => (y.rd ρ).bind fun y => match x with
      | .list xs => if flat deep y && flatAll deep xs then some (.ok (.val (.int ((xs.countP fun z => PyData.eqv z y : Nat) : Int))) ρ) else none
      | _ => none
    | _ => none
  | .cntT a b, ρ => bnd (evE a ρ) fun x ρ => match x with
    | .val (.tuple xs) => bnd (evE b ρ) fun y ρ => (y.rd ρ).bind fun y => if flat deep y && flatAll deep xs then some (.ok (.val (.int ((xs.countP fun z => PyData.eqv z y : Nat) : Int))) ρ) else none
    | _ => none
  | .idxT a b, ρ => bnd (evE a ρ) fun x ρ => match x with
    | .val (.tuple xs) => bnd (evE b ρ) fun y ρ => match intsOf xs, y with
      | some ns, .val (.int i) => if i ∈ ns then some (.ok (.val (.int ((ns.idxOf i : Nat) : Int))) ρ) else none
      | _, _ => none
    | _ => none
  | .gq q own g it cs e, ρ => bnd (evIt it ρ) fun xs ρ =>
      if xs.length ≤ line then
        (gqR q own (fun d ρ => (asgG g d ρ).bind fun ρ => (noEx (evTs cs ρ)).bind fun (t, ρ) => match t with
          | true => (noEx (bnd (evE e ρ) fun y ρ => frz y ρ)).map fun (y, ρ) => (some y, ρ)
          | false => some (none, ρ)) xs ρ).map fun (d, ρ') => .ok (.val d) (unw ρ ρ' own)
      else none
  | .ldc a, ρ => bnd (evE a ρ) fun x ρ => match x.rd ρ with
    | some (.list xs) => (pairsK xs).map fun ks => .ok (.val (.int (((dedL [] ks).length : Nat) : Int))) ρ
    | _ => none
  | .idx a b, ρ => bnd (evE a ρ) fun x ρ => match x.rd ρ with
    | some (.list _) => bnd (evE b ρ) fun y ρ => (x.rd ρ).bind fun x => (y.rd ρ).bind fun y => match x with
      | .list xs => if flat deep y && flatAll deep xs then (idxL y xs).map fun (j : Nat) => .ok (.val (.int (j : Int))) ρ else none
      | _ => none
    | _ => none
  | .app i a, ρ => match ρ[i]? with
    | some (.ol _ _) => bnd (evE a ρ) fun x ρ => bnd (frz x ρ) fun d ρ => match ρ[i]? with
      | some (.ol b xs) => if xs.length < line then some (.ok (.val .none) (ρ.set i (.ol b (xs ++ [d])))) else none
      | _ => none
    | _ => none
  | .pop i, ρ => match ρ[i]? with
    | some (.ol b xs) => (xs.getLast?).map fun d => .ok (.val d) (ρ.set i (.ol b xs.dropLast))
    | _ => none
def evP : P → Env → Option (Out (Option Int))
  | .no, ρ => some (.ok none ρ)
  | .so e, ρ => bnd (evE e ρ) fun x ρ => match x.rd ρ with
    | some (.int i) => some (.ok (some i) ρ)
    | _ => none
def evEs : Es → Env → Option (Out (List D))
  | .nil, ρ => some (.ok [] ρ)
  | .cons e es, ρ => bnd (evE e ρ) fun x ρ => bnd (frz x ρ) fun d ρ => bnd (evEs es ρ) fun ds ρ => some (.ok (d :: ds) ρ)
def evAs : As → Env → Option (Out (List AV))
  | .nil, ρ => some (.ok [] ρ)
  | .ex e r, ρ => bnd (evE e ρ) fun x ρ => bnd (frz x ρ) fun d ρ => bnd (evAs r ρ) fun ds ρ => some (.ok (.av d :: ds) ρ)
  | .bo i r, ρ => match ρ[i]? with
    | some (.ol _ _) => bnd (evAs r ρ) fun ds ρ => some (.ok (.al i :: ds) ρ)
    | _ => none
  | .xv i r, ρ => match ρ[i]? with
    | some (.ex _) => bnd (evAs r ρ) fun ds ρ => some (.ok (.ax i :: ds) ρ)
    | _ => none
/-- a clause's tests -/
def evTs : Es → Env → Option (Out Bool)
  | .nil, ρ => some (.ok true ρ)
  | .cons e es, ρ => bnd (tstO (evE e ρ)) fun t ρ => match t with
    | true => evTs es ρ
    | false => some (.ok false ρ)
def evIt : It → Env → Option (Out (List D))
  | .seq e, ρ => bnd (evE e ρ) fun x ρ => bnd (frz x ρ) fun d ρ => (itemsD d).map fun xs => .ok xs ρ
  | .r1 a, ρ => bnd (evE a ρ) fun x ρ => match x with
    | .val (.int j) => if okR j then some (.ok (rngL 0 1 j.toNat) ρ) else none
    | _ => none
  | .r2 a b, ρ => bnd (evE a ρ) fun x ρ => bnd (evE b ρ) fun y ρ => match x, y with
    | .val (.int i), .val (.int j) => if okR i && okR j then some (.ok (rngL i 1 (j - i).toNat) ρ) else none
    | _, _ => none
  | .rc a b d, ρ => bnd (evE a ρ) fun x ρ => bnd (evE b ρ) fun y ρ => bnd (evE d ρ) fun z ρ => match x, y, z with
    | .val (.int i), .val (.int j), .val (.int c) => if okR i && okR j && (decide (0 < c) && decide (c ≤ 1000000) || c == -1) then some (.ok (rngL i c (rngN i j c)) ρ) else none
    | _, _, _ => none
  | .enu e, ρ => bnd (evE e ρ) fun x ρ => bnd (frz x ρ) fun d ρ => (itemsE d).map fun xs => .ok (enuL 0 xs) ρ
  | .zip a b, ρ => bnd (evE a ρ) fun x ρ => bnd (frz x ρ) fun d ρ => bnd (evE b ρ) fun y ρ => bnd (frz y ρ) fun e ρ => (zipD d e).map fun xs => .ok xs ρ
  | .rev e, ρ => bnd (evE e ρ) fun x ρ => bnd (frz x ρ) fun d ρ => (itemsD d).map fun xs => .ok xs.reverse ρ
end
/-- the values of a tuple store, some of them lists of the frame's own -/
def evOs : List (Nat × Bool) → Es → Env → Option (Out (List Opd))
  | [], .nil, ρ => some (.ok [] ρ)
  | (_, false) :: ts, .cons e es, ρ => bnd (evE u gc c e ρ) fun x ρ => bnd (frz x ρ) fun d ρ => bnd (evOs ts es ρ) fun zs ρ => some (.ok (.val d :: zs) ρ)
  | (_, true) :: ts, .cons e es, ρ => bnd (evE u gc c e ρ) fun x ρ => match x with
    | .new xs => bnd (evOs ts es ρ) fun zs ρ => some (.ok (.new xs :: zs) ρ)
    | _ => none
  | _, _, _ => none
def setOs : List (Nat × Bool) → List Opd → Env → Option Env
  | [], [], ρ => some ρ
  | (i, _) :: ts, .val d :: zs, ρ => (setSlot i (.sh d) ρ).bind fun ρ => setOs ts zs ρ
  | (i, _) :: ts, .new xs :: zs, ρ => (setSlot i (.ol false xs) ρ).bind fun ρ => setOs ts zs ρ
  | _, _, _ => none
def evT (e : E) (ρ : Env) : Option (Out Bool) := tstO (evE u gc c e ρ)

def forL (b : D → Env → Option SOut) : List D → Env → Option SOut
  | [], ρ => some (.nx ρ)
  | d :: ds, ρ => match b d ρ with
    | some (.nx ρ) => forL b ds ρ
    | some (.ct ρ) => forL b ds ρ
    | some (.bk ρ) => some (.nx ρ)
    | r => r
/-- one turn of a while: its end, or the slots ahead of the next one -/
def stW (t : Env → Option (Out Bool)) (b : Env → Option SOut) (ρ : Env) : Option (SOut ⊕ Env) :=
  match t ρ with
  | none => none
  | some (.ex x ρ) => some (.inl (.ex x ρ))
  | some (.ok false ρ) => some (.inl (.nx ρ))
  | some (.ok true ρ) => match b ρ with
    | none => none
    | some (.nx ρ) => some (.inr ρ)
    | some (.ct ρ) => some (.inr ρ)
    | some (.bk ρ) => some (.inl (.nx ρ))
    | some (.rt d ρ) => some (.inl (.rt d ρ))
    | some (.ro xs ρ) => some (.inl (.ro xs ρ))
    | some (.ex x ρ) => some (.inl (.ex x ρ))
def whL (t : Env → Option (Out Bool)) (b : Env → Option SOut) (ρ : Env) : Option SOut := do
  match ← stW t b ρ with
  | .inl s => some s
  | .inr ρ => whL t b ρ
partial_fixpoint
def bnS {α : Type} (m : Option (Out α)) (f : α → Env → Option SOut) : Option SOut :=
  match m with
  | some (.ok a ρ) => f a ρ
  | some (.ex x ρ) => some (.ex x ρ)
  | none => none
@[simp] theorem bnS_ok {α : Type} {a : α} {ρ : Env} {f : α → Env → Option SOut} : bnS (some (.ok a ρ)) f = f a ρ := rfl
@[simp] theorem bnS_ex {α : Type} {x : Str} {ρ : Env} {f : α → Env → Option SOut} : bnS (some (.ex x ρ)) f = some (.ex x ρ) := rfl
@[simp] theorem bnS_none {α : Type} {f : α → Env → Option SOut} : bnS none f = none := rfl
mutual
def exS : S → Env → Option SOut
  | .asg i e, ρ => bnS (evE u gc c e ρ) fun x ρ => bnS (frz x ρ) fun d ρ => (setSlot i (.sh d) ρ).map .nx
  | .asgO i e, ρ => bnS (evE u gc c e ρ) fun x ρ => match x with
    | .new xs => (setSlot i (.ol false xs) ρ).map .nx
    | _ => none
  | .asgG g e, ρ => bnS (evE u gc c e ρ) fun x ρ => bnS (frz x ρ) fun d ρ => (asgG g d ρ).map .nx
  | .par gs es, ρ => bnS (evEs u gc c es ρ) fun ds ρ => (asgGs gs ds ρ).map .nx
  | .parO ts es, ρ => bnS (evOs u gc c ts es ρ) fun zs ρ => (setOs ts zs ρ).map .nx
  | .st a i e, ρ => bnS (evE u gc c e ρ) fun x ρ => bnS (frz x ρ) fun d ρ => match ρ[a]? with
    | some (.ol _ _) => bnS (evE u gc c i ρ) fun y ρ => match ρ[a]?, y.rd ρ with
      | some (.ol b xs), some (.int k) => (ixOf xs.length k).map fun j => .nx (ρ.set a (.ol b (xs.set j d)))
      | _, _ => none
    | _ => none
  | .aug i o e, ρ => match ρ[i]? with
    | some (.sh (.int m)) => bnS (evE u gc c e ρ) fun y ρ => match y.rd ρ with
      | some (.int n) => (binI o m n).bind fun z => (setSlot i (.sh (.int z)) ρ).map .nx
      | _ => none
    | _ => none
  | .ex e, ρ => bnS (evE u gc c e ρ) fun _ ρ => some (.nx ρ)
  | .ret e, ρ => bnS (evE u gc c e ρ) fun x ρ => bnS (frz x ρ) fun d ρ => some (.rt d ρ)
  | .retO e, ρ => bnS (evE u gc c e ρ) fun x ρ => match x with
    | .new xs => some (.ro xs ρ)
    | _ => none
  | .retN, ρ => some (.rt .none ρ)
  | .ifs t a b, ρ => bnS (evT u gc c t ρ) fun t ρ => match t with
    | true => exSs a ρ
    | false => exSs b ρ
  | .forr g it b, ρ => bnS (evIt u gc c it ρ) fun xs ρ => forL (fun d ρ => (asgG g d ρ).bind fun ρ => exSs b ρ) xs ρ
  | .whl t b, ρ => whL (fun ρ => evT u gc c t ρ) (fun ρ => exSs b ρ) ρ
  | .brk, ρ => some (.bk ρ)
  | .cnt, ρ => some (.ct ρ)
  | .pass, ρ => some (.nx ρ)
  | .rais x, ρ => some (.ex x ρ)
  | .tri b x i h, ρ => match exSs b ρ with
    | some (.ex y ρ) => (u y x).bind fun t => match t with
      | false => some (.ex y ρ)
      | true => (setSlot i (.ex y) ρ).bind fun ρ => match exSs h ρ with
        | some (.nx ρ) => (clrX i ρ).map .nx
        | some (.bk ρ) => (clrX i ρ).map .bk
        | some (.ct ρ) => (clrX i ρ).map .ct
        | some (.rt d ρ) => (clrX i ρ).map (.rt d)
        | _ => none
    | r => r
def exSs : Ss → Env → Option SOut
  | .nil, ρ => some (.nx ρ)
  | .cons s r, ρ => match exS s ρ with
    | some (.nx ρ) => exSs r ρ
    | r => r
end

structure Fn where
  np : Nat
  ns : Nat
  body : Ss
def slotOf : CArg → Slot
  | .av d => .sh d
  | .al xs => .ol true xs
  | .ax c => .ex c
def enter (fn : Fn) (as : List CArg) : Env := as.map slotOf ++ List.replicate (fn.ns - as.length) .no
/-- what the lent lists hold at the end -/
def outsL : List CArg → Env → Option (List (List D))
  | [], _ => some []
  | .av _ :: r, _ :: ρ => outsL r ρ
  | .ax _ :: r, _ :: ρ => outsL r ρ
  | .al _ :: r, .ol true xs :: ρ => (outsL r ρ).map (xs :: ·)
  | _, _ => none
def finF (as : List CArg) : Option SOut → Option FOut
  | some (.nx ρ) => (outsL as ρ).map fun os => .ok .none os
  | some (.rt d ρ) => (outsL as ρ).map fun os => .ok d os
  | some (.ro xs ρ) => (outsL as ρ).map fun os => .ow xs os
  | some (.ex x ρ) => (outsL as ρ).map fun os => .ex x os
  | _ => none
def callF (u : Sub) (gc : List D) (T : List Fn) : Nat → CF
  | 0, _, _ => none
  | k + 1, f, as => match T[f]? with
    | some fn => if as.length = fn.np then finF as (exSs u gc (callF u gc T k) fn.body (enter fn as)) else none
    | none => none
end RX

end
section
set_option Elab.async false
set_option linter.all false
set_option maxRecDepth 100000
set_option maxHeartbeats 4000000
set_option autoImplicit false
/-! calls and list comprehensions while an exception is handled -/
namespace RX
open PySem PySem.Spec PyProof.Rows L2 HotX L2H
section
variable {prog : Program} {w : World} {A : Around} {E : Value → Shared → Prop} {s : Shared}
/-- a list's iterator is done; the exception that StopIteration is chained to stands at y -/
theorem next_end_hot {y t l : Addr} {k : Nat} {xs : Array Value} {Q : Option Value → Shared → Prop} (hot : HotAt A y s.heap) (st : s.heap.IsListIter t l k) (hl : s.heap.IsList l xs) (hk : xs[k]? = none)
    (done : ∀ g, Heap.ExtBut t s.heap g → Q none { s with heap := g }) (ny : y ≠ t) : wpAny (model prog w) A (pyNext (.ref t)) Q E s := by
  obtain ⟨ot, e1, e2, e3⟩ := id st
  obtain ⟨ol, f1, _, m, f2⟩ := hl
  obtain ⟨hy, oy, vy, y1, y2, y3⟩ := hot
  unfold pyNext
  refine wpAny_bind (wpAny_attempt (wpAny_callSpecial?_slot (name := Str.ofString "__next__") st.typeIs slot_listiter_next (wpAny_call_entry slot_listiter_next st.typeIs entry_listiter_next ?_ (args_listiter_next _))))
  show wpAny _ _ (field (Value.ref t) 0 >>= _) _ _ s
  refine wpAny_bind (wpAny_field e1 e3 (x := Value.ref l) rfl ?_)
  show wpAny _ _ (if (Value.ref l == Value.none) = true then _ else _) _ _ s
  rw [if_neg (show ¬ (Value.ref l == Value.none) = true from nofun)]
  show wpAny _ _ (field (Value.ref t) 1 >>= _) _ _ s
  refine wpAny_bind (wpAny_field e1 e3 (x := Value.int k 0) rfl ?_)
  show wpAny _ _ (seqItems? (Value.ref l) >>= _) _ _ s
  refine wpAny_bind (wpAny_seqItems f1 f2 ?_)
  simp only [Int.toNat_natCast, hk]
  refine wpAny_bind (wpAny_rule (wpAny_bind (wpAny_setField e1 e3 (by simp) ?_)))
  show wpAny _ _ (newExc (Value.type "StopIteration") [] >>= _) _ _ _
  have y1' := (Heap.SameBut.update (h := s.heap) (a := t) (f := Obj.mapFields (·.setIfInBounds 0 Value.none)) ..).2 y ny
  refine wpAny_bind ?_
  simp only [newExc, newTuple]
  refine wpAny_bind (wpAny_newObj_type ?_ (by size_fits))
  refine wpAny_bind (m := firstArgMember _ _) (wpAny_of_eq (a := Value.none) (by first | rfl | (simp only [firstArgMember]; rfl)) ?_)
  refine wpAny_newObj_type ?_ (by size_fits)
  have z1 := y1'.trans y1
  refine raiseNew_hot ⟨hy, oy, vy, Heap.get?_push_of_some _ (Heap.get?_push_of_some _ z1), y2, y3⟩ (Nat.ne_of_lt (Heap.lt_size (Heap.get?_push_of_some _ z1))) (Heap.get?_push_size _ rfl) rfl (by first | (simp; done) | (simp; omega) | (simp only [Array.size_append]; simp; omega)) ?_
  refine wpAny_bind (wpAny_isInstance (T := "StopIteration") (b := true) ⟨_, Heap.get?_update_self _ (Heap.get?_push_size _ rfl) rfl, rfl⟩ isSubtype_stop ?_)
  refine wpAny_pure (done _ ?_)
  intro b o hb e
  have e' := ((Heap.SameBut.update (h := s.heap) (a := t) (f := Obj.mapFields (·.setIfInBounds 0 Value.none)) ..).2 b hb).trans e
  have e2' := Heap.get?_push_of_some { cls := Value.type "tuple", data := Data.seq #[] } e'
  rw [Heap.get?_update_other _ _ (Nat.ne_of_gt (Heap.lt_size e2'))]
  exact Heap.get?_push_of_some _ e2'
end
/-! ### a list comprehension over a list -/
section
variable {X : Cx} {pins : List (Addr × Obj)} {σ : L2.St} {H : Hp} {s : Shared}
/-- the handled exception's object: a pin of the context, its context None -/
def HotP (X : Cx) (p : Addr × Obj) : Prop := Hot1 X.A p ∧ p ∈ X.pn
/-- [elt for tg in iter if ..], iter a list: J the walk of it, D the new list -/
def tLcL (tl : TE) (g : TG) (tt : TT) (te : TE) (vs : List Nat) : TE := fun σ H Q => tl σ H fun x H1 => ∃ a xs, x = .ref a ∧ SqL X.K H1 a xs ∧ ∀ D, H1 D = none → ∃ Pv : Nat → Hp → Prop, Pv 0 (upd H1 D (.lst [])) ∧ (∀ i H, i ≤ xs.length → Pv i H → SqL X.K H a xs) ∧
  (∀ i y H, xs[i]? = some y → Pv i H → g y (wipe σ vs) H fun σ2 H2 => wipe σ2 vs = wipe σ vs ∧ tt σ2 H2 fun b H3 =>
    if b = true then te σ2 H3 fun z H4 => ∃ acc, H4 D = some (.lst acc) ∧ acc.length < sizeLine ∧ Pv (i + 1) (upd H4 D (.lst (acc ++ [z]))) else Pv (i + 1) H3) ∧
  ∀ H, Pv xs.length H → Q (.ref D) H
theorem pe_lcH {elt tg iter : PySem.Expr} {ifs : List PySem.Expr} {scope : Scope} {own : List (Str × Nat)} {pos : Pos} {tl : TE} {g : TG} {tt : TT} {te : TE} {p : Addr × Obj} (hp : HotP X p) (hN : X.N.Nodup) (hl : PE X iter tl) (ok : BlkOk X.N X.env.scope scope own)
    (hg : ∀ (s : Shared) (H : Hp) (C : Addr) (cl : List (Str × Addr)) (fp : List Addr), PG (X.blk s H scope (compEnvC scope cl C X.env) fp) tg g)
    (ht : ∀ (s : Shared) (H : Hp) (C : Addr) (cl : List (Str × Addr)) (fp : List Addr), PTs (X.blk s H scope (compEnvC scope cl C X.env) fp) ifs tt)
    (he : ∀ (s : Shared) (H : Hp) (C : Addr) (cl : List (Str × Addr)) (fp : List Addr), PE (X.blk s H scope (compEnvC scope cl C X.env) fp) elt te)
    (hs : ∀ x, foldedSetIterable iter X.env x = pure x) : PE X (.ListComp elt [⟨tg, iter, ifs, 0⟩] scope pos) (tLcL (X := X) tl g tt te (own.map (·.2))) := by
  refine ⟨fun pins s σ H Q I h => ?_⟩
  rw [eval_ListComp]
  obtain ⟨hot, hpn⟩ := hp
  have clos : ∀ y ∈ scope.names, y.2 = .free → ∃ c, X.env.cells.lookup y.1 = some c := fun y hy e => (ok.free y hy e).elim (fun k => I.ok.has _ (.inl k)) fun k => I.ok.has _ (.inr k)
  refine wpAny_comprehension_free rfl hs (closure_ok clos) ok.kind (fun y hy e => by rw [ok.uniq y hy, e]) (thn (hl.run pins s σ H _ I h) fun xv s1 ⟨x, H1, I1, r1, a, xs, ex, hq, q⟩ => ?_)
  subst ex
  cases r1
  obtain ⟨its, rv, pl, hz⟩ := I1.list hq
  refine wpAny_pyIter_list pl.isList ?_
  -- the iterator t, the new list D
  obtain ⟨t, et⟩ : ∃ t, t = s1.heap.objs.size := ⟨_, rfl⟩
  generalize e2 : ({ s1 with heap := s1.heap.push { cls := .type "list_iterator", data := .fields #[.ref a, .int 0 0] } } : Shared) = s2
  have I2 : Inv X pins σ H1 s2 := by rw [← e2]; exact I1.kept (t' := s1.toks) fun b o e => Heap.get?_push_of_some _ e
  have t2 : s2.heap.IsListIter t a 0 := by rw [← e2, et]; exact ⟨_, Heap.get?_push_size _ rfl, rfl, rfl⟩
  have k2 : FpOk X pins H1 t := by rw [et]; exact I1.fpOk (Nat.le_refl _) (I1.hok.fresh (Nat.le_refl _))
  have l2 : t < s2.heap.objs.size := by obtain ⟨o, e, _⟩ := id t2; exact Heap.lt_size e
  rw [← et]
  refine wpAny_newObj_type (newEnv_comp ?_) (by show 0 ≤ sizeLine; decide)
  obtain ⟨D, eD⟩ : ∃ D, D = s2.heap.objs.size := ⟨_, rfl⟩
  have nD : H1 D = none := I2.hok.fresh (Nat.le_of_eq eD.symm)
  obtain ⟨Pv, p0, pS, pN, pE⟩ := q D nD
  generalize e3 : ({ s2 with heap := s2.heap.push { cls := .type "list", data := .seq ([] : List Value).toArray } } : Shared) = s3
  have I3 : Inv X pins σ (upd H1 D (.lst [])) s3 := by
    rw [← e3]
    refine I2.laid (t' := s2.toks) (fun b o e => Heap.get?_push_of_some _ e) (Nat.le_of_eq eD.symm) ⟨Nat.zero_le _, [], 0, .nil, ?_⟩
    rw [eD]; exact Heap.get?_push_size _ rfl
  have up3 : ∀ b o, s2.heap.get? b = some o → s3.heap.get? b = some o := fun b o e => by rw [← e3]; exact Heap.get?_push_of_some _ e
  have k3 : ∀ b ∈ [t], FpOk X pins (upd H1 D (.lst [])) b ∧ b < s3.heap.objs.size := fun b hb => by
    obtain rfl : b = t := by simpa using hb
    obtain ⟨o, e, _⟩ := id t2
    exact ⟨⟨by rw [upd_ne (by rw [eD]; exact Nat.ne_of_lt l2)]; exact k2.1, k2.2⟩, Heap.lt_size (up3 _ _ e)⟩
  have I4 := block_start I3 ok hN k3
  generalize eH : upd H1 D (.lst []) = H3 at I3 I4 k3 p0
  have pg := hg s3 H3 s3.heap.objs.size (cellsFrom (s3.heap.objs.size + 1) scope.names (cloFrom X.env.cells scope.names [])) [t]
  have pt := ht s3 H3 s3.heap.objs.size (cellsFrom (s3.heap.objs.size + 1) scope.names (cloFrom X.env.cells scope.names [])) [t]
  have pe := he s3 H3 s3.heap.objs.size (cellsFrom (s3.heap.objs.size + 1) scope.names (cloFrom X.env.cells scope.names [])) [t]
  rw [← eD]
  show codeAny _ _ (.compStart (.ListComp elt [⟨tg, iter, ifs, 0⟩] scope pos) 0 (.ref t) (.ref D) (compEnvC scope (cellsFrom (s3.heap.objs.size + 1) scope.names (cloFrom X.env.cells scope.names [])) s3.heap.objs.size X.env)) (compPost (model X.prog X.w) X.A X.xe none _ (.ref D) s3.heap.objs.size) { s3 with heap := pushCells (s3.heap.push { cls := .type "dict", data := .dict #[] }) scope.names }
  generalize eC : compEnvC scope (cellsFrom (s3.heap.objs.size + 1) scope.names (cloFrom X.env.cells scope.names [])) s3.heap.objs.size X.env = ce at I4 pg pt pe ⊢
  have cL : ce.locals = s3.heap.objs.size := by subst eC; rfl
  generalize e4 : ({ s3 with heap := pushCells (s3.heap.push { cls := .type "dict", data := .dict #[] }) scope.names } : Shared) = s4 at I4 ⊢
  have t4 : s4.heap.IsListIter t a 0 := (t2.at fun o e => up3 _ _ e).at fun o e => by rw [← e4]; exact pushCells_keeps _ _ _ _ (Heap.get?_push_of_some _ e)
  have n3 : H3 t = none := (k3 t (by simp)).1.1
  -- the iterator may turn within the block
  have may : ∀ {σ' : L2.St} {H' : Hp} {s' : Shared}, Inv (X.blk s3 H3 scope ce [t]) [] σ' H' s' → H' t = none → FpOk (X.blk s3 H3 scope ce [t]) [] H' t := fun {σ' H' s'} I' n => ⟨n, (I'.ok.exf t (by simp)).1, I'.ok.exfs t (by simp), .inl (by simp), fun x c e => (I'.ok.exf t (by simp)).2 x c e, fun p hp => absurd (show p ∈ ([] : List (Addr × Obj)) ++ [] from hp) (by simp)⟩
  -- the handled exception stands as it stood
  have P3 := I3.pin p (List.mem_append_left _ hpn)
  have heat : ∀ {σ' : L2.St} {H' : Hp} {s' : Shared}, Inv (X.blk s3 H3 scope ce [t]) [] σ' H' s' → HotAt X.A p.1 s'.heap ∧ p.1 ≠ t := fun {σ' H' s'} I' => by
    have nt : p.1 ≠ t := (k3 t (by simp)).1.2.2.2.2.2 p (List.mem_append_left _ hpn)
    obtain ⟨hh, vs, d1, d2⟩ := hot
    refine ⟨⟨hh, p.2, vs, ?_, d1, d2⟩, nt⟩
    refine I'.base.keep p.1 p.2 P3.1 P3.2.1 (fun hm => ?_) (by simpa using nt)
    exact (List.mem_cons.mp (I3.stkSub p.1 hm)).elim P3.2.2.1 P3.2.2.2.1
  have loop : codeAny (model X.prog X.w) X.A (.compLoop (.ListComp elt [⟨tg, iter, ifs, 0⟩] scope pos) 0 (.ref t) (.ref D) ce) (compPost (model X.prog X.w) X.A X.xe none (EP X pins σ Q) (.ref D) s3.heap.objs.size) s4 := by
    refine compLoop_any (fun m s' => ∃ i H', m = xs.length - i ∧ i ≤ xs.length ∧ Inv (X.blk s3 H3 scope ce [t]) [] (wipe σ (own.map (·.2))) H' s' ∧ s'.heap.IsListIter t a i ∧ H' t = none ∧ Pv i H') ?_ xs.length ⟨0, H3, rfl, Nat.zero_le _, I4, t4, n3, p0⟩
    rintro m s5 ⟨i, H5, rfl, hi, I5, t5, n5, w5⟩
    have hq5 := pS i H5 hi w5
    obtain ⟨its5, rv5, pl5, hz5⟩ := I5.list hq5
    have f5 := may I5 n5
    obtain ⟨f0, f1, f2, f3, f4, f6⟩ := f5
    by_cases hlt : i < xs.length
    · obtain ⟨uu, hu, ru⟩ := rv5.get (List.getElem?_eq_getElem hlt)
      refine wpAny_pyNext_list_item t5 pl5.isList (x := uu) (by simpa using hu) fun h6 t6 sb => ?_
      have I6 : Inv (X.blk s3 H3 scope ce [t]) [] (wipe σ (own.map (·.2))) H5 { s5 with heap := h6 } := I5.turned (t' := s5.toks) (fun b o hb e => (sb.2 b hb).trans e) f0 f1 f3 f4 f6
      obtain ⟨o6, g1, g2, g3⟩ := id t6
      refine go_of (s := { s5 with heap := h6 }) g1 g2 g3 (by decide) ?_
      have hobj : ∀ b ∈ [t], ∃ o, ({ s5 with heap := h6 } : Shared).heap.get? b = some o ∧ ∀ v, o.data ≠ .cell v := fun b hb => by
        obtain rfl : b = t := by simpa using hb
        exact ⟨o6, g1, fun v z => by rw [g3] at z; cases z⟩
      have I6' := I6.pinned (fun b hb => by
        obtain rfl : b = t := by simpa using hb
        exact may I6 n5) hobj
      refine thnF (pg.run _ { s5 with heap := h6 } _ H5 _ uu _ I6' ru (pN i _ H5 (List.getElem?_eq_getElem hlt) w5)) fun _ s8 ⟨σ8, H8, I8, hw8, q8⟩ => ?_
      refine thnF (pt.run _ s8 σ8 H8 _ I8 q8) fun b s9 ⟨H9, I9, q9⟩ => ?_
      have fin : ∀ {s' : Shared} {H' : Hp}, Inv (X.blk s3 H3 scope ce [t]) ([] ++ pinsAt [t] ({ s5 with heap := h6 } : Shared).heap) σ8 H' s' → Pv (i + 1) H' →
          ∃ m', m' < xs.length - i ∧ ∃ j H', m' = xs.length - j ∧ j ≤ xs.length ∧ Inv (X.blk s3 H3 scope ce [t]) [] (wipe σ (own.map (·.2))) H' s' ∧ s'.heap.IsListIter t a j ∧ H' t = none ∧ Pv j H' := fun {s' H'} I' nx => by
        have z := I'.pin (t, o6) (List.mem_append_right _ (List.mem_append_right _ (mem_pinsAt (by simp) g1)))
        have hlen : (wipe σ (own.map (·.2))).length = σ8.length := by rw [← hw8, wipe_length]
        refine ⟨xs.length - (i + 1), by omega, i + 1, H', rfl, hlt, (I'.unpinned (pins := [])).weak hlen (fun j v e => ?_), ⟨o6, z.1, g2, g3⟩, z.2.1, nx⟩
        rw [← hw8] at e
        exact (wipe_some e).1
      cases b with
      | false =>
        simp only [Bool.false_eq_true, if_false] at q9 ⊢
        exact fin I9 q9
      | true =>
        simp only [if_true] at q9 ⊢
        refine thnF (pe.run _ s9 σ8 H9 _ I9 q9) fun z s10 ⟨yv, H10, I10, r10, acc, hD10, hz10, nx⟩ => ?_
        exact app_ok (X := X.blk s3 H3 scope ce [t]) I10 hD10 hz10 r10 fun s11 I11 => fin I11 nx
    · obtain rfl : i = xs.length := by omega
      obtain ⟨hh, nt⟩ := heat I5
      refine next_end_hot hh t5 pl5.isList (by have := rv5.length; simp; omega) (fun h6 eb => ?_) nt
      have I6 : Inv (X.blk s3 H3 scope ce [t]) [] (wipe σ (own.map (·.2))) H5 { s5 with heap := h6 } := I5.turned (t' := s5.toks) (fun b o hb e => eb b o hb e) f0 f1 f3 f4 f6
      have I7 : Inv X pins σ H5 { s5 with heap := h6 } := I3.call' (ch := [t]) I6.os I6.base I6.hok I6.bare fun b hb => ⟨(k3 b hb).1.2.2.2.1, (k3 b hb).1.2.1, (k3 b hb).1.2.2.2.2.1, (k3 b hb).1.2.2.2.2.2⟩
      have nC : H5 s3.heap.objs.size = none := by
        have z : H5 ce.locals = none := I6.free
        rw [cL] at z; exact z
      obtain ⟨mm, hn, _⟩ := I6.loc
      have hn : ({ s5 with heap := h6 } : Shared).heap.Ns ce.locals mm := hn
      rw [cL] at hn
      obtain ⟨c0, c1, c2, c3, c4, c5⟩ := I3.fpOk (Nat.le_refl _) nC
      exact ⟨mm, hn, fun h'' sb => ⟨.ref D, H5, I7.turned (t' := s5.toks) (fun b o hb e => (sb.2 b hb).trans e) c0 c1 c3 c4 c5, rfl, pE H5 w5⟩⟩
  exact codeAny_compStart_list loop (wpAny_pyIter_listiter t4 loop)
end
/-! ### defs that are called while the exception p is handled -/
structure FnE (P : Program) (w : World) (K : PySem.W.Frag) (mg : Str → Option Value) (base : Heap) (C : CXT) (k : Nat) (f : Addr) (fd : FuncData) (ps : List Str) (sp : Addr × Obj → Sp) : Prop where
  len : ∀ p vs H Q E, sp p vs H Q E → vs.length = ps.length
  run : ∀ (A : Around) (outer : List PySem.Env) (s : Shared) (H : Hp) (args : Args) (us : List Value) (vs : List V) (Q : VK) (E : XK) (p : Addr × Obj), RoomH k A → Hot1 A p → PinOk outer H s p → Env0 P w K mg base A outer s H → BindsTo s fd args (ps.zip us) → Vals vs us →
    sp p vs H Q E → codeAny (model P w) A (.call (.ref f) args) (CR C outer P w H s Q E) s
section
variable {P : Program} {w : World} {K : PySem.W.Frag} {mg : Str → Option Value} {base : Heap} {CX : CXT} {k : Nat} {f : Addr} {fd : FuncData} {N ps : List Str} {sp : Addr × Obj → Sp} {x qual : Str} {st : Stmt}
theorem fn_hot (Fu : Fun K x qual st f fd) (S : FnScope N ps (defScope st)) (len : ∀ p vs H Q E, sp p vs H Q E → vs.length = ps.length)
    (body : ∀ (cdv : Value) (A : Around) (outer : List PySem.Env) (s : Shared) (H : Hp) (vs : List V) (Q : VK) (E : XK) (p : Addr × Obj), Hot1 A p → RoomH k (A.deeper (envOfC qual (defScope st) s.heap.objs.size f cdv)) → sp p vs H Q E →
      ∃ t, PSs (cxH CX P w K mg base N qual (defScope st) f cdv A outer s H E p) (defBody st) t ∧ t { nx := fun _ H' => Q .non H', rt := Q } (L2.start N vs) H) : FnE P w K mg base CX (k + 1) f fd ps sp := by
  obtain ⟨oc, od, kV, doc, pm, an, cdv, ct, osl, rfl, look, code⟩ := Fu.ex
  refine ⟨len, fun A outer s H args us vs Q E p room hot pin e0 bind rel asked => ?_⟩
  have inK : K.In s.heap := e0.mod.kin.keeps fun b o e => (e0.bs b o e).1
  have nolim : s.heap.NoLimit := e0.mod.nolimit.keeps fun b o e => (e0.bs b o e).1
  have kinds : ∀ y ∈ ps.zip us, (defScope st).names.lookup y.1 = some .local ∨ ((defScope st).names.lookup y.1 = some .cell ∧ ((cellsFrom (s.heap.objs.size + 1) (defScope st).names []).lookup y.1).isSome = true) := fun y hy =>
    (S.par y.1 (List.of_mem_zip hy).1).imp id fun q => ⟨q, PySem.W.cellsFrom_some _ _ _ (.inl q)⟩
  refine codeAny_call_function room.depth (inK _ _ look) rfl S.co S.gen rfl (PySem.W.codeRec_of inK code) (bind _ _ _ _ (wpAny_newFunctionEnv_cells S.kind kinds fun env he s1 x => ?_))
  subst he
  refine ⟨nolim.keeps x.toInCall.keep, codeAny_func ?_⟩
  obtain ⟨t, ht, told⟩ := body cdv A outer s H vs Q E p hot (room.deeper _) asked
  refine wpAny_mono (ht.run [] s1 (L2.start N vs) H _ (inv_startH S pin e0 (len _ _ _ _ _ asked) rel x) told) (fun fl s' hs => ?_) fun _ _ hs => hs
  cases fl with
  | ret u => obtain ⟨v, σ', H', J, rv, q⟩ := hs; exact ⟨v, H', J.os, J.bare, J.base, J.hok, rv, q⟩
  | next => obtain ⟨σ', H', J, q⟩ := hs; exact ⟨V.non, H', J.os, J.bare, J.base, J.hok, (rfl : RelV V.non Value.none), q⟩
  | brk => obtain ⟨_, _, _, q⟩ := hs; exact q.elim
  | cont => obtain ⟨_, _, _, q⟩ := hs; exact q.elim
end
section
variable {X : Cx} {CX : CXT} {k : Nat} {f : Addr} {fd : FuncData} {ps : List Str} {sp : Addr × Obj → Sp} {E : L2.St → XK} {x : Str} {q pos : Pos} {e : PySem.Expr} {es : List PySem.Expr} {t : TA} {p : Addr × Obj}
theorem pe_hot (G : FnE X.prog X.w X.K X.mg X.base CX k f fd ps sp) (room : RoomH k X.A) (hp : HotP X p) (hg : Gl X x) (hm : X.mg x = some (.ref f)) (hk : PySem.W.keepIn X.K (.ref f) = true) (hb : Binds X.K fd ps []) (pass : ∀ σ, PassesAt CX X σ (E σ))
    (ha : PA X (e :: es) t) (hdb : (x == ("__debug__" : Str)) = false) (he : starEach (e :: es) X.env = (false, eval e X.env) :: starEach es X.env) (hpl : (backTo pos (starEach es X.env)).any (·.1) = false) :
    PE X (.Call (.Name x q) (e :: es) [] pos) (tCallS (sp p) E t) := by
  refine ⟨fun pins s σ H Q I h => wpAny_Call_Name_kw (ld_glob I hg hm (PySem.W.callWith_K (h₀ := X.base) I.ok.mod.kin hk (thn (ha.run pos pins s σ H _ I h) fun us s1 ⟨vs, H1, I1, r, asked⟩ => ⟨I1.kIn, ?_⟩) he hpl) hdb)⟩
  have lenU : us.length = ps.length := by rw [← r.length]; exact G.len _ _ _ _ _ asked
  have bind := hb s1 us I1.kIn (by rw [List.append_nil]; exact lenU)
  rw [List.append_nil] at bind
  obtain ⟨g1, g2, g3, g4, g5⟩ := I1.pin p (List.mem_append_left _ hp.2)
  have pin : PinOk X.stack H1 s1 p := ⟨g1, g2, fun hm => (List.mem_cons.mp (I1.stkSub p.1 hm)).elim g3 g4, g5⟩
  refine wpAny_call (codeAny_mono (G.run X.A X.stack s1 H1 ⟨us, []⟩ us vs Q (E σ) p room hp.1 pin I1.env0 bind r asked) fun r s' hq => ?_)
  cases r with
  | error e => exact pass σ pins H1 s1 e s' I1 hq
  | ok fl =>
    cases fl with
    | ret u => exact I1.after hq
    | next => exact False.elim hq
    | brk => exact False.elim hq
    | cont => exact False.elim hq
end
end RX

end
section
set_option Elab.async false
set_option linter.all false
set_option maxRecDepth 100000
set_option maxHeartbeats 4000000
set_option autoImplicit false
/-! list(reversed(a list)) -/
namespace RX
open PySem PySem.Spec PyProof.Rows L2 RT
section
variable {prog : Program} {w : World} {A : Around} {E : Value → Shared → Prop} {s : Shared}
/-- what a list takes of a list's reversed iterator t -/
theorem fill_rev {R : Result → Shared → Prop} {t l N : Addr} {xs : Array Value} (calm : A.handled = none) (ht : s.heap.IsRevIter t l ((xs.size : Int) - 1)) (hl : s.heap.IsList l xs) (nlt : l ≠ t) (few : xs.size ≤ sizeLine) (nNt : N ≠ t) (nNl : N ≠ l)
    (hN : s.heap.get? N = some { cls := .type "list", data := .seq #[] })
    (told : ∀ (g : Heap) (k : Nat) (ys : Array Value) (c : Nat), (∀ b o, b ≠ N → b ≠ t → s.heap.get? b = some o → g.get? b = some o) → g.get? N = some { cls := .type "list", dict := none, data := .seq ys c, slots := #[] } →
      ItemsOf (fun i v => xs[xs.size - 1 - i]? = some v) ys xs.size → R (.ok (.ret .none)) { s with heap := g, toks := k }) :
    wpAny (model prog w) A.in1 (Builtin.«list.__init__» ⟨[.ref N, .ref t], []⟩)
      (fun fin s' => match fin with | .done f => R (.ok f) s' | .again c' => c'.quiet = true ∧ codeAny (model prog w) A c' R s') (fun e s' => R (.error e) s') s := by
  have W := (Walks.listRev (prog := prog) (w := w) (A := A.in1) calm t l nlt xs).toS
  have out : N ∉ [t, l] := by simp only [List.mem_cons, List.not_mem_nil, or_false, not_or]; exact ⟨nNt, nNl⟩
  show wpAny _ A.in1 (do let old ← Builtin.List.listItems (Value.ref N); Builtin.List.listUpdate (Value.ref N) (fun _ => #[]); letGo old.toList.reverse; Builtin.List.listExtendWith (Value.ref N) (Value.ref t) Value.none) _ _ s
  refine wpAny_bind ?_
  unfold Builtin.List.listItems
  refine wpAny_bind (wpAny_seqItems hN rfl (wpAny_pure ?_))
  show wpAny _ A.in1 (updateSeq N (fun _ => #[]) >>= fun _ => letGo (#[] : Array Value).toList.reverse >>= fun _ => Builtin.List.listExtendWith (Value.ref N) (Value.ref t) Value.none) _ _ s
  refine wpAny_bind (wpAny_updateSeq hN rfl (wpAny_bind (wpAny_letGo ?_)))
  have hN2 := Heap.get?_update_self (Obj.mapSeq (fun _ => (#[] : Array Value))) hN rfl
  have rest : ∀ b o, b ≠ N → s.heap.get? b = some o → (s.heap.update N (Obj.mapSeq (fun _ => (#[] : Array Value)))).get? b = some o := fun b o hb e => (Heap.get?_update_other _ _ (Ne.symm hb)).trans e
  have ht2 := ht.at fun o e => rest t o (Ne.symm nNt) e
  have hl2 := hl.at fun o e => rest l o (Ne.symm nNl) e
  generalize (s.heap.update N (Obj.mapSeq (fun _ => (#[] : Array Value)))) = h2 at hN2 rest ht2 hl2 ⊢
  have ty : ({ s with heap := h2 } : Shared).TypeIs (.ref t) "list_reverseiterator" := Heap.IsRevIter.typeIs (s := { s with heap := h2 }) ht2
  have ne1 : Builtin.List.listSameRef (.ref N) (.ref t) = false := by simp [Builtin.List.listSameRef, nNt]
  unfold Builtin.List.listExtendWith
  refine wpAny_bind (wpAny_typeOf ty ?_)
  rw [if_neg (by rw [ne1]; decide)]
  refine wpAny_bind (wpAny_pyIter_revIter (s := { s with heap := h2 }) ht2 (wpAny_bind (wpAny_holding ?_)))
  unfold Builtin.List.listLengthHint
  refine wpAny_bind (wpAny_specialOf ty nolen_lri ?_)
  show wpAny _ A.in1 (specialOf (Value.ref t) (Str.ofString "__length_hint__") >>= _) _ _ _
  refine wpAny_bind (wpAny_specialOf ty hint_lri ?_)
  generalize hid : ("list_reverseiterator.__length_hint__" : String) = id0
  wp_delta
  rw [show splitId id0 = some ("list_reverseiterator", "__length_hint__") from by subst hid; decide +kernel]
  subst hid
  refine wpAny_bind (wpAny_isInstance (b := true) ty (by rw [isSubtype_type]; kernel_rfl) (wpAny_pure ?_))
  rw [if_neg (by decide)]
  have e0 : ((xs.size : Nat) : Int) - 1 - ((0 : Nat) : Int) = (xs.size : Int) - 1 := by omega
  refine wpAny_pure ⟨plainId_quiet F.plain_extend_loop _, codeAny_extend_loopS W few _ out _ xs.size 0 _ _ _ rfl (Nat.zero_le _) ⟨Nat.zero_le _, by rw [e0]; exact ht2, hl2⟩ hN2 (ItemsOf.nil _) fun s' ys c' mv got all => ?_⟩
  rw [Moved.eq_with mv]
  refine told s'.heap s'.toks ys c' (fun b o hb hb2 e => mv.heap b o (fun hm => ?_) (rest b o hb e)) got all
  rcases List.mem_cons.mp hm with z | z
  · exact hb z
  · exact hb2 (List.mem_singleton.mp z)
theorem list_rev {t l : Addr} {xs : Array Value} {Q : Value → Shared → Prop} (calm : A.handled = none) (ht : s.heap.IsRevIter t l ((xs.size : Int) - 1)) (hl : s.heap.IsList l xs) (nlt : l ≠ t) (few : xs.size ≤ sizeLine)
    (told : ∀ (g : Heap) (k : Nat) (ys : Array Value) (c : Nat), (∀ b o, b ≠ t → s.heap.get? b = some o → g.get? b = some o) → g.get? s.heap.objs.size = some { cls := .type "list", dict := none, data := .seq ys c, slots := #[] } →
      ItemsOf (fun i v => xs[xs.size - 1 - i]? = some v) ys xs.size → Q (.ref s.heap.objs.size) { s with heap := g, toks := k }) : wpAny (model prog w) A (call (.type "list") [.ref t]) Q E s := by
  refine callType_codes (Q₁ := fun obj s₁ => obj = .ref s.heap.objs.size ∧ s₁ = { s with heap := s.heap.push { cls := .type "list", data := .seq #[] } }) F.called_list (F.typeCall_list_1 _) F.entry_list_init (code_list_new _ ⟨rfl, rfl⟩) fun obj s₁ h₁ => ?_
  obtain ⟨rfl, rfl⟩ := h₁
  obtain ⟨ot, et, _⟩ := id ht
  obtain ⟨ol, el, _⟩ := id hl
  have new : (s.heap.push { cls := .type "list", data := .seq #[] }).get? s.heap.objs.size = some { cls := .type "list", data := .seq #[] } := Heap.get?_push_size _ rfl
  refine ⟨⟨_, new, rfl⟩, F.args_list_init_2 _ _, fill_rev (A := A.in1) (s := { s with heap := s.heap.push { cls := .type "list", data := .seq #[] } }) calm (ht.at fun o e => Heap.get?_push_of_some _ e) (hl.push _) nlt few (Nat.ne_of_gt (Heap.lt_size et)) (Nat.ne_of_gt (Heap.lt_size el)) new fun g k ys c kp got all => ?_⟩
  exact ⟨rfl, told g k ys c (fun b o hb e => kp b o (Nat.ne_of_lt (Heap.lt_size e)) hb (Heap.get?_push_of_some _ e)) got all⟩
end
section
variable {X : Cx}
def tListRev (K : PySem.W.Frag) (te : TE) : TE := fun σ H Q => te σ H fun v H1 => ∃ (a : Addr) (xs : List V), v = .ref a ∧ SqL K H1 a xs ∧ ∀ q, H1 q = none → Q (.ref q) (upd H1 q (.lst xs.reverse))
theorem pe_listRev {e : PySem.Expr} {te : TE} {p p2 pos pos2 : Pos} (hc : X.calm = true) (hg : Gl X "list") (hm : X.mg "list" = none) (hg2 : Gl X "reversed") (hm2 : X.mg "reversed" = none) (he : PE X e te)
    (hs : starEach [e] X.env = (false, eval e X.env) :: starEach [] X.env) : PE X (.Call (.Name "list" p) [.Call (.Name "reversed" p2) [e] [] pos2] [] pos) (tListRev X.K te) := by
  refine ⟨fun pins s σ H Q I h => ?_⟩
  refine Call_ (ld_blt I hg hm boot_list (PyProof.Rows.callWith_type1 (args_cons (Call_ (ld_blt I hg2 hm2 PyProof.Rows.boot_reversed (PyProof.Rows.callWith_type1 (args_cons (thn (he.run pins s σ H _ I h) fun u s1 ⟨v, H1, I1, r1, a, xs, ev, hq, q⟩ => args_nil ?_) hs) hs rfl))) rfl) rfl rfl))
  subst ev
  obtain rfl : u = Value.ref a := r1
  obtain ⟨its, rv, pl, hz⟩ := I1.list hq
  refine call_reversed_list pl.isList (args_nil ?_)
  obtain ⟨f0, f1, f2, f3, f4, f5⟩ := I1.fpOk (H' := H1) (b := s1.heap.objs.size) (Nat.le_refl _) (I1.hok.fresh (Nat.le_refl _))
  have I2 : Inv X pins σ H1 { s1 with heap := s1.heap.push (revObj a ((its.toArray.size : Int) - 1)) } := I1.kept (t' := s1.toks) fun b o e => Heap.get?_push_of_some _ e
  have hl := pl.isList
  obtain ⟨ol, el, _⟩ := id hl
  refine list_rev (s := { s1 with heap := s1.heap.push (revObj a ((its.toArray.size : Int) - 1)) }) (I1.ok.hd hc) ⟨_, Heap.get?_push_size _ rfl, rfl, rfl⟩ (hl.push _) (Nat.ne_of_lt (Heap.lt_size el)) (by rw [List.size_toArray, ← rv.length]; exact hz) fun g k ys c kp got all => ?_
  have sz : (s1.heap.push (revObj a ((its.toArray.size : Int) - 1))).objs.size = s1.heap.objs.size + 1 := Heap.size_push _ _
  rw [show ({ s1 with heap := s1.heap.push (revObj a ((its.toArray.size : Int) - 1)) } : Shared).heap.objs.size = s1.heap.objs.size + 1 from sz] at got ⊢
  refine ⟨.ref (s1.heap.objs.size + 1), upd H1 (s1.heap.objs.size + 1) (.lst xs.reverse), ?_, rfl, q _ (I1.hok.fresh (Nat.le_succ _))⟩
  refine I1.laid (t' := k) (fun b o e => kp b o (Nat.ne_of_lt (Heap.lt_size e)) (Heap.get?_push_of_some _ e)) (Nat.le_succ _) (show ObjOk X.prog X.w _ g _ (.lst xs.reverse) from ⟨by rw [List.length_reverse]; exact hz, ys.toList, c, vals_rev rv all, by simpa using got⟩)
end
end RX

end
section
set_option Elab.async false
set_option linter.all false
set_option maxRecDepth 100000
set_option maxHeartbeats 4000000
/-! min, max, sum of a tuple of ints; len(dict(pairs)), the keys tuples; a < b < c < d -/
namespace RX
open PySem PySem.Spec PyProof.Rows L2
section
variable {prog : Program} {w : World} {A : Around} {E : Value → Shared → Prop} {s : Shared} {l : Addr} {xs : Array (Int × Tok)} {its : List Value} {ns : List Int}
theorem iter_intTup {Q : Value → Shared → Prop} (hl : s.heap.IsTuple l (intItems xs))
    (h : ∀ s₂ : Shared, s₂ = { s with heap := s.heap.push { cls := .type "tuple_iterator", data := .fields #[.ref l, .int 0 0] } } →
      (s₂.heap.IsTupleIter s.heap.objs.size l 0 ∧ s₂.heap.IsTuple l (intItems xs)) → (∀ b ∈ [s.heap.objs.size, l], b < s₂.heap.objs.size) → l ≠ s.heap.objs.size → Q (.ref s.heap.objs.size) s₂) :
    wpAny (model prog w) A (pyIter (.ref l)) Q E s := by
  have hlt : l < s.heap.objs.size := by obtain ⟨_, e, _⟩ := hl; exact Heap.lt_size e
  refine wpAny_pyIter_tuple hl (h _ rfl ⟨⟨_, Heap.get?_push_size _ rfl, rfl, rfl⟩, hl.push _⟩ (fun b hb => ?_) (Nat.ne_of_lt hlt))
  show b < (s.heap.push _).objs.size
  rw [Heap.size_push]
  rcases List.mem_cons.mp hb with rfl | hb
  · exact Nat.lt_succ_self _
  · rcases List.mem_cons.mp hb with rfl | hb
    · exact Nat.lt_succ_of_lt hlt
    · cases hb
theorem old_keptT {h' : Heap} (hk : ∀ b o, b ∉ [s.heap.objs.size] → (s.heap.push { cls := .type "tuple_iterator", data := .fields #[.ref l, .int 0 0] }).get? b = some o → h'.get? b = some o) :
    ∀ b o, s.heap.get? b = some o → h'.get? b = some o := fun b o e => by
  refine hk b o (fun hm => ?_) (Heap.get?_push_of_some _ e)
  rcases List.mem_cons.mp hm with e1 | hm
  · exact absurd (e1 ▸ Heap.lt_size e) (Nat.lt_irrefl _)
  · cases hm
theorem max_intTup {Q : Value → Shared → Prop} (hh : A.handled = none) (hl : s.heap.IsTuple l (intItems xs)) (hne : 0 < xs.size)
    (h : ∀ v h' tk, (intItems xs)[argBest (fun i j => decide (numAt xs i > numAt xs j)) (xs.size - 1)]? = some v → (∀ b o, s.heap.get? b = some o → h'.get? b = some o) → Q v { s with heap := h', toks := tk }) :
    wpAny (model prog w) A (call (.builtin "max") [.ref l]) Q E s := by
  refine call_max_walk (iter_intTup hl fun s₂ e st hfp hlI => ?_)
  subst e
  refine ⟨_, _, _, _, _, _, _, rfl, Walks.tuple (A := A.in1) hh _ l hlI (intItems xs), st, hfp, by simpa [intItems] using hne, CmpOf.ints_gt (numAt xs) (fun _ _ => intItems_at), fun v h' tk hP hk => ?_⟩
  exact h v h' tk (by simpa [intItems] using hP) (old_keptT hk)
theorem min_intTup {Q : Value → Shared → Prop} (hh : A.handled = none) (hl : s.heap.IsTuple l (intItems xs)) (hne : 0 < xs.size)
    (h : ∀ v h' tk, (intItems xs)[argBest (fun i j => decide (numAt xs i < numAt xs j)) (xs.size - 1)]? = some v → (∀ b o, s.heap.get? b = some o → h'.get? b = some o) → Q v { s with heap := h', toks := tk }) :
    wpAny (model prog w) A (call (.builtin "min") [.ref l]) Q E s := by
  refine call_min_walk (iter_intTup hl fun s₂ e st hfp hlI => ?_)
  subst e
  refine ⟨_, _, _, _, _, _, _, rfl, Walks.tuple (A := A.in1) hh _ l hlI (intItems xs), st, hfp, by simpa [intItems] using hne, CmpOf.ints_lt (numAt xs) (fun _ _ => intItems_at), fun v h' tk hP hk => ?_⟩
  exact h v h' tk (by simpa [intItems] using hP) (old_keptT hk)
theorem sum_rawT {Q : Value → Shared → Prop} (hh : A.handled = none) (hl : s.heap.IsTuple l its.toArray) (hi : IntsAre its ns)
    (h : ∀ h' tk t', (∀ b o, s.heap.get? b = some o → h'.get? b = some o) → Q (.int ns.sum t') { s with heap := h', toks := tk }) : wpAny (model prog w) A (call (.builtin "sum") [.ref l]) Q E s := by
  obtain ⟨xs, e⟩ := hi.allInts.items
  have hn : numsOf (intItems xs).toList = ns := by rw [← e]; exact hi.numsOf
  rw [nums_intItems] at hn
  rw [e] at hl
  refine PySem.W.ktm_sumG hh hl fun h' tk t' hk => ?_
  have := h h' tk t' hk
  rw [preSum_eq, List.take_of_length_le (by simp), hn]; exact this
theorem max_rawT {Q : Value → Shared → Prop} (hh : A.handled = none) (hl : s.heap.IsTuple l its.toArray) (hi : IntsAre its ns) (hne : 0 < ns.length)
    (h : ∀ h' tk M t', (∀ b o, s.heap.get? b = some o → h'.get? b = some o) → M ∈ ns → (∀ a, a ∈ ns → a ≤ M) → Q (.int M t') { s with heap := h', toks := tk }) : wpAny (model prog w) A (call (.builtin "max") [.ref l]) Q E s := by
  obtain ⟨xs, e⟩ := hi.allInts.items
  have hn : numsOf (intItems xs).toList = ns := by rw [← e]; exact hi.numsOf
  rw [nums_intItems] at hn
  subst hn
  rw [e] at hl
  have hsz : 0 < xs.size := by simpa using hne
  refine max_intTup hh hl hsz fun v h' tk hv hk => ?_
  obtain ⟨t, rfl⟩ := intItems_at hv
  obtain ⟨h1, h2⟩ := argBest_gt (numAt xs) (xs.size - 1)
  refine h h' tk _ t hk ?_ fun a ha => ?_
  · rw [numAt_eq]; exact PySem.getD_mem (by rw [List.length_map, Array.length_toList]; omega)
  · obtain ⟨j, hj, rfl⟩ := mem_getD ha
    rw [List.length_map, Array.length_toList] at hj
    rw [← numAt_eq]; exact h2 j (by omega)
theorem min_rawT {Q : Value → Shared → Prop} (hh : A.handled = none) (hl : s.heap.IsTuple l its.toArray) (hi : IntsAre its ns) (hne : 0 < ns.length)
    (h : ∀ h' tk M t', (∀ b o, s.heap.get? b = some o → h'.get? b = some o) → M ∈ ns → (∀ a, a ∈ ns → M ≤ a) → Q (.int M t') { s with heap := h', toks := tk }) : wpAny (model prog w) A (call (.builtin "min") [.ref l]) Q E s := by
  obtain ⟨xs, e⟩ := hi.allInts.items
  have hn : numsOf (intItems xs).toList = ns := by rw [← e]; exact hi.numsOf
  rw [nums_intItems] at hn
  subst hn
  rw [e] at hl
  have hsz : 0 < xs.size := by simpa using hne
  refine min_intTup hh hl hsz fun v h' tk hv hk => ?_
  obtain ⟨t, rfl⟩ := intItems_at hv
  obtain ⟨h1, h2⟩ := argBest_lt (numAt xs) (xs.size - 1)
  refine h h' tk _ t hk ?_ fun a ha => ?_
  · rw [numAt_eq]; exact PySem.getD_mem (by rw [List.length_map, Array.length_toList]; omega)
  · obtain ⟨j, hj, rfl⟩ := mem_getD ha
    rw [List.length_map, Array.length_toList] at hj
    rw [← numAt_eq]; exact h2 j (by omega)
end
theorem isTupleOf {h : Heap} {a : Addr} {its : Array Value} (x : IsTup h a its) : h.IsTuple a its := by
  obtain ⟨o, ho, hc, n, hd⟩ := x
  exact ⟨o, ho, hc, n, hd⟩
section
variable {X : Cx}
def rSumT (K : PySem.W.Frag) : List V → Hp → VK → Prop := fun vs H Q => ∃ (a : Addr) (ns : List Int), vs = [V.ref a] ∧ SqT K H a (ns.map V.int) ∧ Q (.int ns.sum) H
def rMaxT (K : PySem.W.Frag) : List V → Hp → VK → Prop := fun vs H Q => ∃ (a : Addr) (ns : List Int), vs = [V.ref a] ∧ SqT K H a (ns.map V.int) ∧ 0 < ns.length ∧ ∀ m, m ∈ ns → (∀ y, y ∈ ns → y ≤ m) → Q (.int m) H
def rMinT (K : PySem.W.Frag) : List V → Hp → VK → Prop := fun vs H Q => ∃ (a : Addr) (ns : List Int), vs = [V.ref a] ∧ SqT K H a (ns.map V.int) ∧ 0 < ns.length ∧ ∀ m, m ∈ ns → (∀ y, y ∈ ns → m ≤ y) → Q (.int m) H
theorem cr_sumT (hc : X.calm = true) : CallR X (.builtin "sum") (rSumT X.K) := by
  intro pins s σ H vs us Q I r h
  obtain ⟨a, ns, rfl, hs, q⟩ := h
  obtain ⟨its, rv, hl, _⟩ := I.tuple hs
  rw [Vals.ref1 r]
  exact sum_rawT (I.ok.hd hc) (isTupleOf hl) rv.ints fun h' tk t' hk => ⟨.int _, H, I.kept hk, ⟨_, rfl⟩, q⟩
theorem cr_maxT (hc : X.calm = true) : CallR X (.builtin "max") (rMaxT X.K) := by
  intro pins s σ H vs us Q I r h
  obtain ⟨a, ns, rfl, hs, hne, q⟩ := h
  obtain ⟨its, rv, hl, _⟩ := I.tuple hs
  rw [Vals.ref1 r]
  exact max_rawT (I.ok.hd hc) (isTupleOf hl) rv.ints hne fun h' tk m t' hk h1 h2 => ⟨.int _, H, I.kept hk, ⟨_, rfl⟩, q m h1 h2⟩
theorem cr_minT (hc : X.calm = true) : CallR X (.builtin "min") (rMinT X.K) := by
  intro pins s σ H vs us Q I r h
  obtain ⟨a, ns, rfl, hs, hne, q⟩ := h
  obtain ⟨its, rv, hl, _⟩ := I.tuple hs
  rw [Vals.ref1 r]
  exact min_rawT (I.ok.hd hc) (isTupleOf hl) rv.ints hne fun h' tk m t' hk h1 h2 => ⟨.int _, H, I.kept hk, ⟨_, rfl⟩, q m h1 h2⟩
/-! ### len(dict(pairs)) -/
theorem keyAt_some {K : Type} [DecidableEq K] {xs : List (K × Addr × Value)} {k : K} : (atKey xs k).isSome = decide (k ∈ xs.map (·.1)) := by
  unfold atKey
  rw [Option.isSome_map]
  by_cases h : k ∈ xs.map (·.1)
  · rw [decide_eq_true h, List.find?_isSome]
    obtain ⟨x, hx, e⟩ := List.mem_map.mp h
    exact ⟨x, hx, decide_eq_true e⟩
  · rw [decide_eq_false h, Bool.eq_false_iff]
    intro z
    rw [List.find?_isSome] at z
    obtain ⟨x, hx, e⟩ := z
    exact h (List.mem_map.mpr ⟨x, hx, of_decide_eq_true e⟩)
theorem storedH_keysL {K : Type} [DecidableEq K] (xs : List (K × Addr × Value)) (k : K) (a : Addr) (v : Value) : (storedH xs k a v).map (·.1) = if k ∈ xs.map (·.1) then xs.map (·.1) else xs.map (·.1) ++ [k] := by
  unfold storedH
  rw [keyAt_some]
  by_cases h : k ∈ xs.map (·.1)
  · rw [if_pos h, if_pos (decide_eq_true h), List.map_map]
    refine List.map_congr_left fun x _ => ?_
    show (putAt k v x).1 = x.1
    unfold putAt
    split <;> rfl
  · rw [if_neg h, if_neg (by simpa using h), List.map_append]; rfl
theorem storedAllH_keysL {K : Type} [DecidableEq K] : ∀ (ps xs : List (K × Addr × Value)), (storedAllH xs ps).map (·.1) = dedL (xs.map (·.1)) (ps.map (·.1))
  | [], xs => rfl
  | p :: ps, xs => by
    show (storedAllH (storedH xs p.1 p.2.1 p.2.2) ps).map (·.1) = dedL (if p.1 ∈ xs.map (·.1) then xs.map (·.1) else xs.map (·.1) ++ [p.1]) (ps.map (·.1))
    rw [storedAllH_keysL ps, storedH_keysL]
theorem pairsT_of {pins : List (Addr × Obj)} {σ : L2.St} {H : Hp} {s : Shared} (I : Inv X pins σ H s) : ∀ {ps : List Addr} {kvs : List (List L2.Key × Addr × V)}, Paired (fun p kv => SqT X.K H p [.ref kv.2.1, kv.2.2] ∧ SqT X.K H kv.2.1 (kv.1.map kV)) ps kvs →
    ∃ prs : List (List L2.Key × Addr × Value), prs.map (·.1) = kvs.map (·.1) ∧ prs.length = ps.length ∧ ∀ (j : Nat) (q : List L2.Key × Addr × Value), prs[j]? = some q → ∃ b : Addr, ps[j]? = some b ∧ IsTup s.heap b #[.ref q.2.1, q.2.2] ∧ (tupleKind (mixKind X.prog X.w)).is s.heap q.1 q.2.1
  | _, _, .nil => ⟨[], rfl, rfl, fun j q e => by simp at e⟩
  | _, _, .cons (a := p) (b := kv) h t => by
    obtain ⟨prs, r, hl, hp⟩ := pairsT_of I t
    obtain ⟨its, rv, ht, _⟩ := I.tuple h.1
    obtain ⟨u, y, ei, ru, ry⟩ := vals2 rv
    subst ei
    obtain rfl : u = Value.ref kv.2.1 := ru
    obtain ⟨its2, rv2, ht2, _⟩ := I.tuple h.2
    obtain ⟨o, h1, h2, n, h3⟩ := ht2
    refine ⟨(kv.1, kv.2.1, y) :: prs, by rw [List.map_cons, List.map_cons, r], by rw [List.length_cons, List.length_cons, hl], fun j q e => ?_⟩
    cases j with
    | zero =>
      have e' : (kv.1, kv.2.1, y) = q := Option.some.inj e
      subst e'
      exact ⟨p, rfl, ht, o, its2.toArray, n, h1, h2, h3, by simpa using items_are rv2⟩
    | succ j =>
      obtain ⟨b, e1, e2, e3⟩ := hp j q (by simpa using e)
      exact ⟨b, by simpa using e1, e2, e3⟩
def tLenDict (K : PySem.W.Frag) (te : TE) : TE := fun σ H Q => te σ H fun v H1 => ∃ (a : Addr) (ps : List Addr) (kvs : List (List L2.Key × Addr × V)), v = .ref a ∧ SqL K H1 a (ps.map V.ref) ∧
  Paired (fun p kv => SqT K H1 p [.ref kv.2.1, kv.2.2] ∧ SqT K H1 kv.2.1 (kv.1.map kV)) ps kvs ∧ Q (.int (((dedL [] (kvs.map (·.1))).length : Nat) : Int)) H1
theorem pe_lenDict {e : PySem.Expr} {te : TE} {p p2 pos pos2 : Pos} (hc : X.calm = true) (hu : X.A.units + 65 < cLine) (hg : Gl X "len") (hm : X.mg "len" = none) (hg2 : Gl X "dict") (hm2 : X.mg "dict" = none) (he : PE X e te)
    (hs : starEach [e] X.env = (false, eval e X.env) :: starEach [] X.env) : PE X (.Call (.Name "len" p) [.Call (.Name "dict" p2) [e] [] pos2] [] pos) (tLenDict X.K te) := by
  refine ⟨fun pins s σ H Q I h => ?_⟩
  refine Call_ (ld_blt I hg hm boot_len (PyProof.Rows.callWith_builtin1 (args_cons (Call_ (ld_blt I hg2 hm2 PyProof.Rows.boot_dict (PyProof.Rows.callWith_type1 (args_cons (thn (he.run pins s σ H _ I h) fun u s1 ⟨v, H1, I1, r1, a, ps, kvs, ev, hq, hp, q⟩ => args_nil ?_) hs) hs rfl))) rfl) rfl rfl))
  subst ev
  obtain rfl : u = Value.ref a := r1
  obtain ⟨its, rv, pl, hz⟩ := I1.list hq
  have ei := refs_at rv
  subst ei
  rw [List.length_map] at hz
  obtain ⟨prs, rel, hl, hpr⟩ := pairsT_of I1 hp
  obtain ⟨o, n, ho, hc1, hd, hdat⟩ := pl
  have PA := PairArg.list (prog := X.prog) (w := X.w) a (ps.map Value.ref).toArray (fun j => ps.getD j 0) (prs.map fun q => (Value.ref q.2.1, q.2.2))
  refine call_dict_pairsH (knd := tupleKind (mixKind X.prog X.w)) (ps := prs) PA (I1.ok.hd hc) (show X.A.units + 2 < cLine by omega) ⟨⟨o, n, ho, hc1, hd, hdat⟩, by simp [hl], fun j k v hj => ?_⟩ ⟨by simp, fun j k v hj => ?_⟩ (fun h' hk x hx => ?_) (by simp [hl]; exact hz) fun h' tk hd' hk => args_nil ?_
  · rw [List.getElem?_map] at hj
    obtain ⟨q, e1, e2⟩ := Option.map_eq_some_iff.mp hj
    cases e2
    obtain ⟨b, f1, f2, f3⟩ := hpr j q e1
    have f4 : ps.getD j 0 = b := by rw [List.getD_eq_getElem?_getD, f1]; rfl
    show (List.map Value.ref ps).toArray[j]? = some (Value.ref (ps.getD j 0)) ∧ PairAt s1.heap (ps.getD j 0) (Value.ref q.2.1) q.2.2
    rw [f4]
    refine ⟨by simp [f1], .inl (isTupleOf f2)⟩
  · have hj' : (prs.map fun q => (Value.ref q.2.1, q.2.2))[j]? = some (k, v) := hj
    rw [List.getElem?_map] at hj'
    obtain ⟨q, e1, e2⟩ := Option.map_eq_some_iff.mp hj'
    cases e2
    exact ⟨q.1, q.2.1, e1, rfl⟩
  · obtain ⟨j, hj⟩ := List.mem_iff_getElem?.mp hx
    obtain ⟨b, f1, f2, o', items, n', g1, g2, g3, g4⟩ := hpr j x hj
    exact ⟨o', items, n', hk _ _ (Nat.ne_of_lt (Heap.lt_size g1)) (by simp) g1, g2, g3, g4⟩
  · have hm' : (s1.heap.objs.size == sysModules) = false := beq_eq_false_iff_ne.mpr (Nat.ne_of_gt I1.big)
    have hlen : (storedAllH [] prs).length = (dedL [] (kvs.map (·.1))).length := by
      have := congrArg List.length (storedAllH_keysL prs [])
      rw [List.length_map] at this
      rw [this, rel]; rfl
    have hlt : ((storedAllH [] prs).length : Int) < 2 ^ 63 := by
      have := storedAllH_length prs []
      rw [sizeLine_eq] at hz
      simp at this
      omega
    refine call_len_dictH hm' hd' hlt ?_
    rw [hlen]
    exact ⟨.int _, H1, I1.kept fun b o e => hk b o (by simp) e, ⟨_, rfl⟩, q⟩
/-! ### a op1 b op2 c op3 d -/
def tChain3 (r r' r2 : R2) (ta tb tc td : TE) : TE := fun σ H Q => ta σ H fun x H1 => tb σ H1 fun y H2 => r x y H2 fun z H3 => ∃ k, z = .bl k ∧
  (if k = true then tc σ H3 fun w' H4 => r' y w' H4 fun z H5 => ∃ k, z = .bl k ∧ (if k = true then td σ H5 fun v H6 => r2 w' v H6 Q else Q (.bl false) H5) else Q (.bl false) H3)
theorem pe_chain3 {op op' op2 : CmpOp} {r r' r2 : R2} {a b c d : PySem.Expr} {ta tb tc td : TE} {pos : Pos} (ho : OpR X (compareOp op) r) (ho' : OpR X (compareOp op') r') (ho2 : OpR X (compareOp op2) r2) (ha : PE X a ta) (hb : PE X b tb) (hc : PE X c tc) (hd : PE X d td)
    (hm : lastMarks [op, op', op2] [b, c, d] = false := by with_unfolding_all rfl) : PE X (.Compare a [op, op', op2] [b, c, d] pos) (tChain3 r r' r2 ta tb tc td) := by
  refine ⟨fun pins s σ H Q I h => ?_⟩
  refine Compare_chain (thn (ha.run pins s σ H _ I h) fun v s1 ⟨x, H1, I1, r1, q1⟩ => chain_link (thn (hb.run pins s1 σ H1 _ I1 q1) fun u s2 ⟨y, H2, I2, r2, q2⟩ =>
    thn (ho pins s2 σ H2 x y v u _ I2 r1 r2 q2) fun d s3 ⟨z, H3, I3, r3, k, e, q3⟩ => ?_)) hm
  subst e
  cases r3
  refine wpAny_truthy_bool ?_
  cases k with
  | false => exact ite_ff ⟨.bl false, H3, I3, rfl, q3⟩
  | true =>
    refine ite_tt (chain_link (thn (hc.run pins s3 σ H3 _ I3 q3) fun w' s4 ⟨z', H4, I4, r4, q4⟩ => thn (ho' pins s4 σ H4 y z' u w' _ I4 r2 r4 q4) fun d' s5 ⟨z2, H5, I5, r5, k2, e2, q5⟩ => ?_))
    subst e2
    cases r5
    refine wpAny_truthy_bool ?_
    cases k2 with
    | false => exact ite_ff ⟨.bl false, H5, I5, rfl, q5⟩
    | true => exact ite_tt (chain_last (thn (hd.run pins s5 σ H5 _ I5 q5) fun v' s6 ⟨z3, H6, I6, r6, q6⟩ => ho2 pins s6 σ H6 z' z3 w' v' Q I6 r4 r6 q6))
theorem pt_chain3 {op op' op2 : CmpOp} {r r' r2 : R2} {a b c d : PySem.Expr} {ta tb tc td : TE} {pos : Pos} (ho : OpR X (compareOp op) r) (ho' : OpR X (compareOp op') r') (ho2 : OpR X (compareOp op2) r2) (ha : PE X a ta) (hb : PE X b tb) (hc : PE X c tc) (hd : PE X d td)
    (hm : lastMarks [op, op', op2] [b, c, d] = false := by with_unfolding_all rfl) : PT X (.Compare a [op, op', op2] [b, c, d] pos) (tTest (tChain3 r r' r2 ta tb tc td)) := by
  refine ⟨fun pins s σ H Q I h => ?_⟩
  refine isTrue_chain (thn (ha.run pins s σ H _ I h) fun v s1 ⟨x, H1, I1, r1, q1⟩ => test_link (thn (hb.run pins s1 σ H1 _ I1 q1) fun u s2 ⟨y, H2, I2, r2, q2⟩ =>
    thn (ho pins s2 σ H2 x y v u _ I2 r1 r2 q2) fun d s3 ⟨z, H3, I3, r3, k, e, q3⟩ => ?_)) hm
  subst e
  cases r3
  refine wpAny_truthy_bool ?_
  cases k with
  | false =>
    obtain ⟨k', e', q'⟩ := q3
    cases e'
    exact ite_ff ⟨H3, I3, q'⟩
  | true =>
    refine ite_tt (test_link (thn (hc.run pins s3 σ H3 _ I3 q3) fun w' s4 ⟨z', H4, I4, r4, q4⟩ => thn (ho' pins s4 σ H4 y z' u w' _ I4 r2 r4 q4) fun d' s5 ⟨z2, H5, I5, r5, k2, e2, q5⟩ => ?_))
    subst e2
    cases r5
    refine wpAny_truthy_bool ?_
    cases k2 with
    | false =>
      obtain ⟨k', e', q'⟩ := q5
      cases e'
      exact ite_ff ⟨H5, I5, q'⟩
    | true =>
      refine ite_tt (test_last (thn (hd.run pins s5 σ H5 _ I5 q5) fun v' s6 ⟨z3, H6, I6, r6, q6⟩ => thn (ho2 pins s6 σ H6 z' z3 w' v' _ I6 r4 r6 q6) fun d2 s7 ⟨z4, H7, I7, r7, k3, e3, q7⟩ => ?_))
      subst e3
      cases r7
      exact wpAny_truthy_bool ⟨H7, I7, q7⟩
end
end RX

end
section
set_option Elab.async false
set_option linter.all false
set_option maxRecDepth 100000
set_option maxHeartbeats 4000000
set_option autoImplicit false
namespace RX
open PySem PySem.Spec PyProof.Rows L2

/-! ### values and what stands for them -/
def KL (K : PySem.W.Frag) (a : Addr) (xs : List V) : Prop :=
  ∃ (o : Obj) (its : Array Value) (n : Nat), K.lookup a = some o ∧ o.cls = .type "list" ∧ o.dict = none ∧ o.data = .seq its n ∧ its.size ≤ sizeLine ∧ Vals xs its.toList
def KT (K : PySem.W.Frag) (a : Addr) (xs : List V) : Prop :=
  ∃ (o : Obj) (its : Array Value) (n : Nat), K.lookup a = some o ∧ o.cls = .type "tuple" ∧ o.dict = none ∧ o.data = .seq its n ∧ its.size ≤ sizeLine ∧ Vals xs its.toList
theorem KT.sq {K : PySem.W.Frag} {H : Hp} {a : Addr} {xs : List V} (h : RX.KT K a xs) : SqT K H a xs :=
  let ⟨o, its, n, h1, h2, _, h3⟩ := h
  .inr ⟨o, its, n, h1, h2, h3⟩
mutual
inductive Rp (K : PySem.W.Frag) (H : Hp) (F : Addr → Prop) : V → D → Prop
  | non : Rp K H F .non .none
  | bl (b : Bool) : Rp K H F (.bl b) (.bool b)
  | int (i : Int) : Rp K H F (.int i) (.int i)
  | str (x : Str) : PyData.strOk x = true → Rp K H F (.str x) (.str x)
  | lst {a : Addr} {xs : List V} {ds : List D} : Rd H a (.lst xs) → F a → RpA K H F xs ds → Rp K H F (.ref a) (.list ds)
  | lstK {a : Addr} {xs : List V} {ds : List D} : KL K a xs → RpA K H F xs ds → Rp K H F (.ref a) (.list ds)
  | tup {a : Addr} {xs : List V} {ds : List D} : TupAt H a xs → F a → RpA K H F xs ds → Rp K H F (.ref a) (.tuple ds)
  | tupK {a : Addr} {xs : List V} {ds : List D} : KT K a xs → RpA K H F xs ds → Rp K H F (.ref a) (.tuple ds)
inductive RpA (K : PySem.W.Frag) (H : Hp) (F : Addr → Prop) : List V → List D → Prop
  | nil : RpA K H F [] []
  | cons {v : V} {vs : List V} {d : D} {ds : List D} : Rp K H F v d → RpA K H F vs ds → RpA K H F (v :: vs) (d :: ds)
end
section
variable {K : PySem.W.Frag} {H H' : Hp} {F F' : Addr → Prop}
theorem Rd.keep {a : Addr} {u : HO} (e : H' a = H a) (h : Rd H a u) : Rd H' a u := by
  unfold Rd
  rw [e]
  exact h
mutual
theorem Rp.mono (hF : ∀ a, F a → F' a) (hH : ∀ a, F a → H' a = H a) : ∀ {v : V} {d : D}, Rp K H F v d → Rp K H' F' v d
  | _, _, .non => .non
  | _, _, .bl b => .bl b
  | _, _, .int i => .int i
  | _, _, .str x h => .str x h
  | _, _, .lst h f a => .lst (Rd.keep (hH _ f) h) (hF _ f) (RpA.mono hF hH a)
  | _, _, .lstK h a => .lstK h (RpA.mono hF hH a)
  | _, _, .tup h f a => .tup (TupAt.keep (hH _ f) h) (hF _ f) (RpA.mono hF hH a)
  | _, _, .tupK h a => .tupK h (RpA.mono hF hH a)
theorem RpA.mono (hF : ∀ a, F a → F' a) (hH : ∀ a, F a → H' a = H a) : ∀ {vs : List V} {ds : List D}, RpA K H F vs ds → RpA K H' F' vs ds
  | _, _, .nil => .nil
  | _, _, .cons a r => .cons (Rp.mono hF hH a) (RpA.mono hF hH r)
end
theorem RpA.length : ∀ {vs : List V} {ds : List D}, RpA K H F vs ds → vs.length = ds.length
  | _, _, .nil => rfl
  | _, _, .cons _ r => by simp [RpA.length r]
theorem RpA.get : ∀ {vs : List V} {ds : List D} {i : Nat} {v : V}, RpA K H F vs ds → vs[i]? = some v → ∃ d, ds[i]? = some d ∧ Rp K H F v d
  | _, _, _, _, .nil, e => by simp at e
  | _, _, 0, _, .cons a _, e => by simp at e; subst e; exact ⟨_, rfl, a⟩
  | _, _, i + 1, _, .cons _ r, e => by
    obtain ⟨d, h1, h2⟩ := RpA.get (i := i) r (by simpa using e)
    exact ⟨d, by simpa using h1, h2⟩
theorem RpA.at : ∀ {vs : List V} {ds : List D} {i : Nat} {d : D}, RpA K H F vs ds → ds[i]? = some d → ∃ v, vs[i]? = some v ∧ Rp K H F v d
  | _, _, _, _, .nil, e => by simp at e
  | _, _, 0, _, .cons a _, e => by simp at e; subst e; exact ⟨_, rfl, a⟩
  | _, _, i + 1, _, .cons _ r, e => by
    obtain ⟨d, h1, h2⟩ := RpA.at (i := i) r (by simpa using e)
    exact ⟨d, by simpa using h1, h2⟩
theorem RpA.append : ∀ {vs ws : List V} {ds es : List D}, RpA K H F vs ds → RpA K H F ws es → RpA K H F (vs ++ ws) (ds ++ es)
  | _, _, _, _, .nil, h => h
  | _, _, _, _, .cons a r, h => .cons a (RpA.append r h)
theorem RpA.take : ∀ {vs : List V} {ds : List D} (n : Nat), RpA K H F vs ds → RpA K H F (vs.take n) (ds.take n)
  | _, _, 0, _ => by simp; exact .nil
  | _, _, _ + 1, .nil => .nil
  | _, _, n + 1, .cons a r => .cons a (RpA.take n r)
theorem RpA.drop : ∀ {vs : List V} {ds : List D} (n : Nat), RpA K H F vs ds → RpA K H F (vs.drop n) (ds.drop n)
  | _, _, 0, r => r
  | _, _, _ + 1, .nil => .nil
  | _, _, n + 1, .cons _ r => RpA.drop n r
theorem RpA.set {v : V} {d : D} (r : Rp K H F v d) : ∀ {vs : List V} {ds : List D} (i : Nat), RpA K H F vs ds → RpA K H F (vs.set i v) (ds.set i d)
  | _, _, _, .nil => .nil
  | _, _, 0, .cons _ t => .cons r t
  | _, _, i + 1, .cons q t => .cons q (RpA.set r i t)
theorem RpA.dropLast : ∀ {vs : List V} {ds : List D}, RpA K H F vs ds → RpA K H F vs.dropLast ds.dropLast := fun {vs ds} r => by
  rw [List.dropLast_eq_take, List.dropLast_eq_take, r.length]
  exact r.take _
theorem RpA.reverse : ∀ {vs : List V} {ds : List D}, RpA K H F vs ds → RpA K H F vs.reverse ds.reverse
  | _, _, .nil => .nil
  | _, _, .cons q t => by simp only [List.reverse_cons]; exact t.reverse.append (.cons q .nil)
theorem RpA.rep {vs : List V} {ds : List D} (r : RpA K H F vs ds) : ∀ k : Nat, RpA K H F (List.replicate k vs).flatten (List.replicate k ds).flatten
  | 0 => .nil
  | k + 1 => by
    rw [List.replicate_succ, List.replicate_succ, List.flatten_cons, List.flatten_cons]
    exact r.append (RpA.rep r k)
theorem RpA.one {v : V} {d : D} (r : Rp K H F v d) : RpA K H F [v] [d] := .cons r .nil
theorem RpA.ints : ∀ {vs : List V} {ds : List D} {ns : List Int}, RpA K H F vs ds → intsOf ds = some ns → vs = ns.map V.int
  | _, _, _, .nil, e => by simp [intsOf] at e; subst e; rfl
  | _, _, _, .cons a r, e => by
    cases a <;> simp [intsOf] at e
    obtain ⟨ms, h1, rfl⟩ := e
    rw [RpA.ints r h1]; rfl

/-- read now: the outmost list may be one that still changes -/
inductive Rr (K : PySem.W.Frag) (H : Hp) (F : Addr → Prop) : V → D → Prop
  | of {v : V} {d : D} : Rp K H F v d → Rr K H F v d
  | lst {a : Addr} {xs : List V} {ds : List D} : H a = some (.lst xs) → RpA K H F xs ds → Rr K H F (.ref a) (.list ds)
theorem Rr.int {v : V} {i : Int} (h : Rr K H F v (.int i)) : v = .int i := by
  cases h with
  | of h => cases h; rfl
theorem Rr.str {v : V} {x : Str} (h : Rr K H F v (.str x)) : v = .str x ∧ PyData.strOk x = true := by
  cases h with
  | of h => cases h with | str _ h => exact ⟨rfl, h⟩
theorem Rr.bl {v : V} {b : Bool} (h : Rr K H F v (.bool b)) : v = .bl b := by
  cases h with
  | of h => cases h; rfl
theorem Rr.non {v : V} (h : Rr K H F v .none) : v = .non := by
  cases h with
  | of h => cases h; rfl
theorem Rr.list {v : V} {ds : List D} (h : Rr K H F v (.list ds)) : ∃ a xs, v = .ref a ∧ SqL K H a xs ∧ RpA K H F xs ds := by
  cases h with
  | of h =>
    cases h with
    | lst h f a => exact ⟨_, _, rfl, .inl h, a⟩
    | lstK h a => exact ⟨_, _, rfl, .inr h, a⟩
  | lst h a => exact ⟨_, _, rfl, .of h, a⟩
theorem Rr.tuple {v : V} {ds : List D} (h : Rr K H F v (.tuple ds)) : ∃ a xs, v = .ref a ∧ SqT K H a xs ∧ RpA K H F xs ds := by
  cases h with
  | of h =>
    cases h with
    | tup h f a => exact ⟨_, _, rfl, .inl h.rd, a⟩
    | tupK h a => exact ⟨_, _, rfl, h.sq, a⟩
theorem Rp.tupB {v : V} {ds : List D} (h : Rp K H F v (.tuple ds)) : ∃ a xs, v = .ref a ∧ (TupAt H a xs ∨ RX.KT K a xs) ∧ RpA K H F xs ds := by
  cases h with
  | tup h f a => exact ⟨_, _, rfl, .inl h, a⟩
  | tupK h a => exact ⟨_, _, rfl, .inr h, a⟩
theorem Rr.dict {v : V} {ds : List (D × D)} (h : Rr K H F v (.dict ds)) : False := by
  cases h with
  | of h => cases h

mutual
theorem Rp.dp : ∀ {v : V} {d : D}, Rp K H F v d → Dp K H v d
  | _, _, .non => .non
  | _, _, .bl b => .bl b
  | _, _, .int i => .int i
  | _, _, .str x _ => .str x
  | _, _, .lst h _ a => .lst (.inl h) (RpA.dp a)
  | _, _, .lstK h a => .lst (.inr h) (RpA.dp a)
  | _, _, .tup h _ a => .tup (.inl h.rd) (RpA.dp a)
  | _, _, .tupK h a => .tup h.sq (RpA.dp a)
theorem RpA.dp : ∀ {vs : List V} {ds : List D}, RpA K H F vs ds → DpAll K H vs ds
  | _, _, .nil => .nil
  | _, _, .cons a r => .cons (Rp.dp a) (RpA.dp r)
end
theorem Rr.dp {v : V} {d : D} (h : Rr K H F v d) : Dp K H v d := by
  cases h with
  | of h => exact h.dp
  | lst h a => exact .lst (.of h) a.dp
mutual
theorem Rp.lay : ∀ {v : V} {d : D}, Rp K H F v d → d.canLay0 = true
  | _, _, .non => by simp [PyData.canLay0]
  | _, _, .bl b => by simp [PyData.canLay0]
  | _, _, .int i => by simp [PyData.canLay0]
  | _, _, .str x h => by simp [PyData.canLay0, h]
  | _, _, .lst _ _ a => by simp [PyData.canLay0, RpA.lay a]
  | _, _, .lstK _ a => by simp [PyData.canLay0, RpA.lay a]
  | _, _, .tup _ _ a => by simp [PyData.canLay0, RpA.lay a]
  | _, _, .tupK _ a => by simp [PyData.canLay0, RpA.lay a]
theorem RpA.lay : ∀ {vs : List V} {ds : List D}, RpA K H F vs ds → PyData.canLayAll0 ds = true
  | _, _, .nil => by simp [PyData.canLayAll0]
  | _, _, .cons a r => by simp [PyData.canLayAll0, Rp.lay a, RpA.lay r]
end
theorem Rr.lay {v : V} {d : D} (h : Rr K H F v d) : d.canLay0 = true := by
  cases h with
  | of h => exact h.lay
  | lst h a => simp [PyData.canLay0, a.lay]
mutual
theorem flat_depth : ∀ (n : Nat) (d : D), flat n d = true → d.depth ≤ n
  | _, .none, _ => by simp [PyData.depth]
  | _, .bool _, _ => by simp [PyData.depth]
  | _, .int _, _ => by simp [PyData.depth]
  | _, .str _, _ => by simp [PyData.depth]
  | 0, .list xs, h => by simp [flat] at h
  | 0, .tuple xs, h => by simp [flat] at h
  | n + 1, .list xs, h => by
    have := flatAll_depth n xs (by simpa [flat] using h)
    simp only [PyData.depth]; omega
  | n + 1, .tuple xs, h => by
    have := flatAll_depth n xs (by simpa [flat] using h)
    simp only [PyData.depth]; omega
  | 0, .dict _, h => by simp [flat] at h
  | n + 1, .dict _, h => by simp [flat] at h
theorem flatAll_depth : ∀ (n : Nat) (ds : List D), flatAll n ds = true → PyData.depthAll ds ≤ n
  | _, [], _ => by simp [PyData.depthAll]
  | n, x :: xs, h => by
    have h' : flat n x = true ∧ flatAll n xs = true := by simpa [flatAll] using h
    have h1 := flat_depth n x h'.1
    have h2 := flatAll_depth n xs h'.2
    simp only [PyData.depthAll]; omega
end
theorem shaped_of {v : V} {d : D} (h : Rr K H F v d) (f : flat deep d = true) : SeqAt.shaped d = true := by
  have h1 := flat_depth _ _ f
  unfold deep at h1
  unfold SeqAt.shaped
  rw [h.lay, decide_eq_true (by omega)]
  rfl
end
end RX

end
section
set_option Elab.async false
set_option linter.all false
set_option maxRecDepth 100000
set_option maxHeartbeats 4000000
set_option autoImplicit false
namespace RX
open PySem PySem.Spec PyProof.Rows L2

/-! ### slots and what stands in them -/
def isOwn (ρ : Env) (i : Nat) : Prop := (∃ b xs, ρ[i]? = some (.ol b xs)) ∨ (∃ b kvs, ρ[i]? = some (.od b kvs))
def OwnAt (ρ : Env) (σ : L2.St) (i : Nat) (a : Addr) : Prop := isOwn ρ i ∧ σ[i]? = some (some (.ref a))
def Ow (ρ : Env) (σ : L2.St) (a : Addr) : Prop := ∃ i, OwnAt ρ σ i a
/-- what the slots of exceptions hold; the tables of code objects that are tracked -/
structure XR where
  f : Addr → Str → Prop
  tb : List Addr
instance : CoeFun XR (fun _ => Addr → Str → Prop) := ⟨XR.f⟩
/-- no table stands there -/
def NT (H : Hp) (a : Addr) : Prop := ∀ ps, H a ≠ some (.tbl ps)
theorem NT.of {H H' : Hp} {a : Addr} (h : NT H a) (e : H' a = H a) : NT H' a := fun ps => by rw [e]; exact h ps
theorem NT.lst {H : Hp} {a : Addr} {vs : List V} (e : H a = some (.lst vs)) : NT H a := fun ps => by rw [e]; exact fun z => nomatch z
theorem NT.tup {H : Hp} {a : Addr} {vs : List V} (e : H a = some (.tup vs)) : NT H a := fun ps => by rw [e]; exact fun z => nomatch z
theorem tab_eq {H H' : Hp} {a : Addr} (h : GxR.TabG H a) (e : H' a = H a) : GxR.TabG H' a := by
  obtain ⟨ps, h1, h2⟩ := h
  exact ⟨ps, e.trans h1, h2⟩
theorem tab_some {H : Hp} {a : Addr} (h : GxR.TabG H a) : H a ≠ none := by
  obtain ⟨ps, h1, h2⟩ := h
  rw [h1]; exact fun z => nomatch z
structure SR (K : PySem.W.Frag) (xr : XR) (ρ : Env) (σ : L2.St) (H : Hp) (F : Addr → Prop) : Prop where
  len : ρ.length = σ.length
  dom : ∀ a, F a → H a ≠ none
  sh : ∀ (i : Nat) (d : D), ρ[i]? = some (.sh d) → ∃ v, σ[i]? = some (some v) ∧ Rp K H F v d
  ol : ∀ (i : Nat) (b : Bool) (xs : List D), ρ[i]? = some (.ol b xs) → ∃ a vs, σ[i]? = some (some (.ref a)) ∧ H a = some (.lst vs) ∧ ¬ F a ∧ RpA K H F vs xs
  od : ∀ (i : Nat) (b : Bool) (kvs : List (D × D)), ρ[i]? = some (.od b kvs) → False
  ex : ∀ (i : Nat) (c : Str), ρ[i]? = some (.ex c) → ∃ a, σ[i]? = some (some (.ref a)) ∧ xr a c
  ap : ∀ (i j : Nat) (a : Addr), OwnAt ρ σ i a → OwnAt ρ σ j a → i = j
  ntb : ∀ a, F a → NT H a
  tb : ∀ a ∈ xr.tb, GxR.TabG H a
structure Stp (ρ : Env) (σ : L2.St) (H : Hp) (F : Addr → Prop) (ρ' : Env) (σ' : L2.St) (H' : Hp) (F' : Addr → Prop) : Prop where
  inc : ∀ a, F a → F' a
  keep : ∀ a, H a ≠ none → NT H a → ¬ Ow ρ σ a → H' a = H a
  tab : ∀ a, GxR.TabG H a → GxR.TabG H' a
  own : ∀ a, Ow ρ' σ' a → Ow ρ σ a ∨ H a = none
  stay : ∀ a, H a ≠ none → H' a ≠ none
  new : ∀ a, F' a → F a ∨ Ow ρ σ a ∨ H a = none
  bor : ∀ (i : Nat) (xs : List D), ρ'[i]? = some (.ol true xs) → σ'[i]? = σ[i]? ∧ ∃ ys, ρ[i]? = some (.ol true ys)
section
variable {K : PySem.W.Frag} {xr : XR} {ρ ρ1 ρ2 : Env} {σ σ1 σ2 : L2.St} {H H1 H2 : Hp} {F F1 F2 : Addr → Prop}
theorem Stp.refl : Stp ρ σ H F ρ σ H F := ⟨fun _ h => h, fun _ _ _ _ => rfl, fun _ h => h, fun _ h => .inl h, fun _ h => h, fun _ h => .inl h, fun i xs h => ⟨rfl, xs, h⟩⟩
theorem Stp.trans (a : Stp ρ σ H F ρ1 σ1 H1 F1) (b : Stp ρ1 σ1 H1 F1 ρ2 σ2 H2 F2) : Stp ρ σ H F ρ2 σ2 H2 F2 where
  inc x h := b.inc x (a.inc x h)
  keep x h nt n := by
    have e := a.keep x h nt n
    rw [b.keep x (a.stay x h) (nt.of e) (fun o => (a.own x o).elim n h)]
    exact e
  tab x h := b.tab x (a.tab x h)
  own x o := by
    rcases b.own x o with o | o
    · exact a.own x o
    · exact .inr (Classical.byContradiction fun n => a.stay x n o)
  stay x h := b.stay x (a.stay x h)
  new x h := by
    rcases b.new x h with h | o | o
    · exact a.new x h
    · exact .inr (a.own x o)
    · exact .inr (.inr (Classical.byContradiction fun n => a.stay x n o))
  bor i xs h := by
    obtain ⟨e1, ys, h1⟩ := b.bor i xs h
    obtain ⟨e2, zs, h2⟩ := a.bor i ys h1
    exact ⟨e1.trans e2, zs, h2⟩
theorem SR.notOw (s : SR K xr ρ σ H F) {a : Addr} (f : F a) : ¬ Ow ρ σ a := fun ⟨i, o, e⟩ => by
  rcases o with ⟨b, xs, o⟩ | ⟨b, kvs, o⟩
  · obtain ⟨a', vs, e', _, n, _⟩ := s.ol i b xs o
    rw [e] at e'; cases e'; exact n f
  · exact s.od i b kvs o
theorem Stp.frz (st : Stp ρ σ H F ρ1 σ1 H1 F1) (s : SR K xr ρ σ H F) : ∀ a, F a → H1 a = H a := fun a f => st.keep a (s.dom a f) (s.ntb a f) (s.notOw f)
theorem Stp.rp (st : Stp ρ σ H F ρ1 σ1 H1 F1) (s : SR K xr ρ σ H F) {v : V} {d : D} (r : Rp K H F v d) : Rp K H1 F1 v d := r.mono st.inc (st.frz s)
theorem Stp.rpa (st : Stp ρ σ H F ρ1 σ1 H1 F1) (s : SR K xr ρ σ H F) {v : List V} {d : List D} (r : RpA K H F v d) : RpA K H1 F1 v d := r.mono st.inc (st.frz s)
theorem SR.owH (s : SR K xr ρ σ H F) {a : Addr} (o : Ow ρ σ a) : H a ≠ none := by
  obtain ⟨i, o, e⟩ := o
  rcases o with ⟨b, xs, o⟩ | ⟨b, kvs, o⟩
  · obtain ⟨a', vs, e', h, n, _⟩ := s.ol i b xs o
    rw [e] at e'; cases e'; rw [h]; exact fun z => nomatch z
  · exact (s.od i b kvs o).elim

/-- what an operand is -/
def RpO (K : PySem.W.Frag) (ρ : Env) (σ : L2.St) (H : Hp) (F : Addr → Prop) (H0 : Hp) : Opd → V → Prop
  | .val d, v => Rp K H F v d
  | .own i, v => σ[i]? = some (some v)
  | .new xs, v => ∃ a vs, v = .ref a ∧ H a = some (.lst vs) ∧ ¬ F a ∧ ¬ Ow ρ σ a ∧ H0 a = none ∧ RpA K H F vs xs
theorem RpO.carry {o : Opd} {v : V} {H0 : Hp} (r : RpO K ρ σ H F H0 o v) (s : SR K xr ρ σ H F) (st : Stp ρ σ H F ρ1 σ H1 F1) : RpO K ρ1 σ H1 F1 H0 o v := by
  cases o with
  | val d => exact st.rp s r
  | own i => exact r
  | new xs =>
    obtain ⟨a, vs, e, h, nf, no, h0, q⟩ := r
    have hn : H a ≠ none := by rw [h]; exact fun z => nomatch z
    refine ⟨a, vs, e, (st.keep a hn (.lst h) no).trans h, fun f => ?_, fun o => ?_, h0, st.rpa s q⟩
    · rcases st.new a f with f | f | f
      · exact nf f
      · exact no f
      · exact hn f
    · rcases st.own a o with f | f
      · exact no f
      · exact hn f
theorem RpO.h0 {o : Opd} {v : V} {H0 H00 : Hp} (r : RpO K ρ σ H F H0 o v) (h : ∀ a, H00 a ≠ none → H0 a ≠ none) : RpO K ρ σ H F H00 o v := by
  cases o with
  | val d => exact r
  | own i => exact r
  | new xs =>
    obtain ⟨a, vs, e, h', nf, no, h0, q⟩ := r
    exact ⟨a, vs, e, h', nf, no, Classical.byContradiction fun n => h a n h0, q⟩
theorem RpO.rd {o : Opd} {v : V} {H0 : Hp} {d : D} (r : RpO K ρ σ H F H0 o v) (s : SR K xr ρ σ H F) (e : o.rd ρ = some d) : Rr K H F v d := by
  cases o with
  | val d' => cases e; exact .of r
  | own i =>
    have r' : σ[i]? = some (some v) := r
    simp only [Opd.rd] at e
    split at e
    · rename_i q; cases e
      obtain ⟨v', e', p⟩ := s.sh i _ q
      rw [r'] at e'; cases e'; exact .of p
    · rename_i q; cases e
      obtain ⟨a, vs, e', h, _, p⟩ := s.ol i _ _ q
      rw [r'] at e'; cases e'; exact .lst h p
    · rename_i q; exact (s.od i _ _ q).elim
    · cases e
  | new xs =>
    cases e
    obtain ⟨a, vs, e, h', nf, no, h0, q⟩ := r
    subst e
    exact .lst h' q

theorem getS {α : Type} {l : List α} {i j : Nat} {x y : α} (h : (l.set i x)[j]? = some y) : (i = j ∧ x = y ∧ i < l.length) ∨ (i ≠ j ∧ l[j]? = some y) := by
  by_cases e : i = j
  · subst e
    by_cases hl : i < l.length
    · rw [List.getElem?_set_self hl] at h; cases h; exact .inl ⟨rfl, rfl, hl⟩
    · rw [List.getElem?_eq_none (by simpa using hl)] at h; cases h
  · rw [List.getElem?_set_ne e] at h; exact .inr ⟨e, h⟩
theorem isOwn.set {i j : Nat} {x : Slot} (h : isOwn (ρ.set i x) j) : (i = j ∧ ((∃ b xs, x = .ol b xs) ∨ ∃ b kvs, x = .od b kvs)) ∨ (i ≠ j ∧ isOwn ρ j) := by
  rcases h with ⟨b, xs, h⟩ | ⟨b, xs, h⟩
  · rcases getS h with ⟨e, q, _⟩ | ⟨n, q⟩
    · exact .inl ⟨e, .inl ⟨b, xs, q⟩⟩
    · exact .inr ⟨n, .inl ⟨b, xs, q⟩⟩
  · rcases getS h with ⟨e, q, _⟩ | ⟨n, q⟩
    · exact .inl ⟨e, .inr ⟨b, xs, q⟩⟩
    · exact .inr ⟨n, .inr ⟨b, xs, q⟩⟩

/-- the heap grows, more is shared -/
theorem SR.grow (s : SR K xr ρ σ H F) (hF : ∀ a, F a → F1 a) (hH : ∀ a, H a ≠ none → H1 a = H a) (new : ∀ a, F1 a → F a ∨ H a = none) (dom : ∀ a, F1 a → H1 a ≠ none) (ntn : ∀ a, F1 a → H a = none → NT H1 a) : SR K xr ρ σ H1 F1 where
  len := s.len
  dom := dom
  sh i d e := by
    obtain ⟨v, h, r⟩ := s.sh i d e
    exact ⟨v, h, r.mono hF fun a f => hH a (s.dom a f)⟩
  ol i b xs e := by
    obtain ⟨a, vs, h1, h2, h3, h4⟩ := s.ol i b xs e
    have hn : H a ≠ none := by rw [h2]; exact fun z => nomatch z
    exact ⟨a, vs, h1, (hH a hn).trans h2, fun f => (new a f).elim h3 hn, h4.mono hF fun a f => hH a (s.dom a f)⟩
  od := s.od
  ex := s.ex
  ap := s.ap
  ntb a f := (new a f).elim (fun g => (s.ntb a g).of (hH a (s.dom a g))) (ntn a f)
  tb a h := tab_eq (s.tb a h) (hH a (tab_some (s.tb a h)))
theorem Stp.grow (s : SR K xr ρ σ H F) (hF : ∀ a, F a → F1 a) (hH : ∀ a, H a ≠ none → H1 a = H a) (new : ∀ a, F1 a → F a ∨ H a = none) : Stp ρ σ H F ρ σ H1 F1 where
  inc := hF
  keep a h _ _ := hH a h
  tab a h := tab_eq h (hH a (tab_some h))
  own a o := .inl o
  stay a h := by rw [hH a h]; exact h
  new a f := (new a f).imp id .inr
  bor i xs h := ⟨rfl, xs, h⟩
/-- one more address shared -/
def add (F : Addr → Prop) (a : Addr) : Addr → Prop := fun b => b = a ∨ F b
theorem add_inc {a : Addr} : ∀ b, F b → add F a b := fun _ h => .inr h
theorem add_at {a : Addr} : add F a a := .inl rfl

/-- an operand is handed on: it is shared from now on -/
theorem RpO.fz {o : Opd} {v : V} {ρ0 : Env} {σ0 : L2.St} {H0 : Hp} {F0 : Addr → Prop} {d : D} (r : RpO K ρ σ H F H0 o v) (s : SR K xr ρ σ H F) (st : Stp ρ0 σ0 H0 F0 ρ σ H F) (e : o.fz ρ = some (d, ρ1)) :
    ∃ F1, SR K xr ρ1 σ H F1 ∧ Stp ρ0 σ0 H0 F0 ρ1 σ H F1 ∧ Rp K H F1 v d ∧ (∀ a, F a → F1 a) := by
  cases o with
  | val d' => cases e; exact ⟨F, s, st, r, fun _ h => h⟩
  | new xs =>
    cases e
    obtain ⟨a, vs, e, h', nf, no, h0, q⟩ := r
    subst e
    have hn : H a ≠ none := by rw [h']; exact fun z => nomatch z
    have qq := q.mono (F' := add F a) (H' := H) add_inc fun _ _ => rfl
    refine ⟨add F a, ⟨s.len, fun b h => h.elim (fun e => e ▸ hn) (s.dom b), fun i d e => ?_, fun i b ys e => ?_, s.od, s.ex, s.ap, fun b h => h.elim (fun e => e ▸ .lst h') (s.ntb b), s.tb⟩, ⟨fun b h => .inr (st.inc b h), st.keep, st.tab, st.own, st.stay, fun b h => ?_, st.bor⟩, .lst (.of h') add_at qq, add_inc⟩
    · obtain ⟨v, h, r⟩ := s.sh i d e
      exact ⟨v, h, r.mono add_inc fun _ _ => rfl⟩
    · obtain ⟨b', ws, h1, h2, h3, h4⟩ := s.ol i b ys e
      refine ⟨b', ws, h1, h2, fun f => ?_, h4.mono add_inc fun _ _ => rfl⟩
      rcases f with f | f
      · subst f; exact no ⟨i, .inl ⟨b, ys, e⟩, h1⟩
      · exact h3 f
    · rcases h with h | h
      · subst h; exact .inr (.inr h0)
      · exact st.new b h
  | own i =>
    have r' : σ[i]? = some (some v) := r
    simp only [Opd.fz] at e
    split at e
    · rename_i q; cases e
      obtain ⟨v', e', p⟩ := s.sh i _ q
      rw [r'] at e'; cases e'; exact ⟨F, s, st, p, fun _ h => h⟩
    · rename_i xs q; cases e
      obtain ⟨a, vs, e', h, nf, p⟩ := s.ol i _ _ q
      rw [r'] at e'; cases e'
      have hn : H a ≠ none := by rw [h]; exact fun z => nomatch z
      have me : OwnAt ρ σ i a := ⟨.inl ⟨_, _, q⟩, r'⟩
      refine ⟨add F a, ⟨by simp [s.len], fun b h => h.elim (fun e => e ▸ hn) (s.dom b), fun j d e => ?_, fun j b ys e => ?_, fun j b kvs e => ?_, fun j c e => ?_, fun j k b o1 o2 => ?_, fun b hb => hb.elim (fun e => e ▸ .lst h) (s.ntb b), s.tb⟩, ⟨fun b h => .inr (st.inc b h), st.keep, st.tab, fun b o => ?_, st.stay, fun b h => ?_, fun j ys e => ?_⟩, .lst (.of h) add_at (p.mono add_inc fun _ _ => rfl), add_inc⟩
      · rcases getS e with ⟨e1, e2, _⟩ | ⟨e1, e2⟩
        · subst e1; cases e2
          exact ⟨_, r', .lst (.of h) add_at (p.mono add_inc fun _ _ => rfl)⟩
        · obtain ⟨v, h, r⟩ := s.sh j d e2
          exact ⟨v, h, r.mono add_inc fun _ _ => rfl⟩
      · rcases getS e with ⟨e1, e2, _⟩ | ⟨e1, e2⟩
        · cases e2
        · obtain ⟨b', ws, h1, h2, h3, h4⟩ := s.ol j b ys e2
          refine ⟨b', ws, h1, h2, fun f => ?_, h4.mono add_inc fun _ _ => rfl⟩
          rcases f with f | f
          · subst f; exact e1 (s.ap i j _ me ⟨.inl ⟨b, ys, e2⟩, h1⟩)
          · exact h3 f
      · rcases getS e with ⟨e1, e2, _⟩ | ⟨e1, e2⟩
        · cases e2
        · exact s.od j b kvs e2
      · rcases getS e with ⟨e1, e2, _⟩ | ⟨e1, e2⟩
        · cases e2
        · exact s.ex j c e2
      · have f1 : isOwn ρ j := by
          rcases o1.1.set with ⟨_, ⟨_, _, z⟩ | ⟨_, _, z⟩⟩ | ⟨_, z⟩
          · cases z
          · cases z
          · exact z
        have f2 : isOwn ρ k := by
          rcases o2.1.set with ⟨_, ⟨_, _, z⟩ | ⟨_, _, z⟩⟩ | ⟨_, z⟩
          · cases z
          · cases z
          · exact z
        exact s.ap j k b ⟨f1, o1.2⟩ ⟨f2, o2.2⟩
      · obtain ⟨j, o, e⟩ := o
        rcases o.set with ⟨_, ⟨_, _, z⟩ | ⟨_, _, z⟩⟩ | ⟨_, z⟩
        · cases z
        · cases z
        · exact st.own b ⟨j, z, e⟩
      · rcases h with h | h
        · subst h
          rcases st.own b ⟨i, me⟩ with o | o
          · exact .inr (.inl o)
          · exact .inr (.inr o)
        · exact st.new b h
      · rcases getS e with ⟨e1, e2, _⟩ | ⟨e1, e2⟩
        · cases e2
        · exact st.bor j ys e2
    · cases e

/-! ### a plain operation's result -/
def Res (K : PySem.W.Frag) (H : Hp) (F : Addr → Prop) (z : Opd) (v : V) (H1 : Hp) : Prop :=
  ∃ F1 : Addr → Prop, (∀ a, F a → F1 a) ∧ (∀ a, H a ≠ none → H1 a = H a) ∧ (∀ a, F1 a → F a ∨ H a = none) ∧ (∀ a, F1 a → F a ∨ H1 a ≠ none) ∧ (∀ a, F1 a → H a = none → NT H1 a) ∧
    match z with
    | .val d => Rp K H1 F1 v d
    | .new xs => ∃ a vs, v = .ref a ∧ H a = none ∧ H1 a = some (.lst vs) ∧ ¬ F1 a ∧ RpA K H1 F1 vs xs
    | .own _ => False
theorem Res.same {v : V} {d : D} (r : Rp K H F v d) : Res K H F (.val d) v H := ⟨F, fun _ h => h, fun _ _ => rfl, fun _ h => .inl h, fun _ h => .inl h, fun _ _ e ps => by rw [e]; exact fun z => (nomatch z), r⟩
theorem upd_keep {a : Addr} {o : HO} (hn : H a = none) : ∀ b, H b ≠ none → upd H a o b = H b := fun b h => upd_ne fun e => h (e ▸ hn)
theorem Res.tup {p : Addr} {vs : List V} {ds : List D} {ho : HO} (hn : H p = none) (ht : TupHO ho vs) (dom : ∀ a, F a → H a ≠ none) (r : RpA K H F vs ds) : Res K H F (.val (.tuple ds)) (.ref p) (upd H p ho) := by
  refine ⟨add F p, add_inc, upd_keep hn, fun a h => h.elim (fun e => .inr (e ▸ hn)) .inl, fun a h => h.elim (fun e => .inr ?_) .inl, fun a h e => h.elim (fun z => z ▸ fun ps q => ?_) (fun f => (dom a f e).elim), .tup (.new ht) add_at (r.mono add_inc fun a f => upd_keep hn a (dom a f))⟩
  · subst e; rw [upd_same]; exact fun z => nomatch z
  · rw [upd_same] at q; exact ht.nt ps (Option.some.inj q)
theorem Res.lst {p : Addr} {vs : List V} {ds : List D} (hn : H p = none) (dom : ∀ a, F a → H a ≠ none) (r : RpA K H F vs ds) : Res K H F (.new ds) (.ref p) (upd H p (.lst vs)) :=
  ⟨F, fun _ h => h, upd_keep hn, fun _ h => .inl h, fun _ h => .inl h, fun a f e => (dom a f e).elim, p, vs, rfl, hn, upd_same, fun f => dom p f hn, r.mono (fun _ h => h) fun a f => upd_keep hn a (dom a f)⟩
theorem Res.use {z : Opd} {v : V} {H0 : Hp} (x : Res K H F z v H1) (s : SR K xr ρ σ H F) (h0 : ∀ a, H0 a ≠ none → H a ≠ none) :
    ∃ F1, SR K xr ρ σ H1 F1 ∧ Stp ρ σ H F ρ σ H1 F1 ∧ RpO K ρ σ H1 F1 H0 z v := by
  obtain ⟨F1, i1, i2, i3, i4, i5, q⟩ := x
  have dom : ∀ a, F1 a → H1 a ≠ none := fun a f => (i4 a f).elim (fun f => by rw [i2 a (s.dom a f)]; exact s.dom a f) id
  refine ⟨F1, s.grow i1 i2 i3 dom i5, Stp.grow s i1 i2 i3, ?_⟩
  cases z with
  | val d => exact q
  | own i => exact q.elim
  | new xs =>
    obtain ⟨a, vs, e, hn, h1, nf, r⟩ := q
    refine ⟨a, vs, e, h1, nf, fun o => ?_, Classical.byContradiction fun n => h0 a n hn, r⟩
    exact s.owH o hn
end
end RX

end
section
set_option Elab.async false
set_option linter.all false
set_option maxRecDepth 100000
set_option maxHeartbeats 4000000
set_option autoImplicit false
namespace RX
open PySem PySem.Spec PyProof.Rows L2

/-! ### the plain operations are what the machine does -/
def rD (K : PySem.W.Frag) (f : D → D → Option Opd) : R2 := fun x y H Q => ∃ (F : Addr → Prop) (dx dy : D) (z : Opd),
  (∀ a, F a → H a ≠ none) ∧ Rr K H F x dx ∧ Rr K H F y dy ∧ f dx dy = some z ∧ ∀ v H1, Res K H F z v H1 → Q v H1
def rDB (K : PySem.W.Frag) (f : D → D → Option Bool) : R2 := fun x y H Q => ∃ (F : Addr → Prop) (dx dy : D) (b : Bool),
  (∀ a, F a → H a ≠ none) ∧ Rr K H F x dx ∧ Rr K H F y dy ∧ f dx dy = some b ∧ Q (.bl b) H
theorem line_eq : line = sizeLine := by rw [sizeLine_eq]; rfl
theorem big_log {n : Nat} (h : n < big) : n.log2 < 4000 := by
  unfold big at h
  exact PySem.Flt.log2_lt_of (by decide) h
theorem okMul_ok {i j : Int} (h : okMul i j = true) : IntMulOk i j := by
  unfold okMul at h
  rw [Bool.or_eq_true, Bool.or_eq_true, Bool.and_eq_true] at h
  rcases h with (h | h) | ⟨h1, h2⟩
  · have h := of_decide_eq_true h
    exact CMul.ok (.inl (by omega))
  · have h := of_decide_eq_true h
    exact CMul.ok (.inr (by omega))
  · have h1 := big_log (of_decide_eq_true h1)
    have h2 := big_log (of_decide_eq_true h2)
    exact CMulW.ok (by unfold CMulW; omega)
theorem okDiv_ok {i j : Int} (h : okDiv j = true) : CDivN i j ∨ CDivW i j := by
  unfold okDiv at h
  rw [Bool.and_eq_true, Bool.or_eq_true, Bool.and_eq_true] at h
  obtain ⟨h0, h⟩ := h
  have h0 : j ≠ 0 := by simpa using h0
  rcases h with h | ⟨h1, h2⟩
  · exact .inl ⟨h0, of_decide_eq_true h⟩
  · have h2 := big_log (of_decide_eq_true h2)
    exact .inr ⟨of_decide_eq_true h1, by omega⟩
theorem okPow_ok {i j : Int} (h : okPow i j = true) : CPow i j := by
  unfold okPow at h
  rw [Bool.and_eq_true, Bool.and_eq_true] at h
  exact ⟨of_decide_eq_true h.1.1, of_decide_eq_true h.1.2, of_decide_eq_true h.2⟩
theorem strOk_append {x y : Str} (h1 : PyData.strOk x = true) (h2 : PyData.strOk y = true) : PyData.strOk (x ++ y) = true := by
  unfold PyData.strOk at *
  show Array.all (x.cps ++ y.cps) _ = true
  rw [Array.all_append, h1, h2]; rfl
section
variable {X : Cx}
theorem bin_int (o : Operator) : OpR X (binaryOp o) (fun x y H Q => ∃ i j n, x = .int i ∧ y = .int j ∧ binI o i j = some n ∧ Q (.int n) H) := by
  intro pins s σ H x y v u Q I rx ry h
  obtain ⟨i, j, n, rfl, rfl, e, q⟩ := h
  cases o <;> simp only [binI] at e
  case Add => cases e; exact op_add pins s σ H _ _ v u Q I rx ry ⟨i, j, rfl, rfl, q⟩
  case Sub => cases e; exact op_sub pins s σ H _ _ v u Q I rx ry ⟨i, j, rfl, rfl, q⟩
  case Mult =>
    split at e <;> cases e
    rename_i h
    exact opI (C := IntMulOk) (g := fun i j => i * j) (fun _ _ _ _ _ _ _ hc q => mul_int q hc) pins s σ H _ _ v u Q I rx ry ⟨i, j, rfl, rfl, okMul_ok h, q⟩
  case MatMult => cases e
  case Div => cases e
  case FloorDiv =>
    split at e <;> cases e
    rename_i h
    rcases okDiv_ok (i := i) h with h | h
    · exact op_fdivN pins s σ H _ _ v u Q I rx ry ⟨i, j, rfl, rfl, h, q⟩
    · refine op_fdivW pins s σ H _ _ v u Q I rx ry ⟨i, j, rfl, rfl, h, ?_⟩
      show Q (.int (i / j)) H
      rw [← Int.fdiv_eq_ediv_of_nonneg i (by have := h.1; omega)]; exact q
  case Mod =>
    split at e <;> cases e
    rename_i h
    exact op_modN pins s σ H _ _ v u Q I rx ry ⟨i, j, rfl, rfl, by simpa using h, q⟩
  case Pow =>
    split at e <;> cases e
    rename_i h
    exact op_pow pins s σ H _ _ v u Q I rx ry ⟨i, j, rfl, rfl, okPow_ok h, q⟩
  case LShift =>
    split at e <;> cases e
    rename_i h
    exact op_shl pins s σ H _ _ v u Q I rx ry ⟨i, j, rfl, rfl, okPow_ok h, q⟩
  case RShift =>
    split at e <;> cases e
    rename_i h
    exact op_shr pins s σ H _ _ v u Q I rx ry ⟨i, j, rfl, rfl, of_decide_eq_true h, q⟩
  case BitOr => cases e; exact op_or pins s σ H _ _ v u Q I rx ry ⟨i, j, rfl, rfl, q⟩
  case BitXor => cases e; exact op_xor pins s σ H _ _ v u Q I rx ry ⟨i, j, rfl, rfl, q⟩
  case BitAnd => cases e; exact op_and pins s σ H _ _ v u Q I rx ry ⟨i, j, rfl, rfl, q⟩
theorem cat_lists : OpR X (binaryOp .Add) (fun x y H Q => ∃ a b xs ys, x = .ref a ∧ y = .ref b ∧ SqL X.K H a xs ∧ SqL X.K H b ys ∧ xs.length + ys.length ≤ sizeLine ∧ ∀ p, H p = none → Q (.ref p) (upd H p (.lst (xs ++ ys)))) := by
  intro pins s σ H x y v u Q I rx ry h
  obtain ⟨l, b, xs, zs, rfl, rfl, hH, hB, hz, q⟩ := h
  cases rx
  cases ry
  obtain ⟨its, r, p1, hl⟩ := I.list hH
  obtain ⟨its2, r2, p2, hl2⟩ := I.list hB
  obtain ⟨⟨cls, dd, data, sl⟩, ho, hc, n, hd⟩ := p1.isList
  obtain ⟨⟨cls2, dd2, data2, sl2⟩, ho2, hc2, n2, hd2⟩ := p2.isList
  simp only at hc hd hc2 hd2
  subst hc hd hc2 hd2
  have e : its.toArray ++ its2.toArray = (its ++ its2).toArray := by simp
  have e1 := r.length
  have e2 := r2.length
  refine concat_meets ⟨_, ho, rfl⟩ ⟨_, ho2, rfl⟩ noFill_list_add seq_list_add PySem.F.slot_list_add PySem.F.entry_list_add (PySem.F.args_list_add_2 _ _) (list_addW l b its.toArray its2.toArray n n2 dd dd2 sl sl2 (by simp; omega)) ⟨ho, ho2, ?_⟩
  rw [e]
  exact ⟨.ref _, _, I.lnew (t' := s.toks) (r.append r2) (by rw [List.length_append]; omega), rfl, q _ I.fresh⟩
theorem rep_lists : OpR X (binaryOp .Mult) (fun x y H Q => ∃ a k xs, x = .ref a ∧ y = .int k ∧ SqL X.K H a xs ∧ -(2 ^ 63) ≤ k ∧ k < 2 ^ 63 ∧ xs.length * k.toNat ≤ sizeLine ∧ ∀ p, H p = none → Q (.ref p) (upd H p (.lst (List.replicate k.toNat xs).flatten))) := by
  intro pins s σ H x y v u Q I rx ry h
  obtain ⟨l, x, xs, rfl, rfl, hH, hlo, hhi, hz, q⟩ := h
  cases rx
  obtain ⟨u, rfl⟩ := ry
  obtain ⟨vs, r, p1, hl⟩ := I.list hH
  obtain ⟨⟨cls, d, data, sl⟩, ho, hcl, k, hd⟩ := p1.isList
  simp only at hcl hd
  subst hcl hd
  have e1 := r.length
  rw [sizeLine_eq] at hz
  have hsz' : vs.toArray.size * x.toNat ≤ 2 ^ 24 := by
    rw [List.size_toArray, ← e1]; exact hz
  refine wpAny_binaryOp_repeat_ref (T := "list") (U := "int") (by decide) ⟨_, ho, rfl⟩ (fun s' => typeIs_int s' x u) noFill_list_mul F.fills_int_mul F.slot_int_rmul repeat_list F.slot_int_index.lookup
    (call_meets F.slot_int_rmul (typeIs_int s x u) F.entry_int_rmul (F.args_int_rmul_2 _ _) (lm_int_rmul_list_any x u l vs.toArray k d sl)
      ⟨ho, rfl, ⟨_, ho, rfl⟩, call_meets F.slot_list_mul ⟨_, ho, rfl⟩ F.entry_list_mul (F.args_list_mul_2 _ _)
        (lm_list_mul_any l vs.toArray k d sl x u (by simp [Builtin.List.listFitsIndex]; omega) (by omega) (by simp [Builtin.List.listTooLong, sizeLine]; omega))
        ⟨ho, ?_⟩⟩)
  rw [listMul_foldl_if]
  exact ⟨.ref _, _, I.lnew (t' := s.toks) (r.rep x.toNat) (by rw [PyProof.Rows.lm_len_rep_flat, Nat.mul_comm, sizeLine_eq]; exact hz), rfl, q _ I.fresh⟩
theorem rep_eq {α : Type} (xs : List α) (k : Nat) : rep xs k = (List.replicate k xs).flatten := rfl
theorem rep_one {K : PySem.W.Frag} {H : Hp} {F : Addr → Prop} {vs : List V} {ds : List D} {k : Int} (r : RpA K H F vs ds) (h : vs = [] ∨ k = 1) : rep ds k.toNat = ds := by
  rcases h with rfl | rfl
  · cases r
    unfold rep
    exact List.flatten_eq_nil_iff.mpr fun l hl => (List.mem_replicate.mp hl).2
  · show rep ds 1 = ds
    simp [rep]
theorem bin_ok (o : Operator) : OpR X (binaryOp o) (rD X.K (binD o)) := by
  intro pins s σ H x y v u Q I rx ry h
  obtain ⟨F, dx, dy, z, dom, hx, hy, e, q⟩ := h
  unfold binD at e
  split at e
  · obtain ⟨n, e1, rfl⟩ := Option.map_eq_some_iff.mp e
    rw [hx.int] at rx
    rw [hy.int] at ry
    exact bin_int o pins s σ H _ _ v u Q I rx ry ⟨_, _, n, rfl, rfl, e1, q _ _ (.same (.int n))⟩
  · split at e <;> cases e
    rename_i hz
    obtain ⟨a, xs, rfl, h1, h2⟩ := hx.list
    obtain ⟨b, ys, rfl, h3, h4⟩ := hy.list
    refine cat_lists pins s σ H _ _ v u Q I rx ry ⟨a, b, xs, ys, rfl, rfl, h1, h3, ?_, fun p hp => q _ _ (.lst hp dom (h2.append h4))⟩
    rw [← line_eq, h2.length, h4.length]; exact hz
  · split at e <;> cases e
    rename_i hz
    obtain ⟨a, xs, rfl, h1, h2⟩ := hx.tuple
    obtain ⟨b, ys, rfl, h3, h4⟩ := hy.tuple
    refine op_catMT pins s σ H _ _ v u Q I rx ry ⟨a, b, xs, ys, rfl, rfl, h1, h3, ?_, fun e => ?_, fun _ e => ?_, fun _ _ p ho hp ht => q _ _ (.tup hp ht dom (h2.append h4))⟩
    · rw [← line_eq, h2.length, h4.length]; exact hz
    · subst e; cases h2
      cases hy with
      | of hy => exact q _ _ (.same hy)
    · subst e; cases h4
      cases hx with
      | of hx => rw [List.append_nil] at q; exact q _ _ (.same hx)
  · split at e <;> cases e
    rename_i hz
    obtain ⟨rfl, h1⟩ := hx.str
    obtain ⟨rfl, h2⟩ := hy.str
    exact op_add_str pins s σ H _ _ v u Q I rx ry ⟨_, _, rfl, rfl, by rw [← line_eq]; exact hz, q _ _ (.same (.str _ (strOk_append h1 h2)))⟩
  · split at e <;> cases e
    rename_i k hz
    obtain ⟨a, xs, rfl, h1, h2⟩ := hx.list
    rw [hy.int] at ry
    obtain ⟨hk1, hk2, hz⟩ := hz
    refine rep_lists pins s σ H _ _ v u Q I rx ry ⟨a, k, xs, rfl, rfl, h1, by omega, by omega, ?_, fun p hp => q _ _ (.lst hp dom (h2.rep _))⟩
    rw [← line_eq, h2.length]; exact hz
  · split at e <;> cases e
    rename_i k hz
    obtain ⟨a, xs, rfl, h1, h2⟩ := hx.tuple
    rw [hy.int] at ry
    obtain ⟨hk1, hk2, hz⟩ := hz
    refine TM.op_repA pins s σ H _ _ v u Q I rx ry ⟨a, k, xs, rfl, rfl, h1, hk1, hk2, by rw [h2.length]; exact hz, fun e => ?_, fun p ho hp ht => q _ _ (.tup hp ht dom (h2.rep _))⟩
    have e2 : rep _ k.toNat = _ := rep_one h2 e
    rw [e2] at q
    cases hx with
    | of hx => exact q _ _ (.same hx)
  · cases e

theorem un_ok : UnR X (unaryOp .USub) (fun x H Q => ∃ i, x = .int i ∧ Q (.int (-i)) H) := un_neg

theorem cmp_int (o : CmpOp) : OpR X (compareOp o) (fun x y H Q => ∃ i j b, x = .int i ∧ y = .int j ∧ cmpI o i j = some b ∧ Q (.bl b) H) := by
  intro pins s σ H x y v u Q I rx ry h
  obtain ⟨i, j, n, rfl, rfl, e, q⟩ := h
  cases o <;> simp only [cmpI] at e <;> cases e
  case Lt => exact op_lt pins s σ H _ _ v u Q I rx ry ⟨i, j, rfl, rfl, q⟩
  case LtE => exact op_le pins s σ H _ _ v u Q I rx ry ⟨i, j, rfl, rfl, q⟩
  case Gt => exact op_gt pins s σ H _ _ v u Q I rx ry ⟨i, j, rfl, rfl, q⟩
  case GtE => exact op_ge pins s σ H _ _ v u Q I rx ry ⟨i, j, rfl, rfl, q⟩
  case Eq =>
    refine op_eq pins s σ H _ _ v u Q I rx ry ⟨rfl, ?_⟩
    rw [show decide (V.int i = V.int j) = decide (i = j) by simp]; exact q
  case NotEq =>
    refine op_ne pins s σ H _ _ v u Q I rx ry ⟨rfl, ?_⟩
    rw [show decide (V.int i = V.int j) = decide (i = j) by simp]; exact q
theorem isNo_of {K : PySem.W.Frag} {H : Hp} {F : Addr → Prop} {v : V} {d : D} (h : Rr K H F v d) : decide (v = .non) = isNo d := by
  cases h with
  | of h => cases h <;> simp [isNo]
  | lst h a => simp [isNo]
theorem flatL {ds : List D} (h : flatAll deep ds = true) : flat (deep + 1) (.list ds) = true := by
  show flatAll deep ds = true
  exact h
theorem shaped_of' {K : PySem.W.Frag} {H : Hp} {F : Addr → Prop} {v : V} {d : D} (h : Rr K H F v d) (f : flat (deep + 1) d = true) : SeqAt.shaped d = true := by
  have h1 := flat_depth _ _ f
  unfold deep at h1
  unfold SeqAt.shaped
  rw [h.lay, decide_eq_true (by omega)]
  rfl
theorem op_inT (hu : X.A.units + 65 < cLine) : OpR X (compareOp .In) (fun x y H Q => ∃ d ds, Dp X.K H x d ∧ Dp X.K H y (.tuple ds) ∧ SeqAt.shaped d = true ∧ SeqAt.shaped (.tuple ds) = true ∧ Q (.bl (ds.any fun z => PyData.eqv z d)) H) := by
  intro pins s σ H x y v u Q I rx ry h
  obtain ⟨d, ds, hd, he, sd, se, q⟩ := h
  obtain ⟨as, r1⟩ := Dp.reads I d x v hd rx
  obtain ⟨bs, r2⟩ := Dp.reads I (.tuple ds) y u he ry
  exact SeqAt.in_tuple_reads r2 r1 (SeqAt.canLay_of_shaped se) (SeqAt.canLay_of_shaped sd) (PyProof.Rows.room_in_shaped sd hu) ⟨.bl _, H, I, rfl, q⟩
theorem op_notInT (hu : X.A.units + 65 < cLine) : OpR X (compareOp .NotIn) (fun x y H Q => ∃ d ds, Dp X.K H x d ∧ Dp X.K H y (.tuple ds) ∧ SeqAt.shaped d = true ∧ SeqAt.shaped (.tuple ds) = true ∧ Q (.bl (!ds.any fun z => PyData.eqv z d)) H) := by
  intro pins s σ H x y v u Q I rx ry h
  obtain ⟨d, ds, hd, he, sd, se, q⟩ := h
  obtain ⟨as, r1⟩ := Dp.reads I d x v hd rx
  obtain ⟨bs, r2⟩ := Dp.reads I (.tuple ds) y u he ry
  exact SeqAt.notIn_tuple_reads r2 r1 (SeqAt.canLay_of_shaped se) (SeqAt.canLay_of_shaped sd) (PyProof.Rows.room_in_shaped sd hu) ⟨.bl _, H, I, rfl, q⟩
theorem cmp_ok {k : Nat} (hu : X.A.units + 65 < cLine) (o : CmpOp) : OpR X (compareOp o) (rDB X.K (cmpD o)) := by
  intro pins s σ H x y v u Q I rx ry h
  obtain ⟨F, dx, dy, b, dom, hx, hy, e, q⟩ := h
  unfold cmpD at e
  split at e
  · cases e
    refine op_isN pins s σ H _ _ v u Q I rx ry ⟨hy.non, ?_⟩
    rw [isNo_of hx]; exact q
  · cases e
    refine op_notN pins s σ H _ _ v u Q I rx ry ⟨hy.non, ?_⟩
    rw [isNo_of hx]; exact q
  · cases e
    rename_i a b
    refine op_is_bl pins s σ H _ _ v u Q I rx ry ⟨_, _, hx.bl, hy.bl, ?_⟩
    rw [show decide (a = b) = (a == b) by cases a <;> cases b <;> rfl]; exact q
  · cases e
    rename_i a b
    refine op_isnot_bl pins s σ H _ _ v u Q I rx ry ⟨_, _, hx.bl, hy.bl, ?_⟩
    rw [show decide (a = b) = (a == b) by cases a <;> cases b <;> rfl]; exact q
  · split at e <;> cases e
    rename_i hz
    rw [Bool.and_eq_true] at hz
    exact op_inD hu pins s σ H _ _ v u Q I rx ry ⟨_, _, hx.dp, hy.dp, shaped_of hx hz.1, shaped_of' hy (flatL hz.2), q⟩
  · split at e <;> cases e
    rename_i hz
    rw [Bool.and_eq_true] at hz
    exact op_notInD hu pins s σ H _ _ v u Q I rx ry ⟨_, _, hx.dp, hy.dp, shaped_of hx hz.1, shaped_of' hy (flatL hz.2), q⟩
  · split at e <;> cases e
    rename_i hz
    rw [Bool.and_eq_true] at hz
    exact op_inT hu pins s σ H _ _ v u Q I rx ry ⟨_, _, hx.dp, hy.dp, shaped_of hx hz.1, shaped_of' hy (flatL hz.2), q⟩
  · split at e <;> cases e
    rename_i hz
    rw [Bool.and_eq_true] at hz
    exact op_notInT hu pins s σ H _ _ v u Q I rx ry ⟨_, _, hx.dp, hy.dp, shaped_of hx hz.1, shaped_of' hy (flatL hz.2), q⟩
  · rw [hx.int] at rx
    rw [hy.int] at ry
    exact cmp_int o pins s σ H _ _ v u Q I rx ry ⟨_, _, b, rfl, rfl, e, q⟩
  · split at e <;> cases e
    rename_i hz
    rw [Bool.and_eq_true] at hz
    exact op_eqD (by omega) pins s σ H _ _ v u Q I rx ry ⟨_, _, hx.dp, hy.dp, shaped_of hx hz.1, shaped_of hy hz.2, q⟩
  · split at e <;> cases e
    rename_i hz
    rw [Bool.and_eq_true] at hz
    exact op_neD (by omega) pins s σ H _ _ v u Q I rx ry ⟨_, _, hx.dp, hy.dp, shaped_of hx hz.1, shaped_of hy hz.2, q⟩
  · cases e

/-! ### places and slices -/
theorem atI_of {α : Type} {xs : List α} {i : Int} : atI xs i = (ixOf xs.length i).bind fun j => xs[j]? := rfl
theorem strOk_one {s : Str} (h : PyData.strOk s = true) {j c : Nat} (e : s.cps.toList[j]? = some c) : PyData.strOk ⟨#[c]⟩ = true := by
  unfold PyData.strOk at *
  have hm : c ∈ s.cps := by
    have := List.mem_of_getElem? e
    simpa using this
  have := (Array.all_eq_true_iff_forall_mem.mp h) c hm
  simpa using this
def rDX (K : PySem.W.Frag) (f : D → D → Option D) : R2 := fun x y H Q => ∃ (F : Addr → Prop) (dx dy d : D),
  (∀ a, F a → H a ≠ none) ∧ Rr K H F x dx ∧ Rr K H F y dy ∧ f dx dy = some d ∧ ∀ v, Rp K H F v d → Q v H
theorem ix_ok : IxR X (rDX X.K ixD) := by
  intro value slice pins s σ H x y v u Q I rx ry h hs
  obtain ⟨F, dx, dy, d, dom, hx, hy, e, q⟩ := h
  unfold ixD at e
  split at e
  · obtain ⟨j, e1, e2⟩ := Option.bind_eq_some_iff.mp e
    obtain ⟨a, xs, rfl, h1, h2⟩ := hx.list
    obtain ⟨w, h3, h4⟩ := h2.at e2
    rw [hy.int] at ry
    refine ix_list _ _ pins s σ H _ _ v u Q I rx ry ⟨a, xs, _, w, rfl, rfl, h1, ?_, q w h4⟩ hs
    rw [atI_of, h2.length, e1]; exact h3
  · obtain ⟨j, e1, e2⟩ := Option.bind_eq_some_iff.mp e
    obtain ⟨a, xs, rfl, h1, h2⟩ := hx.tuple
    obtain ⟨w, h3, h4⟩ := h2.at e2
    rw [hy.int] at ry
    refine ix_tup _ _ pins s σ H _ _ v u Q I rx ry ⟨a, xs, _, w, rfl, rfl, h1, ?_, q w h4⟩ hs
    rw [atI_of, h2.length, e1]; exact h3
  · obtain ⟨j, e1, e2⟩ := Option.bind_eq_some_iff.mp e
    obtain ⟨c, e3, rfl⟩ := Option.map_eq_some_iff.mp e2
    obtain ⟨rfl, h1⟩ := hx.str
    rw [hy.int] at ry
    split at e1 <;> rename_i hz
    · exact ix_str _ _ pins s σ H _ _ v u Q I rx ry ⟨_, _, c, rfl, rfl, by rw [← line_eq]; exact hz, by rw [atI_of, e1]; exact e3, q _ (.str _ (strOk_one h1 e3))⟩ hs
    · cases e1
  · cases e
def rDS (K : PySem.W.Frag) (f : D → Option Int → Option Int → Option Opd) : V → Option Int → Option Int → Hp → VK → Prop := fun x lo hi H Q => ∃ (F : Addr → Prop) (dx : D) (z : Opd),
  (∀ a, F a → H a ≠ none) ∧ Rr K H F x dx ∧ f dx lo hi = some z ∧ ∀ v H1, Res K H F z v H1 → Q v H1
theorem cut_rp {K : PySem.W.Frag} {H : Hp} {F : Addr → Prop} {vs : List V} {ds : List D} {lo hi : Option Int} (h : RpA K H F vs ds) : RpA K H F (cutV vs lo hi) (cut ds lo hi) := by
  have e : cutV vs lo hi = (vs.drop (bdOf ds.length 0 lo)).take (bdOf ds.length ds.length hi - bdOf ds.length 0 lo) := by
    rw [← h.length]; cases lo <;> cases hi <;> rfl
  rw [e]
  exact (h.drop _).take _
theorem sl_ok : SlR X (rDS X.K slD) := by
  intro pins s σ H x v vl vu lo hi sl Q I rx hs pl pu h
  obtain ⟨F, dx, z, dom, hx, e, q⟩ := h
  unfold slD at e
  split at e
  · cases e
    obtain ⟨a, xs, rfl, h1, h2⟩ := hx.list
    exact sl_list pins s σ H _ v vl vu lo hi sl Q I rx hs pl pu ⟨a, xs, rfl, h1, fun p hp => q _ _ (.lst hp dom (cut_rp h2))⟩
  · cases e
    rename_i ds
    obtain ⟨a, xs, rfl, h1, h2⟩ := hx.tuple
    refine sl_tupMT pins s σ H _ v vl vu lo hi sl Q I rx hs pl pu ⟨a, xs, rfl, h1, fun ⟨w1, w2⟩ => ?_, fun _ p ho hp ht => q _ _ (.tup hp ht dom (cut_rp h2))⟩
    have e : cut ds lo hi = ds := by
      have w1' : bdOf ds.length 0 lo = 0 := by rw [← h2.length]; cases lo <;> exact w1
      have w2' : bdOf ds.length ds.length hi = ds.length := by rw [← h2.length]; cases hi <;> exact w2
      unfold cut
      rw [w1', w2']; simp
    rw [e] at q
    cases hx with
    | of hx => exact q _ _ (.same hx)
  · cases e
end
end RX

end
section
set_option Elab.async false
set_option linter.all false
set_option maxRecDepth 100000
set_option maxHeartbeats 4000000
set_option autoImplicit false
namespace RX
open PySem PySem.Spec PyProof.Rows L2

/-! ### sorting ints -/
theorem insI_perm (n : Int) : ∀ l : List Int, (insI n l).Perm (n :: l)
  | [] => .refl _
  | m :: r => by
    unfold insI
    split
    · exact .refl _
    · exact ((insI_perm n r).cons m).trans (List.Perm.swap n m r)
theorem sortI_perm : ∀ l : List Int, (sortI l).Perm l
  | [] => .refl _
  | n :: r => (insI_perm n _).trans ((sortI_perm r).cons n)
theorem insI_srt (n : Int) : ∀ l : List Int, l.Pairwise (· ≤ ·) → (insI n l).Pairwise (· ≤ ·)
  | [], _ => by simp [insI]
  | m :: r, h => by
    have h' := List.pairwise_cons.mp h
    unfold insI
    split
    · rename_i hz
      refine List.pairwise_cons.mpr ⟨fun x hx => ?_, h⟩
      rcases List.mem_cons.mp hx with e | e
      · omega
      · have := h'.1 x e; omega
    · refine List.pairwise_cons.mpr ⟨fun x hx => ?_, insI_srt n r h'.2⟩
      rcases List.mem_cons.mp ((insI_perm n r).mem_iff.mp hx) with e | e
      · omega
      · exact h'.1 x e
theorem sortI_srt : ∀ l : List Int, (sortI l).Pairwise (· ≤ ·)
  | [] => .nil
  | n :: r => insI_srt n _ (sortI_srt r)
theorem srt_one : ∀ {l m : List Int}, l.Pairwise (· ≤ ·) → m.Pairwise (· ≤ ·) → l.Perm m → l = m
  | [], m, _, _, p => (List.nil_perm.mp p).symm
  | a :: l, [], _, _, p => absurd p.length_eq (by simp)
  | a :: l, b :: m, h1, h2, p => by
    have q1 := List.pairwise_cons.mp h1
    have q2 := List.pairwise_cons.mp h2
    have e : a = b := by
      have m1 : a ∈ b :: m := p.mem_iff.mp List.mem_cons_self
      have m2 : b ∈ a :: l := p.mem_iff.mpr List.mem_cons_self
      rcases List.mem_cons.mp m1 with e | e
      · exact e
      · rcases List.mem_cons.mp m2 with e' | e'
        · exact e'.symm
        · have := q2.1 a e; have := q1.1 b e'; omega
    subst e
    rw [srt_one q1.2 q2.2 ((List.perm_cons a).mp p)]
theorem maxL_mem (m : Int) : ∀ l : List Int, maxL m l ∈ m :: l
  | [] => by simp [maxL]
  | x :: xs => by
    unfold maxL
    have := maxL_mem (if x > m then x else m) xs
    split at this
    · rename_i h; rw [if_pos h]; exact List.mem_cons_of_mem _ this
    · rename_i h; rw [if_neg h]
      rcases List.mem_cons.mp this with e | e
      · rw [e]; exact List.mem_cons_self
      · exact List.mem_cons_of_mem _ (List.mem_cons_of_mem _ e)
theorem maxL_ge (m : Int) : ∀ l : List Int, ∀ y ∈ m :: l, y ≤ maxL m l
  | [], y, h => by simp at h; simp [maxL, h]
  | x :: xs, y, h => by
    unfold maxL
    have ih := maxL_ge (if x > m then x else m) xs
    have i0 := ih _ List.mem_cons_self
    rcases List.mem_cons.mp h with e | e
    · subst e; split at i0 <;> split <;> omega
    · rcases List.mem_cons.mp e with e | e
      · subst e; split at i0 <;> split <;> omega
      · exact ih y (List.mem_cons_of_mem _ e)
theorem minL_mem (m : Int) : ∀ l : List Int, minL m l ∈ m :: l
  | [] => by simp [minL]
  | x :: xs => by
    unfold minL
    have := minL_mem (if x < m then x else m) xs
    split at this
    · rename_i h; rw [if_pos h]; exact List.mem_cons_of_mem _ this
    · rename_i h; rw [if_neg h]
      rcases List.mem_cons.mp this with e | e
      · rw [e]; exact List.mem_cons_self
      · exact List.mem_cons_of_mem _ (List.mem_cons_of_mem _ e)
theorem minL_le (m : Int) : ∀ l : List Int, ∀ y ∈ m :: l, minL m l ≤ y
  | [], y, h => by simp at h; simp [minL, h]
  | x :: xs, y, h => by
    unfold minL
    have ih := minL_le (if x < m then x else m) xs
    have i0 := ih _ List.mem_cons_self
    rcases List.mem_cons.mp h with e | e
    · subst e; split at i0 <;> split <;> omega
    · rcases List.mem_cons.mp e with e | e
      · subst e; split at i0 <;> split <;> omega
      · exact ih y (List.mem_cons_of_mem _ e)

/-! ### sorting pairs of ints -/
theorem leP_no {p q : Int × Int} (h : leP p q = false) : SrtO.lexB q p = true := by
  unfold leP at h
  rw [Bool.or_eq_false_iff, Bool.and_eq_false_iff, decide_eq_false_iff_not, decide_eq_false_iff_not, decide_eq_false_iff_not] at h
  refine SrtO.lexB_iff.mpr ?_
  omega
theorem leP_yes {p q : Int × Int} (h : leP p q = true) : SrtO.lexB q p = false := by
  unfold leP at h
  rw [Bool.or_eq_true, Bool.and_eq_true, decide_eq_true_eq, decide_eq_true_eq, decide_eq_true_eq] at h
  refine SrtO.lexB_no.mpr ?_
  omega
theorem insP_perm (n : Int × Int) : ∀ l : List (Int × Int), (insP n l).Perm (n :: l)
  | [] => .refl _
  | m :: r => by
    unfold insP
    split
    · exact .refl _
    · exact ((insP_perm n r).cons m).trans (List.Perm.swap n m r)
theorem sortP_perm : ∀ l : List (Int × Int), (sortP l).Perm l
  | [] => .refl _
  | n :: r => (insP_perm n _).trans ((sortP_perm r).cons n)
abbrev SrtP (l : List (Int × Int)) : Prop := l.Pairwise fun x y => SrtO.lexB y x = false
theorem lexB_tr {x y z : Int × Int} (h1 : SrtO.lexB y x = false) (h2 : SrtO.lexB z y = false) : SrtO.lexB z x = false := by
  have a := SrtO.lexB_no.mp h1
  have b := SrtO.lexB_no.mp h2
  refine SrtO.lexB_no.mpr ?_
  omega
theorem insP_srt (n : Int × Int) : ∀ l : List (Int × Int), SrtP l → SrtP (insP n l)
  | [], _ => List.pairwise_singleton _ _
  | m :: r, h => by
    have h' := List.pairwise_cons.mp h
    unfold insP
    split
    · rename_i hz
      refine List.pairwise_cons.mpr ⟨fun x hx => ?_, h⟩
      rcases List.mem_cons.mp hx with e | e
      · rw [e]; exact leP_yes hz
      · exact lexB_tr (leP_yes hz) (h'.1 x e)
    · rename_i hz
      refine List.pairwise_cons.mpr ⟨fun x hx => ?_, insP_srt n r h'.2⟩
      rcases List.mem_cons.mp ((insP_perm n r).mem_iff.mp hx) with e | e
      · rw [e]
        have := SrtO.lexB_iff.mp (leP_no (by simpa using hz))
        refine SrtO.lexB_no.mpr ?_
        omega
      · exact h'.1 x e
theorem sortP_srt : ∀ l : List (Int × Int), SrtP (sortP l)
  | [] => .nil
  | n :: r => insP_srt n _ (sortP_srt r)
theorem srtP_one : ∀ {l m : List (Int × Int)}, SrtP l → SrtP m → l.Perm m → l = m
  | [], m, _, _, p => (List.nil_perm.mp p).symm
  | a :: l, [], _, _, p => absurd p.length_eq (by simp)
  | a :: l, b :: m, h1, h2, p => by
    have q1 := List.pairwise_cons.mp h1
    have q2 := List.pairwise_cons.mp h2
    have e : a = b := by
      have m1 : a ∈ b :: m := p.mem_iff.mp List.mem_cons_self
      have m2 : b ∈ a :: l := p.mem_iff.mpr List.mem_cons_self
      rcases List.mem_cons.mp m1 with e | e
      · exact e
      · rcases List.mem_cons.mp m2 with e' | e'
        · exact e'.symm
        · have z1 := SrtO.lexB_no.mp (q2.1 a e)
          have z2 := SrtO.lexB_no.mp (q1.1 b e')
          refine Prod.ext ?_ ?_ <;> omega
    subst e
    rw [srtP_one q1.2 q2.2 ((List.perm_cons a).mp p)]
open Classical in
/-- the two ints of a pair -/
noncomputable def kOf (K : PySem.W.Frag) (H : Hp) (v : V) : Int × Int := if h : ∃ q : Int × Int, ∃ t, v = .ref t ∧ SqT K H t [.int q.1, .int q.2] then Classical.choose h else (0, 0)
theorem kOf_is {X : Cx} {pins : List (Addr × Obj)} {σ : L2.St} {H : Hp} {s : Shared} (I : Inv X pins σ H s) {t : Addr} {i j : Int} (h : SqT X.K H t [.int i, .int j]) : kOf X.K H (.ref t) = (i, j) := by
  have hx : ∃ q : Int × Int, ∃ u, V.ref t = .ref u ∧ SqT X.K H u [.int q.1, .int q.2] := ⟨(i, j), t, rfl, h⟩
  unfold kOf
  rw [dif_pos hx]
  obtain ⟨u, e1, e2⟩ := Classical.choose_spec hx
  cases e1
  have := I.tuple_inj e2 h
  injection this with a1 a2
  injection a2 with a2 _
  injection a1 with a1
  injection a2 with a2
  exact Prod.ext a1 a2
theorem rpa_of {K : PySem.W.Frag} {H : Hp} {F : Addr → Prop} {f : V → D} : ∀ {vs : List V}, (∀ v ∈ vs, Rp K H F v (f v)) → RpA K H F vs (vs.map f)
  | [], _ => .nil
  | v :: vs, h => .cons (h v List.mem_cons_self) (rpa_of fun w hw => h w (List.mem_cons_of_mem _ hw))
theorem rpa_pairs {X : Cx} {pins : List (Addr × Obj)} {σ : L2.St} {H : Hp} {s : Shared} {F : Addr → Prop} (I : Inv X pins σ H s) : ∀ {vs : List V} {ds : List D} {ps : List (Int × Int)}, RpA X.K H F vs ds → pairsI ds = some ps →
    vs.map (kOf X.K H) = ps ∧ ∀ v ∈ vs, (∃ t, v = V.ref t ∧ SqT X.K H t [.int (kOf X.K H v).1, .int (kOf X.K H v).2]) ∧ Rp X.K H F v ((pD ∘ kOf X.K H) v)
  | _, _, ps, .nil, e => by
    unfold pairsI at e
    cases e
    exact ⟨rfl, by simp⟩
  | v :: vs, d :: ds, ps, .cons a r, e => by
    unfold pairsI at e
    split at e
    · cases ‹_ = []›
    · rename_i i j r' heq
      injection heq with e1 e2
      subst e1 e2
      obtain ⟨qs, e3, rfl⟩ := Option.map_eq_some_iff.mp e
      obtain ⟨h1, h2⟩ := rpa_pairs I r e3
      obtain ⟨t, xs, rfl, h3, h4⟩ := (Rr.of a).tuple
      cases h4 with
      | cons r1 h4 =>
        cases h4 with
        | cons r2 h4 =>
          cases h4
          cases r1
          cases r2
          have hk := kOf_is I h3
          refine ⟨by rw [List.map_cons, hk, h1], fun w hw => ?_⟩
          rcases List.mem_cons.mp hw with rfl | hw
          · refine ⟨⟨t, rfl, by rw [hk]; exact h3⟩, ?_⟩
            show Rp _ _ _ _ (pD (kOf X.K H (.ref t)))
            rw [hk]; exact a
          · exact h2 w hw
    · cases e
/-! ### built-in functions -/
def biF : BI → Value
  | .len => .builtin "len" | .abs => .builtin "abs" | .int => .type "int" | .min => .builtin "min" | .max => .builtin "max" | .sum => .builtin "sum"
  | .list => .type "list" | .tuple => .type "tuple" | .sorted => .builtin "sorted" | .divmod => .builtin "divmod"
def rL (K : PySem.W.Frag) (f : List D → Option Opd) : List V → Hp → VK → Prop := fun xs H Q => ∃ (F : Addr → Prop) (ds : List D) (z : Opd),
  (∀ a, F a → H a ≠ none) ∧ Paired (fun x d => Rr K H F x d) xs ds ∧ f ds = some z ∧ ∀ v H1, Res K H F z v H1 → Q v H1
theorem pd1 {α β : Type} {R : α → β → Prop} {xs : List α} {d : β} (h : Paired R xs [d]) : ∃ x, xs = [x] ∧ R x d := by
  cases h with
  | cons a b => cases b; exact ⟨_, rfl, a⟩
theorem pd2 {α β : Type} {R : α → β → Prop} {xs : List α} {d e : β} (h : Paired R xs [d, e]) : ∃ x y, xs = [x, y] ∧ R x d ∧ R y e := by
  cases h with
  | cons a b =>
    obtain ⟨y, rfl, hy⟩ := pd1 b
    exact ⟨_, y, rfl, a, hy⟩
section
variable {X : Cx}
theorem bi_ok (hc : X.calm = true) (b : BI) : CallR X (biF b) (rL X.K (biD b)) := by
  intro pins s σ H xs us Q I r h
  obtain ⟨F, ds, z, dom, hp, e, q⟩ := h
  unfold biD at e
  split at e
  · cases e
    obtain ⟨x, rfl, h⟩ := pd1 hp
    obtain ⟨a, ys, rfl, h1, h2⟩ := h.list
    refine call_len_seq pins s σ H _ us Q I r ⟨a, ys, rfl, .inl h1, ?_⟩
    rw [h2.length]; exact q _ _ (.same (.int _))
  · cases e
    obtain ⟨x, rfl, h⟩ := pd1 hp
    obtain ⟨a, ys, rfl, h1, h2⟩ := h.tuple
    refine call_len_seq pins s σ H _ us Q I r ⟨a, ys, rfl, .inr h1, ?_⟩
    rw [h2.length]; exact q _ _ (.same (.int _))
  · split at e <;> cases e
    rename_i hz
    obtain ⟨x, rfl, h⟩ := pd1 hp
    obtain ⟨rfl, h1⟩ := h.str
    exact call_len_str pins s σ H _ us Q I r ⟨_, rfl, by rw [← line_eq]; exact hz, q _ _ (.same (.int _))⟩
  · cases e
    obtain ⟨x, rfl, h⟩ := pd1 hp
    rw [h.int] at r
    exact call_abs pins s σ H _ us Q I r ⟨_, rfl, q _ _ (.same (.int _))⟩
  · cases e
    obtain ⟨x, rfl, h⟩ := pd1 hp
    rw [h.int] at r
    exact call_int1 pins s σ H _ us Q I r (.inl ⟨_, rfl, q _ _ (.same (.int _))⟩)
  · cases e
    obtain ⟨x, rfl, h⟩ := pd1 hp
    rw [h.bl] at r
    exact call_int1 pins s σ H _ us Q I r (.inr ⟨_, rfl, q _ _ (.same (.int _))⟩)
  · cases e
    obtain ⟨x, y, rfl, h, h'⟩ := pd2 hp
    rw [h.int, h'.int] at r
    exact call_min2 hc pins s σ H _ us Q I r ⟨_, _, rfl, q _ _ (.same (.int _))⟩
  · cases e
    obtain ⟨x, y, rfl, h, h'⟩ := pd2 hp
    rw [h.int, h'.int] at r
    exact call_max2 hc pins s σ H _ us Q I r ⟨_, _, rfl, q _ _ (.same (.int _))⟩
  · obtain ⟨x, rfl, h⟩ := pd1 hp
    obtain ⟨ns, e1, e2⟩ := Option.bind_eq_some_iff.mp e
    obtain ⟨a, ys, rfl, h1, h2⟩ := h.list
    cases ns with
    | nil => cases e2
    | cons n ns =>
      cases e2
      rw [h2.ints e1] at h1
      refine cr_min hc pins s σ H _ us Q I r ⟨a, n :: ns, rfl, h1, by simp, fun m hm hl => ?_⟩
      have e : m = minL n ns := by
        have := hl _ (minL_mem n ns)
        have := minL_le n ns m hm
        omega
      rw [e]; exact q _ _ (.same (.int _))
  · obtain ⟨x, rfl, h⟩ := pd1 hp
    obtain ⟨ns, e1, e2⟩ := Option.bind_eq_some_iff.mp e
    obtain ⟨a, ys, rfl, h1, h2⟩ := h.list
    cases ns with
    | nil => cases e2
    | cons n ns =>
      cases e2
      rw [h2.ints e1] at h1
      refine cr_max hc pins s σ H _ us Q I r ⟨a, n :: ns, rfl, h1, by simp, fun m hm hl => ?_⟩
      have e : m = maxL n ns := by
        have := hl _ (maxL_mem n ns)
        have := maxL_ge n ns m hm
        omega
      rw [e]; exact q _ _ (.same (.int _))
  · obtain ⟨x, rfl, h⟩ := pd1 hp
    obtain ⟨ns, e1, rfl⟩ := Option.map_eq_some_iff.mp e
    obtain ⟨a, ys, rfl, h1, h2⟩ := h.list
    rw [h2.ints e1] at h1
    exact cr_sum hc pins s σ H _ us Q I r ⟨a, ns, rfl, h1, q _ _ (.same (.int _))⟩
  · obtain ⟨x, rfl, h⟩ := pd1 hp
    obtain ⟨ns, e1, e2⟩ := Option.bind_eq_some_iff.mp e
    obtain ⟨a, ys, rfl, h1, h2⟩ := h.tuple
    cases ns with
    | nil => cases e2
    | cons n ns =>
      cases e2
      rw [h2.ints e1] at h1
      refine cr_minT hc pins s σ H _ us Q I r ⟨a, n :: ns, rfl, h1, by simp, fun m hm hl => ?_⟩
      have e : m = minL n ns := by
        have := hl _ (minL_mem n ns)
        have := minL_le n ns m hm
        omega
      rw [e]; exact q _ _ (.same (.int _))
  · obtain ⟨x, rfl, h⟩ := pd1 hp
    obtain ⟨ns, e1, e2⟩ := Option.bind_eq_some_iff.mp e
    obtain ⟨a, ys, rfl, h1, h2⟩ := h.tuple
    cases ns with
    | nil => cases e2
    | cons n ns =>
      cases e2
      rw [h2.ints e1] at h1
      refine cr_maxT hc pins s σ H _ us Q I r ⟨a, n :: ns, rfl, h1, by simp, fun m hm hl => ?_⟩
      have e : m = maxL n ns := by
        have := hl _ (maxL_mem n ns)
        have := maxL_ge n ns m hm
        omega
      rw [e]; exact q _ _ (.same (.int _))
  · obtain ⟨x, rfl, h⟩ := pd1 hp
    obtain ⟨ns, e1, rfl⟩ := Option.map_eq_some_iff.mp e
    obtain ⟨a, ys, rfl, h1, h2⟩ := h.tuple
    rw [h2.ints e1] at h1
    exact cr_sumT hc pins s σ H _ us Q I r ⟨a, ns, rfl, h1, q _ _ (.same (.int _))⟩
  · split at e
    · rename_i ns e1
      cases e
      obtain ⟨x, rfl, h⟩ := pd1 hp
      obtain ⟨a, ys, rfl, h1, h2⟩ := h.list
      rw [h2.ints e1] at h1
      refine cr_sortedI pins s σ H _ us Q I r ⟨a, ns, rfl, h1, fun ns' p k1 k2 hp => ?_⟩
      rw [srt_one k2 (sortI_srt ns) (k1.trans (sortI_perm ns).symm)]
      refine q _ _ (.lst hp dom ?_)
      have : ∀ l : List Int, RpA X.K H F (l.map V.int) (l.map PyData.int) := fun l => by
        induction l with
        | nil => exact .nil
        | cons n l ih => exact .cons (.int n) ih
      exact this _
    · obtain ⟨x, rfl, h⟩ := pd1 hp
      obtain ⟨ps, e1, rfl⟩ := Option.map_eq_some_iff.mp e
      obtain ⟨a, ys, rfl, h1, h2⟩ := h.list
      obtain ⟨p1, p2⟩ := rpa_pairs I h2 e1
      refine cr_sortedPT pins s σ H _ us Q I r ⟨a, ys, kOf X.K H, rfl, h1, fun x hx => (p2 x hx).1, fun zs p hs hpm hp => ?_⟩
      have e : zs.map (kOf X.K H) = sortP ps := by
        refine srtP_one ?_ (sortP_srt ps) ?_
        · exact List.pairwise_map.mpr hs
        · refine (hpm.map _).trans ?_
          rw [p1]; exact (sortP_perm ps).symm
      refine q _ _ (.lst hp dom ?_)
      rw [← e, List.map_map]
      exact rpa_of fun y hy => (p2 y (hpm.mem_iff.mp hy)).2
  · obtain ⟨x, rfl, h⟩ := pd1 hp
    obtain ⟨ns, e1, rfl⟩ := Option.map_eq_some_iff.mp e
    obtain ⟨a, ys, rfl, h1, h2⟩ := h.tuple
    rw [h2.ints e1] at h1
    refine cr_sortedTu pins s σ H _ us Q I r ⟨a, ns, rfl, h1, fun ns' p k1 k2 hp => ?_⟩
    rw [srt_one k2 (sortI_srt ns) (k1.trans (sortI_perm ns).symm)]
    refine q _ _ (.lst hp dom ?_)
    have : ∀ l : List Int, RpA X.K H F (l.map V.int) (l.map PyData.int) := fun l => by
      induction l with
      | nil => exact .nil
      | cons n l ih => exact .cons (.int n) ih
    exact this _
  · split at e <;> cases e
    rename_i hz
    obtain ⟨x, y, rfl, h, h'⟩ := pd2 hp
    rw [h.int, h'.int] at r
    exact call_divmodMT pins s σ H _ us Q I r ⟨_, _, rfl, hz, fun p ho hp ht => q _ _ (.tup hp ht dom (.cons (.int _) (.cons (.int _) .nil)))⟩
  · cases e
    obtain ⟨x, rfl, h⟩ := pd1 hp
    obtain ⟨a, ys, rfl, h1, h2⟩ := h.list
    exact call_list_of pins s σ H _ us Q I r ⟨a, ys, rfl, .inl h1, fun l hl => q _ _ (.lst hl dom h2)⟩
  · cases e
    obtain ⟨x, rfl, h⟩ := pd1 hp
    obtain ⟨a, ys, rfl, h1, h2⟩ := h.tuple
    exact call_list_of pins s σ H _ us Q I r ⟨a, ys, rfl, .inr h1, fun l hl => q _ _ (.lst hl dom h2)⟩
  · cases e
    obtain ⟨x, rfl, h⟩ := pd1 hp
    obtain ⟨a, ys, rfl, h1, h2⟩ := h.list
    exact call_tupMT pins s σ H _ us Q I r ⟨a, ys, rfl, .inl ⟨h1, fun l ho hl ht => q _ _ (.tup hl ht dom h2)⟩⟩
  · cases e
    obtain ⟨x, rfl, h⟩ := pd1 hp
    obtain ⟨a, ys, rfl, h1, h2⟩ := h.tuple
    refine call_tupMT pins s σ H _ us Q I r ⟨a, ys, rfl, .inr ⟨h1, ?_⟩⟩
    cases h with
    | of h => exact q _ _ (.same h)
  · cases e

theorem bi_hot (b : BI) (hb : b = .len ∨ b = .abs ∨ b = .int) : CallR X (biF b) (rL X.K (biD b)) := by
  intro pins s σ H xs us Q I r h
  obtain ⟨F, ds, z, dom, hp, e, q⟩ := h
  unfold biD at e
  split at e
  · cases e
    obtain ⟨x, rfl, h⟩ := pd1 hp
    obtain ⟨a, ys, rfl, h1, h2⟩ := h.list
    refine call_len_seq pins s σ H _ us Q I r ⟨a, ys, rfl, .inl h1, ?_⟩
    rw [h2.length]; exact q _ _ (.same (.int _))
  · cases e
    obtain ⟨x, rfl, h⟩ := pd1 hp
    obtain ⟨a, ys, rfl, h1, h2⟩ := h.tuple
    refine call_len_seq pins s σ H _ us Q I r ⟨a, ys, rfl, .inr h1, ?_⟩
    rw [h2.length]; exact q _ _ (.same (.int _))
  · split at e <;> cases e
    rename_i hz
    obtain ⟨x, rfl, h⟩ := pd1 hp
    obtain ⟨rfl, h1⟩ := h.str
    exact call_len_str pins s σ H _ us Q I r ⟨_, rfl, by rw [← line_eq]; exact hz, q _ _ (.same (.int _))⟩
  · cases e
    obtain ⟨x, rfl, h⟩ := pd1 hp
    rw [h.int] at r
    exact call_abs pins s σ H _ us Q I r ⟨_, rfl, q _ _ (.same (.int _))⟩
  · cases e
    obtain ⟨x, rfl, h⟩ := pd1 hp
    rw [h.int] at r
    exact call_int1 pins s σ H _ us Q I r (.inl ⟨_, rfl, q _ _ (.same (.int _))⟩)
  · cases e
    obtain ⟨x, rfl, h⟩ := pd1 hp
    rw [h.bl] at r
    exact call_int1 pins s σ H _ us Q I r (.inr ⟨_, rfl, q _ _ (.same (.int _))⟩)
  all_goals (rcases hb with hb | hb | hb <;> cases hb)
  all_goals cases e

/-! ### isinstance, truth -/
def tyN : Ty → String
  | .int => "int" | .bool => "bool" | .str => "str" | .list => "list" | .tuple => "tuple"
def tyD : D → String
  | .none => "NoneType" | .bool _ => "bool" | .int _ => "int" | .str _ => "str" | .list _ => "list" | .tuple _ => "tuple" | .dict _ => "dict"
theorem tyx_of {K : PySem.W.Frag} {H : Hp} {F : Addr → Prop} {v : V} {d : D} (h : Rr K H F v d) : TyX K H v (.type (tyD d)) := by
  cases h with
  | of h =>
    cases h with
    | non => exact .base .non
    | bl b => exact .base (.bl b)
    | int i => exact .base (.int i)
    | str x _ => exact .base (.str x)
    | lst h _ _ =>
      rcases h with h | ⟨o, h⟩
      · exact .base (.lst h)
      · exact .base (.frz h)
    | lstK h _ =>
      obtain ⟨o, its, n, h1, h2, _⟩ := h
      exact .kList h1 h2
    | tup h _ _ =>
      rcases h.rd with h | ⟨o, h⟩
      · exact .base (.tup h)
      · exact .fTuple h
    | tupK h _ =>
      obtain ⟨o, its, n, h1, h2, _⟩ := h
      exact .kTuple h1 h2
  | lst h _ => exact .base (.lst h)
theorem isi_ok (t : Ty) (hk : ∀ d b, isD t d = some b → PySem.W.kitOne X.K (.type (tyD d)) (.type (tyN t)) = some b) :
    CallR X (.builtin "isinstance") (fun xs H Q => ∃ (F : Addr → Prop) (x : V) (d : D) (b : Bool), xs = [x, .ty (tyN t)] ∧ Rr X.K H F x d ∧ isD t d = some b ∧ Q (.bl b) H) := by
  intro pins s σ H xs us Q I r h
  obtain ⟨F, x, d, b, rfl, hx, e, q⟩ := h
  exact call_isi pins s σ H _ us Q I r ⟨x, .ty (tyN t), _, _, b, rfl, .ty _, tyx_of hx, hk d b e, q⟩
theorem truV_of {K : PySem.W.Frag} {H : Hp} {F : Addr → Prop} {v : V} {d : D} {b : Bool} (h : Rr K H F v d) (e : truD d = some b) : TruV K v H b := by
  unfold truD at e
  split at e
  · cases e; rw [h.non]; exact rfl
  · cases e; rw [h.bl]; exact rfl
  · cases e; rw [h.int]; exact rfl
  · cases e
    obtain ⟨a, ys, rfl, h1, h2⟩ := h.list
    refine .inl ⟨ys, h1, ?_⟩
    cases h2 <;> rfl
  · cases e
    obtain ⟨a, ys, rfl, h1, h2⟩ := h.tuple
    refine .inr (.inl ⟨ys, h1, ?_⟩)
    cases h2 <;> rfl
  · cases e
end
theorem kit_all (K : PySem.W.Frag) (t : Ty) (d : D) (b : Bool) (h : isD t d = some b) : PySem.W.kitOne K (.type (tyD d)) (.type (tyN t)) = some b := by
  cases t <;> cases d <;> first | (cases h; done) | (cases h; refine kit_ty ?_; simp only [tyD, tyN]; decide +kernel)
end RX

end
section
set_option Elab.async false
set_option linter.all false
set_option maxRecDepth 100000
set_option maxHeartbeats 4000000
set_option autoImplicit false
namespace RX
open PySem PySem.Spec PyProof.Rows L2

/-! ### does an IR follow a text? -/
structure Kx where
  N : List Str
  sc : Scope
  cells : List Str
  hot : Bool
  fns : List Str
  csts : List Str
  excs : List Str
  cls : List Str
  xs : Bool
  hots : List Nat
  mb : List Str
  gen : Bool
def Kx.block (k : Kx) (scope : Scope) : Kx := { k with xs := false, sc := relS scope k.sc, cells := scope.names.filterMap fun y => if y.2 = .cell then some y.1 else none }
/-- a generator expression's own block -/
def Kx.gblock (k : Kx) (scope : Scope) : Kx := { k with xs := false, hot := false, sc := scope, cells := [], gen := false }
def gscB (scope : Scope) : Bool := !scope.isCoroutine && scope.names.all (fun y => !decide (y.2 = .cell)) && decide (scope.names.lookup (".0" : Str) = some NameKind.local)
def visB (sc : Scope) (x : Str) : Bool := match sc.names.lookup x with
  | some .local => true | some .cell => true | some .free => true | _ => false
def glB (sc : Scope) (x : Str) : Bool := match sc.names.lookup x with
  | some .globalImplicit => !(x == ("__debug__" : Str)) | _ => false
def isVar (k : Kx) (i : Nat) (x : Str) : Bool := decide (k.N[i]? = some x) && visB k.sc x && !(x == ("__debug__" : Str)) && !(x == ("__classdict__" : Str))
def stoB (k : Kx) (i : Nat) (x : Str) : Bool := decide (k.N[i]? = some x) && match k.sc.names.lookup x with
  | some .local => true
  | some .cell => k.cells.contains x
  | _ => false
def notStar : PySem.Expr → Bool
  | .Starred .. => false
  | _ => true
def notSl : PySem.Expr → Bool
  | .Slice .. => false
  | _ => true
def notSet : PySem.Expr → Bool
  | .Set .. => false
  | _ => true
def constB : D → Const → Bool
  | .none, .none => true
  | .bool a, .bool b => a == b
  | .int a, .int b => a == b
  | .str a, .str b => a == b && PyData.strOk a
  | _, _ => false
/-- the names of the functions of math -/
def mbId (x : Str) : Option String := if x = "gcd" then some "math.gcd" else if x = "isqrt" then some "math.isqrt" else none
/-- built-in names that no text hides -/
def moreL : List Str := ["reversed", "dict", "enumerate", "zip", "all", "any", "set"]
def biN : BI → Str
  | .len => "len" | .abs => "abs" | .int => "int" | .min => "min" | .max => "max" | .sum => "sum" | .list => "list" | .tuple => "tuple" | .sorted => "sorted" | .divmod => "divmod"
def tyS (t : Ty) : Str := tyN t
def gkN : GK → Str
  | .all => "all" | .any => "any" | .tuple => "tuple" | .sum => "sum"
def notLst : PySem.Expr → Bool
  | .List .. => false
  | _ => true
/-- a built-in function that walks nothing -/
def hotB : BI → Bool
  | .len => true | .abs => true | .int => true
  | _ => false
/-- a form whose attribute is asked plainly -/
def notAttr : PySem.Expr → Bool
  | .Name .. => true
  | .Call _ (_ :: _) _ _ => true
  | _ => false
def opEq (a b : Operator) : Bool := decide (a = b)
def cmEq (a b : CmpOp) : Bool := decide (a = b)
mutual
def chkG (k : Kx) : G → PySem.Expr → Bool
  | .n i, .Name x _ => stoB k i x
  | .t gs, .Tuple es _ _ => !k.hot && chkGs k gs es && es.all notStar
  | _, _ => false
def chkGs (k : Kx) : Gs → List PySem.Expr → Bool
  | .nil, [] => true
  | .cons g gs, e :: es => chkG k g e && chkGs k gs es
  | _, _ => false
end
mutual
def gVars : G → List Nat
  | .n i => [i]
  | .t gs => gsVars gs
def gsVars : Gs → List Nat
  | .nil => []
  | .cons g gs => gVars g ++ gsVars gs
end
mutual
def chkE : E → Kx → PySem.Expr → Bool
  | .v i, k, x => match x with
    | .Name y _ => isVar k i y
    | _ => false
  | .gi j, k, x => match x with
    | .Name y _ => decide (k.csts[j]? = some y) && glB k.sc y
    | _ => false
  | .k d, _, x => match x with
    | .Constant c _ _ => constB d c
    | _ => false
  | .bin o a b, k, x => match x with
    | .BinOp l p r _ => opEq o p && chkE a k l && chkE b k r
    | _ => false
  | .neg a, k, x => match x with
    | .UnaryOp .USub y _ => chkE a k y
    | _ => false
  | .cmp o a b, k, x => match x with
    | .Compare l [p] [r] _ => cmEq o p && chkE a k l && chkE b k r && notSet r
    | _ => false
  | .ch o o' a b d, k, x => match x with
    | .Compare l [p, p'] [r, t] _ => cmEq o p && cmEq o' p' && chkE a k l && chkE b k r && chkE d k t && notSet t
    | _ => false
  | .ch3 o o' o2 a b d e, k, x => match x with
    | .Compare l [p, p', p2] [r, t, y] _ => cmEq o p && cmEq o' p' && cmEq o2 p2 && chkE a k l && chkE b k r && chkE d k t && chkE e k y && notSet y
    | _ => false
  | .no a, k, x => match x with
    | .UnaryOp .Not y _ => chkE a k y
    | _ => false
  | .an a b, k, x => match x with
    | .BoolOp .And [y, z] _ => chkE a k y && chkE b k z
    | .BoolOp .And (y :: z :: w :: r) pos => chkE a k y && chkE b k (.BoolOp .And (z :: w :: r) pos)
    | _ => false
  | .orr a b, k, x => match x with
    | .BoolOp .Or [y, z] _ => chkE a k y && chkE b k z
    | .BoolOp .Or (y :: z :: w :: r) pos => chkE a k y && chkE b k (.BoolOp .Or (z :: w :: r) pos)
    | _ => false
  | .ife c a b, k, x => match x with
    | .IfExp t y z _ => chkE c k t && chkE a k y && chkE b k z
    | _ => false
  | .tup es, k, x => match x with
    | .Tuple xs _ _ => chkEs es k xs
    | _ => false
  | .lst es, k, x => match x with
    | .List xs _ => chkEs es k xs
    | _ => false
  | .ix a i, k, x => match x with
    | .Subscript y z _ => chkE a k y && chkE i k z && notSl z
    | _ => false
  | .sl a lo hi, k, x => match x with
    | .Subscript y (.Slice l h none _) _ => chkE a k y && chkP lo k l && chkP hi k h
    | _ => false
  | .call f as, k, x => match x with
    | .Call (.Name nm _) (y :: ys) [] _ => ((!k.hot && !k.hots.contains f) || (k.xs && k.hots.contains f)) && decide (k.fns[f]? = some nm) && glB k.sc nm && chkAs as k (y :: ys)
    | _ => false
  | .b1 b a, k, x => match x with
    | .Call (.Name nm _) [y] [] _ => (!k.hot || hotB b) && decide (nm = biN b) && glB k.sc (biN b) && chkE a k y && notStar y
    | _ => false
  | .b2 b a d, k, x => match x with
    | .Call (.Name nm _) [y, z] [] _ => !k.hot && decide (nm = biN b) && glB k.sc (biN b) && chkE a k y && chkE d k z && notStar y && notStar z
    | _ => false
  | .isi a t, k, x => match x with
    | .Call (.Name nm _) [y, .Name z _] [] _ => decide (nm = "isinstance") && glB k.sc "isinstance" && decide (z = tyS t) && glB k.sc (tyS t) && chkE a k y && notStar y
    | _ => false
  | .isx i cl, k, x => match x with
    | .Call (.Name nm _) [.Name y _, .Name z _] [] _ => k.xs && decide (nm = "isinstance") && glB k.sc "isinstance" && isVar k i y && decide (z = cl) && glB k.sc cl
    | _ => false
  | .lc own g it cs e, k, x => match x with
    | .ListComp elt [⟨tg, iter, ifs, asy⟩] scope _ =>
      decide (asy = 0) && !k.hot && blkC k.N k.sc scope (own.map fun i => ((k.N[i]?).getD Str.empty, i)) && chkG (k.block scope) g tg && (gVars g).all (fun i => own.contains i) && notSet iter && chkIt it k tg iter &&
        chkTs cs (k.block scope) ifs && chkE e (k.block scope) elt
    | _ => false
  | .lch own g a cs e, k, x => match x with
    | .ListComp elt [⟨tg, iter, ifs, asy⟩] scope _ =>
      decide (asy = 0) && k.xs && blkC k.N k.sc scope (own.map fun i => ((k.N[i]?).getD Str.empty, i)) && chkG (k.block scope) g tg && (gVars g).all (fun i => own.contains i) && notSet iter && chkE a k iter &&
        chkTs cs (k.block scope) ifs && chkE e (k.block scope) elt
    | _ => false
  | .lrev a, k, x => match x with
    | .Call (.Name nm _) [.Call (.Name nm2 _) [y] [] _] [] _ => !k.hot && decide (nm = "list") && glB k.sc "list" && decide (nm2 = "reversed") && glB k.sc "reversed" && chkE a k y && notStar y
    | _ => false
  | .rv a, k, x => match x with
    | .Subscript y (.Slice none none (some (.UnaryOp .USub (.Constant (.int i) _ _) _)) _) _ => decide (i = 1) && chkE a k y
    | _ => false
  | .lr1 a, k, x => match x with
    | .Call (.Name nm _) [.Call (.Name nm2 _) [y] [] _] [] _ => !k.hot && decide (nm = "list") && glB k.sc "list" && decide (nm2 = "range") && glB k.sc "range" && chkE a k y && notStar y
    | _ => false
  | .lr2 a b, k, x => match x with
    | .Call (.Name nm _) [.Call (.Name nm2 _) [y, z] [] _] [] _ => !k.hot && decide (nm = "list") && glB k.sc "list" && decide (nm2 = "range") && glB k.sc "range" && chkE a k y && chkE b k z && notStar y && notStar z
    | _ => false
  | .lr3 a b d, k, x => match x with
    | .Call (.Name nm _) [.Call (.Name nm2 _) [y, z, w] [] _] [] _ => !k.hot && decide (nm = "list") && glB k.sc "list" && decide (nm2 = "range") && glB k.sc "range" && chkE a k y && chkE b k z && chkE d k w && notStar y && notStar z && notStar w
    | _ => false
  | .gcd a b, k, x => match x with
    | .Call (.Name nm _) [y, z] [] _ => decide (nm = "gcd") && k.mb.contains "gcd" && glB k.sc "gcd" && chkE a k y && chkE b k z && notStar y && notStar z
    | _ => false
  | .gq q own g it cs e, k, x => match x with
    | .Call (.Name nm _) [.GeneratorExp elt [⟨tg, iter, ifs, asy⟩] scope _] [] _ =>
      decide (asy = 0) && !k.hot && k.gen && decide (nm = gkN q) && glB k.sc (gkN q) && gscB scope && blkC k.N k.sc scope (own.map fun i => ((k.N[i]?).getD Str.empty, i)) && chkG (k.gblock scope) g tg && (gVars g).all (fun i => own.contains i) &&
        notSet iter && notLst iter && chkIt it k tg iter && chkTs cs (k.gblock scope) ifs && chkE e (k.gblock scope) elt
    | _ => false
  | .isq a, k, x => match x with
    | .Call (.Name nm _) [y] [] _ => decide (nm = "isqrt") && k.mb.contains "isqrt" && glB k.sc "isqrt" && chkE a k y && notStar y
    | _ => false
  | .cntT a b, k, x => match x with
    | .Call (.Attribute y m apos) [z] [] cpos => decide (m = "count") && notAttr y && chkE a k y && chkE b k z && notStar z && (apos.endLine == cpos.line) && smode
    | _ => false
  | .idxT a b, k, x => match x with
    | .Call (.Attribute y m apos) [z] [] cpos => decide (m = "index") && notAttr y && chkE a k y && chkE b k z && notStar z && (apos.endLine == cpos.line) && smode
    | _ => false
  | .cnt a b, k, x => match x with
    | .Call (.Attribute y m apos) [z] [] cpos => decide (m = "count") && notAttr y && chkE a k y && chkE b k z && notStar z && (apos.endLine == cpos.line)
    | _ => false
  | .ldc a, k, x => match x with
    | .Call (.Name nm _) [.Call (.Name nm2 _) [y] [] _] [] _ => !k.hot && decide (nm = "len") && glB k.sc "len" && decide (nm2 = "dict") && glB k.sc "dict" && chkE a k y && notStar y
    | _ => false
  | .idx a b, k, x => match x with
    | .Call (.Attribute y m apos) [z] [] cpos => decide (m = "index") && notAttr y && chkE a k y && chkE b k z && notStar z && (apos.endLine == cpos.line)
    | _ => false
  | .app i a, k, x => match x with
    | .Call (.Attribute (.Name y _) m apos) [z] [] cpos => isVar k i y && decide (m = "append") && chkE a k z && notStar z && (apos.endLine == cpos.line)
    | _ => false
  | .pop i, k, x => match x with
    | .Call (.Attribute (.Name y _) m apos) [] [] cpos => isVar k i y && decide (m = "pop") && (apos.endLine == cpos.line)
    | _ => false
def chkP : P → Kx → Option PySem.Expr → Bool
  | .no, _, x => x.isNone
  | .so e, k, x => match x with
    | some x => chkE e k x
    | none => false
def chkEs : Es → Kx → List PySem.Expr → Bool
  | .nil, _, xs => xs.isEmpty
  | .cons e es, k, xs => match xs with
    | x :: xs => chkE e k x && notStar x && chkEs es k xs
    | [] => false
/-- a clause's tests: none or one -/
def chkTs : Es → Kx → List PySem.Expr → Bool
  | .nil, _, xs => xs.isEmpty
  | .cons e es, k, xs => match xs, es with
    | [x], .nil => chkE e k x
    | _, _ => false
def chkAs : As → Kx → List PySem.Expr → Bool
  | .nil, _, xs => xs.isEmpty
  | .ex e es, k, xs => match xs with
    | x :: xs => chkE e k x && notStar x && chkAs es k xs
    | [] => false
  | .bo i es, k, xs => match xs with
    | .Name y _ :: xs => isVar k i y && chkAs es k xs
    | _ => false
  | .xv i es, k, xs => match xs with
    | .Name y _ :: xs => isVar k i y && chkAs es k xs
    | _ => false
def chkIt : It → Kx → PySem.Expr → PySem.Expr → Bool
  | .r1 a, k, _, x => match x with
    | .Call (.Name nm _) [y] [] _ => decide (nm = "range") && glB k.sc "range" && chkE a k y && notStar y
    | _ => false
  | .r2 a b, k, _, x => match x with
    | .Call (.Name nm _) [y, z] [] _ => decide (nm = "range") && glB k.sc "range" && chkE a k y && chkE b k z && notStar y && notStar z
    | _ => false
  | .rc a b c, k, _, x => match x with
    | .Call (.Name nm _) [y, z, w] [] _ => decide (nm = "range") && glB k.sc "range" && chkE a k y && chkE b k z && chkE c k w && notStar y && notStar z && notStar w
    | _ => false
  | .seq e, k, _, x => chkE e k x
  | .enu e, k, tg, x => match tg, x with
    | .Tuple _ _ _, .Call (.Name nm _) [y] [] _ => decide (nm = "enumerate") && glB k.sc "enumerate" && chkE e k y && notStar y
    | _, _ => false
  | .zip a b, k, tg, x => match tg, x with
    | .Tuple _ _ _, .Call (.Name nm _) [y, z] [] _ => decide (nm = "zip") && glB k.sc "zip" && chkE a k y && chkE b k z && notStar y && notStar z
    | _, _ => false
  | .rev e, k, _, x => match x with
    | .Call (.Name nm _) [y] [] _ => decide (nm = "reversed") && glB k.sc "reversed" && chkE e k y && notStar y
    | _ => false
end

/-- which names a tuple's stores swap -/
def swN (sc : Scope) (ts vs : List PySem.Expr) : Option (List Str) :=
  if !(ts.length == 2 || ts.length == 3) || vs.length != ts.length then none
  else if vs.any (fun | .Starred .. => true | _ => false) then none
  else
    let line := (ts.head?.map (·.pos.line)).getD 0
    let names := ts.filterMap fun
      | .Name id pos => if sc.names.lookup id == some .local && pos.line == line then some id else none
      | _ => none
    if names.length != ts.length || names.eraseDups.length != names.length then none
    else if vs.all (foldedForSure 8) then none
    else some names
def isLc : PySem.Expr → Bool
  | .ListComp .. => true | .SetComp .. => true | .DictComp .. => true
  | _ => false
def notLch : E → Bool
  | .lch .. => false
  | _ => true
def isL1 : PySem.Expr → Bool
  | .ListComp .. => true
  | _ => false
/-- a comprehension that is stored at once -/
def swB (k : Kx) (x : Str) (px : Pos) (e : PySem.Expr) : Bool := match e with
  | .ListComp _ _ s _ => k.sc.names.lookup x == some .local && px.line == e.pos.line && !(s.names.any fun (n, k) => n == x && (k == .local || k == .cell))
  | _ => false
def isTup : PySem.Expr → Bool
  | .Tuple .. => true | _ => false
def isOrr : Operator → Bool
  | .Add => true | .Sub => true | .Mult => true | .FloorDiv => true | .Mod => true | .LShift => true | .RShift => true | .BitAnd => true | .BitOr => true | .BitXor => true
  | _ => false
def gNames : Gs → Option (List Nat)
  | .nil => some []
  | .cons (.n i) r => (gNames r).map (i :: ·)
  | _ => none
def gsOf : List (Nat × Bool) → Gs
  | [] => .nil
  | (i, _) :: r => .cons (.n i) (gsOf r)
/-- the stores that a tuple of names swaps -/
def swOk (k : Kx) (gs : Gs) (ts vs : List PySem.Expr) (names : List Str) : Bool := match gNames gs, ts, vs with
  | some [i, j], [.Name x _, .Name y _], [_, _] => decide (i ≠ j) && decide (names = [x, y]) && k.sc.names.lookup x == some .local && k.sc.names.lookup y == some .local
  | some [i, j, l], [.Name x _, .Name y _, .Name z _], [_, _, _] => decide (i ≠ j) && decide (i ≠ l) && decide (j ≠ l) && decide (names = [x, y, z]) && k.sc.names.lookup x == some .local && k.sc.names.lookup y == some .local && k.sc.names.lookup z == some .local
  | _, _, _ => false
mutual
def chkS : S → Kx → Stmt → Bool
  | .asg i e, k, st => match st with
    | .Assign [.Name x px] v _ => stoB k i x && chkE e k v && (!isLc v || isL1 v) && notLch e
    | _ => false
  | .asgO i e, k, st => match st with
    | .Assign [.Name x px] v _ => stoB k i x && chkE e k v && (!isLc v || isL1 v) && notLch e
    | _ => false
  | .asgG g e, k, st => match st with
    | .Assign [.Tuple ts kt pt] v _ => chkG k g (.Tuple ts kt pt) && chkE e k v && !isTup v
    | _ => false
  | .par gs es, k, st => match st with
    | .Assign [.Tuple ts _ _] (.Tuple vs _ _) _ => !k.hot && chkGs k gs ts && ts.all notStar && chkEs es k vs && (vs.all (foldedForSure 8) || !vs.all (constantsAlone 8)) && decide (vs.length ≤ 100) &&
        (match swN k.sc ts vs with
        | none => true
        | some names => swOk k gs ts vs names)
    | _ => false
  | .parO tg es, k, st => match st with
    | .Assign [.Tuple ts _ _] (.Tuple vs _ _) _ => !k.hot && chkGs k (gsOf tg) ts && ts.all notStar && chkEs es k vs && (vs.all (foldedForSure 8) || !vs.all (constantsAlone 8)) && decide (vs.length ≤ 100) &&
        (match swN k.sc ts vs with
        | none => true
        | some names => swOk k (gsOf tg) ts vs names)
    | _ => false
  | .st a i e, k, st => match st with
    | .Assign [.Subscript (.Name x _) y _] v _ => isVar k a x && chkE i k y && notSl y && chkE e k v
    | _ => false
  | .aug i o e, k, st => match st with
    | .AugAssign (.Name x _) p v _ => stoB k i x && opEq o p && isOrr o && chkE e k v
    | _ => false
  | .ex e, k, st => match st with
    | .Expr v _ => chkE e k v && !isLc v
    | _ => false
  | .ret e, k, st => match st with
    | .Return (some v) _ => chkE e k v
    | _ => false
  | .retO e, k, st => match st with
    | .Return (some v) _ => chkE e k v
    | _ => false
  | .retN, _, st => match st with
    | .Return none _ => true
    | _ => false
  | .ifs t a b, k, st => match st with
    | .If x y z _ => chkE t k x && chkSs a k y && chkSs b k z
    | _ => false
  | .forr g it b, k, st => match st with
    | .For tg x y [] _ => !k.hot && chkG k g tg && chkIt it k tg x && notSet x && chkSs b k y
    | _ => false
  | .whl t b, k, st => match st with
    | .While x y [] _ => chkE t k x && chkSs b k y
    | _ => false
  | .brk, _, st => match st with
    | .Break _ => true
    | _ => false
  | .cnt, _, st => match st with
    | .Continue _ => true
    | _ => false
  | .pass, _, st => match st with
    | .Pass _ => true
    | _ => false
  | .rais x, k, st => match st with
    | .Raise (some (.Call (.Name y _) [.Constant (.str _) _ _] [] _)) none _ => !k.hot && decide (y = x) && glB k.sc x && k.excs.contains x
    | _ => false
  | .tri b x i h, k, st => match st with
    | .Try y [.ExceptHandler (some (.Name z _)) (some n) (w :: ws) _] [] [] _ => !k.hot && decide (z = x) && glB k.sc x && k.cls.contains x && decide (k.N[i]? = some n) && k.sc.names.lookup n == some .local && chkSs b k y && chkSs h { k with hot := true, xs := true } (w :: ws)
    | _ => false
def chkSs : Ss → Kx → List Stmt → Bool
  | .nil, _, sts => sts.isEmpty
  | .cons s r, k, sts => match sts with
    | st :: sts => chkS s k st && chkSs r k sts
    | [] => false
end
end RX

end
section
set_option Elab.async false
set_option linter.all false
set_option maxRecDepth 100000
set_option maxHeartbeats 4000000
set_option autoImplicit false
namespace RX
open PySem PySem.Spec PyProof.Rows L2

/-! ### from the evaluator to the readings -/
abbrev Rel (α β : Type) := Env → L2.St → Hp → (Addr → Prop) → Hp → α → β → Prop
/-- what an outcome asks -/
def Ct (K : PySem.W.Frag) (mg : Str → Option Value) (xr : XR) (W : WX) {α β : Type} (rel : Rel α β) (ρ : Env) (σ : L2.St) (H : Hp) (F : Addr → Prop) (r : Option (Out α)) (Q : β → Hp → Prop) : Prop :=
  match r with
  | none => False
  | some (.ok a ρ') => ∀ b H' F', SR K xr ρ' σ H' F' → Stp ρ σ H F ρ' σ H' F' → rel ρ' σ H' F' H a b → Q b H'
  | some (.ex x ρ') => ∀ H' F' C, SR K xr ρ' σ H' F' → Stp ρ σ H F ρ' σ H' F' → mg x = some (.ref C) → W (.ref C) none σ H'
def relO (K : PySem.W.Frag) : Rel Opd V := fun ρ σ H F H0 o v => RpO K ρ σ H F H0 o v
def relB : Rel Bool Bool := fun _ _ _ _ _ a b => a = b
def relP : Rel (Option Int) (Option Int) := fun _ _ _ _ _ a b => a = b
def relL (K : PySem.W.Frag) : Rel (List D) (List V) := fun _ _ H F _ ds vs => RpA K H F vs ds
/-- while what is shared stands, it yields the items -/
def IsWalk (K : PySem.W.Frag) (J : L2.It) (items : List D) (H1 : Hp) (F1 : Addr → Prop) : Prop :=
  Walk J items.length (fun H => ∀ a, F1 a → H a = H1 a) (fun i H x H' => (∀ a, H a ≠ none → H' a = H a) ∧ ∀ Fc : Addr → Prop, (∀ a, F1 a → Fc a) → (∀ a, Fc a → H a ≠ none) →
    ∃ F', (∀ a, Fc a → F' a) ∧ (∀ a, F' a → Fc a ∨ H a = none) ∧ (∀ a, F' a → H' a ≠ none) ∧ (∀ a, F' a → H a = none → NT H' a) ∧ ∃ d, items[i]? = some d ∧ Rp K H' F' x d)
def relI (K : PySem.W.Frag) : Rel (List D) L2.It := fun _ _ H F _ ds J => IsWalk K J ds H F
section
variable {K : PySem.W.Frag} {mg : Str → Option Value} {xr : XR} {W : WX} {ρ ρ1 : Env} {σ : L2.St} {H H1 : Hp} {F F1 : Addr → Prop}
class Bases {α β : Type} (rel : Rel α β) : Prop where
  base : ∀ (ρ : Env) (σ : L2.St) (H : Hp) (F : Addr → Prop) (H0 H00 : Hp) (a : α) (b : β), (∀ x, H00 x ≠ none → H0 x ≠ none) → rel ρ σ H F H0 a b → rel ρ σ H F H00 a b
instance : Bases (relO K) := ⟨fun _ _ _ _ _ _ _ _ h r => RpO.h0 r h⟩
instance : Bases relB := ⟨fun _ _ _ _ _ _ _ _ _ r => r⟩
instance : Bases relP := ⟨fun _ _ _ _ _ _ _ _ _ r => r⟩
instance : Bases (relL K) := ⟨fun _ _ _ _ _ _ _ _ _ r => r⟩
instance : Bases (relI K) := ⟨fun _ _ _ _ _ _ _ _ _ r => r⟩
theorem Ct.rebase {α β : Type} {rel : Rel α β} [Bases rel] {r : Option (Out α)} {Q : β → Hp → Prop} (c : Ct K mg xr W rel ρ σ H F r Q) (st : Stp ρ σ H F ρ1 σ H1 F1) : Ct K mg xr W rel ρ1 σ H1 F1 r Q := by
  unfold Ct at *
  split
  · exact c
  · exact fun b H' F' s t q => c b H' F' s (st.trans t) (Bases.base _ _ _ _ _ _ _ _ st.stay q)
  · exact fun H' F' C s t e => c H' F' C s (st.trans t) e
/-- one after the other -/
theorem Ct.seq {α β γ δ : Type} {relA : Rel α β} {rel : Rel γ δ} [Bases rel] {r : Option (Out α)} {f : α → Env → Option (Out γ)} {Q : δ → Hp → Prop} {G : β → Hp → Prop} (c : Ct K mg xr W rel ρ σ H F (bnd r f) Q)
    (k : ∀ a ρ1, r = some (.ok a ρ1) → ∀ b H1 F1, SR K xr ρ1 σ H1 F1 → Stp ρ σ H F ρ1 σ H1 F1 → relA ρ1 σ H1 F1 H a b → Ct K mg xr W rel ρ1 σ H1 F1 (f a ρ1) Q → G b H1) : Ct K mg xr W relA ρ σ H F r G := by
  cases r with
  | none => exact c
  | some o =>
    cases o with
    | ok a ρ1 => exact fun b H1 F1 s t q => k a ρ1 rfl b H1 F1 s t q (Ct.rebase (r := f a ρ1) c t)
    | ex x ρ1 => exact c
theorem Ct.seqF {γ δ : Type} {rel : Rel γ δ} [Bases rel] {r : Option (Out Opd)} {f : D → Env → Option (Out γ)} {Q : δ → Hp → Prop} {G : V → Hp → Prop} (c : Ct K mg xr W rel ρ σ H F (bnd r fun o ρ1 => bnd (frz o ρ1) f) Q)
    (k : ∀ d v ρ1 H1 F1, SR K xr ρ1 σ H1 F1 → Stp ρ σ H F ρ1 σ H1 F1 → Rp K H1 F1 v d → Ct K mg xr W rel ρ1 σ H1 F1 (f d ρ1) Q → G v H1) : Ct K mg xr W (relO K) ρ σ H F r G := by
  cases r with
  | none => exact c
  | some o =>
    cases o with
    | ex x ρ1 => exact c
    | ok o ρ1 =>
      intro v H1 F1 s t q
      have c' : Ct K mg xr W rel ρ σ H F (bnd (frz o ρ1) f) Q := c
      unfold frz at c'
      cases e : o.fz ρ1 with
      | none => rw [e] at c'; exact c'.elim
      | some p =>
        obtain ⟨d, ρ2⟩ := p
        rw [e] at c'
        obtain ⟨F2, s2, t2, r2, _⟩ := RpO.fz q s t e
        exact k d v ρ2 H1 F2 s2 t2 r2 (Ct.rebase (r := f d ρ2) c' t2)
theorem Ct.res {o : Opd} {Q : VK} (c : Ct K mg xr W (relO K) ρ σ H F (some (.ok o ρ)) Q) (s : SR K xr ρ σ H F) {v : V} {H1 : Hp} (x : Res K H F o v H1) : Q v H1 := by
  obtain ⟨F1, s1, t1, q⟩ := x.use (H0 := H) s fun _ h => h
  exact c v H1 F1 s1 t1 q
theorem Ct.val {d : D} {v : V} {Q : VK} (c : Ct K mg xr W (relO K) ρ σ H F (some (.ok (.val d) ρ)) Q) (s : SR K xr ρ σ H F) (r : Rp K H F v d) : Q v H := c v H F s .refl r
theorem Ct.not {α β : Type} {rel : Rel α β} {Q : β → Hp → Prop} (c : Ct K mg xr W rel ρ σ H F none Q) : False := c
end
/-- the readings -/
def tM (K : PySem.W.Frag) (mg : Str → Option Value) (xr : XR) (W : WX) {α β : Type} (rel : Rel α β) (m : Env → Option (Out α)) (σ : L2.St) (H : Hp) (Q : β → Hp → Prop) : Prop :=
  ∃ ρ F, SR K xr ρ σ H F ∧ Ct K mg xr W rel ρ σ H F (m ρ) Q
abbrev WF : WX := fun _ _ _ _ => False
theorem _root_.L2.PE.wk {X : Cx} {e : PySem.Expr} {t t' : TE} (h : PE X e t) (w : ∀ σ H Q, t' σ H Q → t σ H Q) : PE X e t' := ⟨fun pins s σ H Q I q => h.run pins s σ H Q I (w σ H Q q)⟩
theorem _root_.L2.PT.wk {X : Cx} {e : PySem.Expr} {t t' : TT} (h : PT X e t) (w : ∀ σ H Q, t' σ H Q → t σ H Q) : PT X e t' := ⟨fun pins s σ H Q I q => h.run pins s σ H Q I (w σ H Q q)⟩
theorem _root_.L2.PW.wk {X : Cx} {e : PySem.Expr} {t t' : TT} (h : PW X e t) (w : ∀ σ H Q, t' σ H Q → t σ H Q) : PW X e t' := ⟨fun wh pins s σ H Q I q => h.run wh pins s σ H Q I (w σ H Q q)⟩
theorem _root_.L2.PA.wk {X : Cx} {es : List PySem.Expr} {t t' : TA} (h : PA X es t) (w : ∀ σ H Q, t' σ H Q → t σ H Q) : PA X es t' := ⟨fun pos pins s σ H Q I q => h.run pos pins s σ H Q I (w σ H Q q)⟩
theorem _root_.L2.PI.wk {X : Cx} {tg e : PySem.Expr} {t t' : TI} (h : PI X tg e t) (w : ∀ σ H Q, t' σ H Q → t σ H Q) : PI X tg e t' := ⟨fun pins s σ H Q I q => h.run pins s σ H Q I (w σ H Q q)⟩
theorem _root_.L2.PG.wk {X : Cx} {tg : PySem.Expr} {t t' : TG} (h : PG X tg t) (w : ∀ v σ H Q, t' v σ H Q → t v σ H Q) : PG X tg t' := ⟨fun pins s σ H v u Q I r q => h.run pins s σ H v u Q I r (w v σ H Q q)⟩
theorem _root_.L2.PS.wk {X : Cx} {st : Stmt} {t t' : TS} (h : PS X st t) (w : ∀ D σ H, t' D σ H → t D σ H) : PS X st t' := ⟨fun pins s σ H D I q => h.run pins s σ H D I (w D σ H q)⟩
theorem _root_.L2.PSs.wk {X : Cx} {st : List Stmt} {t t' : TS} (h : PSs X st t) (w : ∀ D σ H, t' D σ H → t D σ H) : PSs X st t' := ⟨fun pins s σ H D I q => h.run pins s σ H D I (w D σ H q)⟩
theorem _root_.L2.PTs.wk {X : Cx} {st : List PySem.Expr} {t t' : TT} (h : PTs X st t) (w : ∀ σ H Q, t' σ H Q → t σ H Q) : PTs X st t' := ⟨fun pins s σ H Q I q => h.run pins s σ H Q I (w σ H Q q)⟩
theorem _root_.L2.PO.wk {X : Cx} {e : Option PySem.Expr} {t t' : TO} (h : PO X e t) (w : ∀ σ H Q, t' σ H Q → t σ H Q) : PO X e t' := ⟨fun pins s σ H Q I q => h.run pins s σ H Q I (w σ H Q q)⟩

/-! ### calls of the text's own defs -/
inductive ArR (K : PySem.W.Frag) (xr : XR) (H : Hp) (F : Addr → Prop) : List V → List CArg → Prop
  | nil : ArR K xr H F [] []
  | ax {a : Addr} {c : Str} {vs : List V} {as : List CArg} : xr a c → ArR K xr H F vs as → ArR K xr H F (.ref a :: vs) (.ax c :: as)
  | av {v : V} {d : D} {vs : List V} {as : List CArg} : Rp K H F v d → ArR K xr H F vs as → ArR K xr H F (v :: vs) (.av d :: as)
  | al {a : Addr} {ws : List V} {xs : List D} {vs : List V} {as : List CArg} : H a = some (.lst ws) → ¬ F a → RpA K H F ws xs → ArR K xr H F vs as → ArR K xr H F (.ref a :: vs) (.al xs :: as)
/-- the lent lists' addresses -/
def lent : List V → List CArg → List Addr
  | .ref a :: vs, .al _ :: as => a :: lent vs as
  | _ :: vs, _ :: as => lent vs as
  | _, _ => []
def OutR (K : PySem.W.Frag) (H : Hp) (F : Addr → Prop) : List Addr → List (List D) → Prop := Paired fun a xs => ∃ ws, H a = some (.lst ws) ∧ ¬ F a ∧ RpA K H F ws xs
/-- what a call leaves: L the lent lists -/
structure Lft (L : List Addr) (H : Hp) (F : Addr → Prop) (H' : Hp) (F' : Addr → Prop) : Prop where
  inc : ∀ a, F a → F' a
  keep : ∀ a, H a ≠ none → NT H a → a ∉ L → H' a = H a
  tab : ∀ a, GxR.TabG H a → GxR.TabG H' a
  stay : ∀ a, H a ≠ none → H' a ≠ none
  new : ∀ a, F' a → F a ∨ H a = none
  dom : ∀ a, F' a → H' a ≠ none
  ntb : ∀ a, F' a → NT H' a
def spF (K : PySem.W.Frag) (mg : Str → Option Value) (xr : XR) (g : List CArg → Option FOut) : Sp := fun vs H Q E => ∃ (F : Addr → Prop) (as : List CArg), (∀ a, F a → H a ≠ none) ∧ (∀ a, F a → NT H a) ∧ (∀ a ∈ xr.tb, GxR.TabG H a) ∧ ArR K xr H F vs as ∧ (lent vs as).Nodup ∧
  match g as with
  | none => False
  | some (.ok d os) => ∀ v H' F', Lft (lent vs as) H F H' F' → OutR K H' F' (lent vs as) os → Rp K H' F' v d → Q v H'
  | some (.ow xs os) => ∀ a ws H' F', Lft (lent vs as) H F H' F' → OutR K H' F' (lent vs as) os → H a = none → H' a = some (.lst ws) → ¬ F' a → RpA K H' F' ws xs → Q (.ref a) H'
  | some (.ex x os) => ∀ H' F' C, Lft (lent vs as) H F H' F' → OutR K H' F' (lent vs as) os → mg x = some (.ref C) → E (.ref C) none H'
/-- the exception p is an instance of the class that y names -/
def xrOf (T : List Addr) (mg : Str → Option Value) (p : Addr × Obj) : XR := ⟨fun b y => b = p.1 ∧ ∃ C, L2N.Zn (.ref C) none p.2 ∧ (∃ vs, p.2.data = .fields vs) ∧ mg y = some (.ref C), T⟩
def xr0 (T : List Addr) : XR := ⟨fun _ _ => False, T⟩
def lev : Nat := 24
/-- the class that a name stands for -/
def ClsAt (X : Cx) (x : Str) (cv : Value) : Prop := ∃ v, ClsV v cv ∧ (X.mg x = some cv ∨ (X.mg x = none ∧ bootBuiltins x = some cv ∧ x ≠ "__name__"))
/-- what must be known where an IR is to tell what a text does -/
structure Ok (u : Sub) (gc : List D) (c : CF) (k : Kx) (n : Nat) (X : Cx) (xr : XR) (W : WX) : Prop where
  N : X.N = k.N
  nd : k.N.Nodup
  sc : X.env.scope = k.sc
  kind : k.sc.kind = .function
  calm : k.hot = false → X.calm = true
  room : k.hot = false → Room (2 * n + lev + (if k.gen then 1 else 0)) X.A
  units : X.A.units + 65 < cLine
  tk : L2N.Takes X W
  own : PassesOwn (model X.prog X.w) X.A X.env X.xe
  fn : ∀ x ∈ k.cells, X.fn x = true
  blt : ∀ b, X.mg (biN b) = none
  rev : ∀ x ∈ moreL, X.mg x = none
  gen : k.gen = true → ∃ c P, GxR.TabB X.base X.mg c P ∧ X.env.code = .ref c ∧ P ∈ xr.tb
  mb : ∀ x id, x ∈ k.mb → mbId x = some id → X.mg x = some (.builtin id)
  blts : X.mg "range" = none ∧ X.mg "isinstance" = none ∧ ∀ t, X.mg (tyS t) = none
  noex : k.hot = false → ∀ a y, ¬ xr a y
  xsh : k.xs = true → k.hot = true
  hotp : k.xs = true → ∃ p, HotP X p ∧ ∀ a y, xr a y → xrOf xr.tb X.mg p a y
  roomH : k.hot = true → L2H.RoomH (2 * n + lev) X.A
  sub : ∀ y x b, u y x = some b → ∃ C cv, X.mg y = some (.ref C) ∧ ClsAt X x cv ∧ PySem.W.exmOne X.K (.ref C) cv = some b ∧ PySem.W.kitOne X.K (.ref C) cv = some b ∧ ExcC X.K C
  cls : ∀ x ∈ k.cls, ∃ cv, ClsAt X x cv
  exc : ∀ x ∈ k.excs, ∃ C, X.mg x = some (.ref C) ∧ PySem.W.excIn X.K C [.type "ValueError", .type "Exception", .type "BaseException", .type "object"] "ValueError.__new__" = true ∧ PySem.W.keepIn X.K (.ref C) = true ∧
    PySem.W.subIn X.K (.ref C) (.type "BaseException") = some true ∧ PySem.W.typeIn X.K (.ref C) = some (.type "type")
  cst : ∀ (j : Nat) (x : Str) (d : D), k.csts[j]? = some x → gc[j]? = some d → ∃ v u, X.mg x = some u ∧ RelV v u ∧ ∀ H F, Rp X.K H F v d
  fns : ∀ (f : Nat) (x : Str), k.fns[f]? = some x → k.hots.contains f = false → ∃ a fd ps, X.mg x = some (.ref a) ∧ PySem.W.keepIn X.K (.ref a) = true ∧ Binds X.K fd ps [] ∧
    FnOk X.prog X.w X.K X.mg X.base (L2N.CX X.prog X.w) (2 * n + lev) a fd ps (spF X.K X.mg (xr0 xr.tb) (c f))
  hfn : ∀ (f : Nat) (x : Str), k.fns[f]? = some x → k.hots.contains f = true → ∃ a fd ps, X.mg x = some (.ref a) ∧ PySem.W.keepIn X.K (.ref a) = true ∧ Binds X.K fd ps [] ∧
    FnE X.prog X.w X.K X.mg X.base (L2N.CX X.prog X.w) (2 * n + lev) a fd ps (fun p => spF X.K X.mg (xrOf xr.tb X.mg p) (c f))
end RX

end
section
set_option Elab.async false
set_option linter.all false
set_option maxRecDepth 100000
set_option maxHeartbeats 4000000
set_option autoImplicit false
namespace RX
open PySem PySem.Spec PyProof.Rows L2

theorem star_cons {e : PySem.Expr} {es : List PySem.Expr} {env : PySem.Env} (h : notStar e = true) : starEach (e :: es) env = (false, eval e env) :: starEach es env := by
  cases e <;> first | rfl | cases h
theorem star_any : ∀ {es : List PySem.Expr} {env : PySem.Env} {pos : Pos}, es.all notStar = true → (backTo pos (starEach es env)).any (·.1) = false
  | [], _, _, _ => rfl
  | e :: es, env, pos, h => by
    have h' : notStar e = true ∧ es.all notStar = true := by simpa using h
    rw [star_cons h'.1]
    show (false || (backTo pos (starEach es env)).any (·.1)) = false
    rw [star_any h'.2]; rfl
theorem plainIx_of {b : PySem.Expr} (h : notSl b = true) : PlainIx b := by
  cases b <;> first | exact fun _ _ => rfl | cases h
theorem fold_of {e : PySem.Expr} {env : PySem.Env} (h : notSet e = true) : ∀ x, foldedSetIterable e env x = pure x := by
  intro x
  cases e <;> first | rfl | cases h
theorem mark_of {e : PySem.Expr} {op : CmpOp} (h : notSet e = true) : behindInMarks op e = false := by
  cases e <;> first | rfl | cases h

theorem bnd_ok_of {α β : Type} {r : Option (Out α)} {f : α → Env → Option (Out β)} {b : β} {ρ' : Env} (h : bnd r f = some (.ok b ρ')) : ∃ a ρ1, r = some (.ok a ρ1) ∧ f a ρ1 = some (.ok b ρ') := by
  cases r with
  | none => cases h
  | some o =>
    cases o with
    | ok a ρ1 => exact ⟨a, ρ1, rfl, h⟩
    | ex x ρ1 => cases h
def tst (m : Env → Option (Out Opd)) (ρ : Env) : Option (Out Bool) := tstO (m ρ)
theorem Ct.test {K : PySem.W.Frag} {mg : Str → Option Value} {xr : XR} {W : WX} {ρ : Env} {σ : L2.St} {H : Hp} {F : Addr → Prop} {m : Env → Option (Out Opd)} {Q : Bool → Hp → Prop} (q : Ct K mg xr W relB ρ σ H F (tst m ρ) Q) :
    Ct K mg xr W (relO K) ρ σ H F (m ρ) (fun v H1 => ∃ F1 d b, Rr K H1 F1 v d ∧ truD d = some b ∧ Q b H1) := by
  refine Ct.seq q fun o ρ1 hr v H1 F1 s1 t1 r c1 => ?_
  cases e1 : o.rd ρ1 with
  | none => rw [e1] at c1; exact c1.not.elim
  | some d =>
    rw [e1] at c1
    cases e2 : truD d with
    | none => simp only [Option.bind_some, e2, Option.map_none] at c1; exact c1.not.elim
    | some b =>
      simp only [Option.bind_some, e2, Option.map_some] at c1
      exact ⟨F1, d, b, r.rd s1 e1, e2, c1 b H1 F1 s1 .refl rfl⟩
theorem Ct.testB {K : PySem.W.Frag} {mg : Str → Option Value} {xr : XR} {W : WX} {ρ : Env} {σ : L2.St} {H : Hp} {F : Addr → Prop} {m : Env → Option (Out Opd)} {Q : Bool → Hp → Prop} (q : Ct K mg xr W relB ρ σ H F (tst m ρ) Q)
    (hb : ∀ o ρ', m ρ = some (.ok o ρ') → ∃ z, o = .val (.bool z)) : Ct K mg xr W (relO K) ρ σ H F (m ρ) (fun v H1 => ∃ b, v = .bl b ∧ Q b H1) := by
  refine Ct.seq q fun o ρ1 hr v H1 F1 s1 t1 r c1 => ?_
  obtain ⟨z, rfl⟩ := hb o ρ1 hr
  have r' : Rp K H1 F1 v (.bool z) := r
  cases r'
  exact ⟨z, rfl, c1 z H1 F1 s1 .refl rfl⟩
/-- an expression's evaluator tells its value and its truth -/
def Snd (X : Cx) (xr : XR) (W : WX) (x : PySem.Expr) (m : Env → Option (Out Opd)) : Prop :=
  PE X x (tM X.K X.mg xr W (relO X.K) m) ∧ PT X x (tM X.K X.mg xr W relB (tst m)) ∧ (∀ op xs pos, x = .BoolOp op xs pos → PW X x (tM X.K X.mg xr W relB (tst m)))
section
variable {u : Sub} {gc : List D} {c : CF} {k : Kx} {n : Nat} {X : Cx} {xr : XR} {W : WX} {x : PySem.Expr} {m : Env → Option (Out Opd)}
/-- .. where the truth is asked of the value -/
theorem Snd.plain (h : PE X x (tM X.K X.mg xr W (relO X.K) m)) (he : ∀ whole, isTrue x X.env whole = (do let v ← whole; standAt x.pos; holding [v] (truthy v))) (nb : ∀ op xs pos, x ≠ .BoolOp op xs pos) : Snd X xr W x m := by
  refine ⟨h, (pt_truth h he).wk fun σ H Q ⟨ρ, F, s, q⟩ => ⟨ρ, F, s, ?_⟩, fun op xs pos e => (nb op xs pos e).elim⟩
  have q' := Ct.test q
  revert q'
  unfold Ct
  split
  · exact id
  · exact fun q v H' F' s1 t1 r => let ⟨F1, d, b, hr, e, q2⟩ := q v H' F' s1 t1 r; ⟨b, truV_of hr e, q2⟩
  · exact id
theorem vis_of (ok : Ok u gc c k n X xr W) {i : Nat} {y : Str} (h : isVar k i y = true) : X.N[i]? = some y ∧ Vis X.env.scope y ∧ (y == ("__debug__" : Str)) = false ∧ (y == ("__classdict__" : Str)) = false := by
  unfold isVar at h
  simp only [Bool.and_eq_true, decide_eq_true_eq, Bool.not_eq_true'] at h
  obtain ⟨⟨⟨h1, h2⟩, h3⟩, h4⟩ := h
  refine ⟨by rw [ok.N]; exact h1, ?_, h3, h4⟩
  rw [ok.sc]
  unfold visB at h2
  split at h2 <;> first | exact .inl (by assumption) | exact .inr (.inl (by assumption)) | exact .inr (.inr (by assumption)) | cases h2
theorem gl_of (ok : Ok u gc c k n X xr W) {y : Str} (h : glB k.sc y = true) : Gl X y ∧ (y == ("__debug__" : Str)) = false := by
  unfold glB at h
  split at h
  · rename_i e
    refine ⟨?_, by simpa using h⟩
    show X.env.scope.names.lookup y = _
    rw [ok.sc]; exact e
  · cases h
end
section
variable {u : Sub} {gc : List D} {c : CF} {k : Kx} {n : Nat} {X : Cx} {xr : XR} {W : WX}
theorem snd_v (ok : Ok u gc c k n X xr W) {i : Nat} {y : Str} {pos : Pos} (h : isVar k i y = true) : Snd X xr W (.Name y pos) (evE u gc c (.v i)) := by
  obtain ⟨h1, h2, h3, h4⟩ := vis_of ok h
  refine Snd.plain ((pe_var h1 h2 h3 h4).wk fun σ H Q ⟨ρ, F, s, q⟩ => ?_) (fun _ => rfl) fun _ _ _ e => nomatch e
  simp only [evE] at q
  split at q
  · rename_i d e
    obtain ⟨v, hv, r⟩ := s.sh _ _ e
    exact ⟨v, hv, q.val s r⟩
  · rename_i b xs e
    obtain ⟨a, vs, hv, _⟩ := s.ol _ _ _ e
    exact ⟨_, hv, q _ H F s .refl hv⟩
  · rename_i b xs e
    exact (s.od _ _ _ e).elim
  · exact q.not.elim
theorem snd_g (ok : Ok u gc c k n X xr W) {j : Nat} {y : Str} {pos : Pos} (h : k.csts[j]? = some y) (hg : glB k.sc y = true) : Snd X xr W (.Name y pos) (evE u gc c (.gi j)) := by
  obtain ⟨h1, h2⟩ := gl_of ok hg
  refine Snd.plain ⟨fun pins s σ H Q I ⟨ρ, F, sr, q⟩ => ?_⟩ (fun _ => rfl) fun _ _ _ e => nomatch e
  simp only [evE] at q
  cases e : gc[j]? with
  | none => rw [e] at q; exact q.not.elim
  | some d =>
    rw [e] at q
    obtain ⟨v, w, hm, r, hr⟩ := ok.cst j y d h e
    exact ld_glob I h1 hm ⟨v, H, I, r, q.val sr (hr H F)⟩ h2
theorem snd_k {d : D} {cn : Const} {j : Nat} {pos : Pos} (h : constB d cn = true) : Snd X xr W (.Constant cn j pos) (evE u gc c (.k d)) := by
  refine Snd.plain ?_ (fun _ => rfl) fun _ _ _ e => nomatch e
  unfold constB at h
  split at h
  · exact pe_non.wk fun σ H Q ⟨ρ, F, s, q⟩ => q.val s .non
  · have e := beq_iff_eq.mp h; subst e
    exact pe_bl.wk fun σ H Q ⟨ρ, F, s, q⟩ => q.val s (.bl _)
  · have e := beq_iff_eq.mp h; subst e
    exact pe_int.wk fun σ H Q ⟨ρ, F, s, q⟩ => q.val s (.int _)
  · rw [Bool.and_eq_true] at h
    have e := beq_iff_eq.mp h.1; subst e
    exact pe_str.wk fun σ H Q ⟨ρ, F, s, q⟩ => q.val s (.str _ h.2)
  · cases h
/-- two values read, then a plain operation -/
theorem rd2 {o1 o2 : Opd} {v1 v2 : V} {ρ1 ρ2 : Env} {σ : L2.St} {H1 H2 H01 H02 : Hp} {F1 F2 : Addr → Prop} {α : Type} {f : D → D → Option (Out α)}
    (r1 : RpO X.K ρ1 σ H1 F1 H01 o1 v1) (s1 : SR X.K xr ρ1 σ H1 F1) (t2 : Stp ρ1 σ H1 F1 ρ2 σ H2 F2) (s2 : SR X.K xr ρ2 σ H2 F2) (r2 : RpO X.K ρ2 σ H2 F2 H02 o2 v2)
    {β : Type} {rel : Rel α β} {Q : β → Hp → Prop} (c : Ct X.K X.mg xr W rel ρ2 σ H2 F2 ((o1.rd ρ2).bind fun x => (o2.rd ρ2).bind fun y => f x y) Q) :
    ∃ dx dy, o1.rd ρ2 = some dx ∧ o2.rd ρ2 = some dy ∧ Rr X.K H2 F2 v1 dx ∧ Rr X.K H2 F2 v2 dy ∧ Ct X.K X.mg xr W rel ρ2 σ H2 F2 (f dx dy) Q := by
  cases e1 : o1.rd ρ2 with
  | none => rw [e1] at c; exact c.not.elim
  | some dx =>
    cases e2 : o2.rd ρ2 with
    | none => rw [e1, e2] at c; exact c.not.elim
    | some dy =>
      rw [e1, e2] at c
      exact ⟨dx, dy, rfl, rfl, (r1.carry s1 t2).rd s2 e1, r2.rd s2 e2, c⟩
theorem rd1 {o1 : Opd} {v1 : V} {ρ1 : Env} {σ : L2.St} {H1 H01 : Hp} {F1 : Addr → Prop} {α : Type} {f : D → Option (Out α)}
    (r1 : RpO X.K ρ1 σ H1 F1 H01 o1 v1) (s1 : SR X.K xr ρ1 σ H1 F1)
    {β : Type} {rel : Rel α β} {Q : β → Hp → Prop} (c : Ct X.K X.mg xr W rel ρ1 σ H1 F1 ((o1.rd ρ1).bind fun x => f x) Q) :
    ∃ dx, o1.rd ρ1 = some dx ∧ Rr X.K H1 F1 v1 dx ∧ Ct X.K X.mg xr W rel ρ1 σ H1 F1 (f dx) Q := by
  cases e1 : o1.rd ρ1 with
  | none => rw [e1] at c; exact c.not.elim
  | some dx =>
    rw [e1] at c
    exact ⟨dx, rfl, r1.rd s1 e1, c⟩
theorem map1 {α γ : Type} {o : Option γ} {g : γ → Out α} {ρ : Env} {σ : L2.St} {H : Hp} {F : Addr → Prop} {β : Type} {rel : Rel α β} {Q : β → Hp → Prop} (c : Ct X.K X.mg xr W rel ρ σ H F (o.map g) Q) :
    ∃ z, o = some z ∧ Ct X.K X.mg xr W rel ρ σ H F (some (g z)) Q := by
  cases o with
  | none => exact c.not.elim
  | some z => exact ⟨z, rfl, c⟩
theorem bind1 {α γ : Type} {o : Option γ} {g : γ → Option (Out α)} {ρ : Env} {σ : L2.St} {H : Hp} {F : Addr → Prop} {β : Type} {rel : Rel α β} {Q : β → Hp → Prop} (c : Ct X.K X.mg xr W rel ρ σ H F (o.bind g) Q) :
    ∃ z, o = some z ∧ Ct X.K X.mg xr W rel ρ σ H F (g z) Q := by
  cases o with
  | none => exact c.not.elim
  | some z => exact ⟨z, rfl, c⟩
theorem ifc {α : Type} {p : Prop} [Decidable p] {a : Option (Out α)} {ρ : Env} {σ : L2.St} {H : Hp} {F : Addr → Prop} {β : Type} {rel : Rel α β} {Q : β → Hp → Prop} (c : Ct X.K X.mg xr W rel ρ σ H F (if p then a else none) Q) :
    p ∧ Ct X.K X.mg xr W rel ρ σ H F a Q := by
  by_cases h : p
  · rw [if_pos h] at c; exact ⟨h, c⟩
  · rw [if_neg h] at c; exact c.not.elim
variable {xa xb xc : PySem.Expr} {a b d : E}
theorem snd_bin {o : Operator} {pos : Pos} (ha : Snd X xr W xa (evE u gc c a)) (hb : Snd X xr W xb (evE u gc c b)) : Snd X xr W (.BinOp xa o xb pos) (evE u gc c (.bin o a b)) := by
  refine Snd.plain ((pe_op (bin_ok o) ha.1 hb.1).wk fun σ H Q ⟨ρ, F, s, q⟩ => ?_) (fun _ => rfl) fun _ _ _ e => nomatch e
  simp only [evE] at q
  refine ⟨ρ, F, s, Ct.seq q fun o1 ρ1 _ v1 H1 F1 s1 t1 r1 c1 => ⟨ρ1, F1, s1, Ct.seq c1 fun o2 ρ2 _ v2 H2 F2 s2 t2 r2 c2 => ?_⟩⟩
  obtain ⟨dx, dy, e1, e2, hx, hy, c3⟩ := rd2 r1 s1 t2 s2 r2 c2
  obtain ⟨z, e3, c4⟩ := map1 c3
  exact ⟨F2, dx, dy, z, s2.dom, hx, hy, e3, fun v H3 x => c4.res s2 x⟩
theorem snd_neg {pos : Pos} (ha : Snd X xr W xa (evE u gc c a)) : Snd X xr W (.UnaryOp .USub xa pos) (evE u gc c (.neg a)) := by
  refine Snd.plain ((pe_un un_ok ha.1).wk fun σ H Q ⟨ρ, F, s, q⟩ => ?_) (fun _ => rfl) fun _ _ _ e => nomatch e
  simp only [evE] at q
  refine ⟨ρ, F, s, Ct.seq q fun o1 ρ1 _ v1 H1 F1 s1 t1 r1 c1 => ?_⟩
  split at c1
  · rename_i i e
    exact ⟨i, (r1.rd s1 e).int, c1.val s1 (.int _)⟩
  · exact c1.not.elim
theorem snd_cmp {o : CmpOp} {pos : Pos} (hu : X.A.units + 65 < cLine) (ha : Snd X xr W xa (evE u gc c a)) (hb : Snd X xr W xb (evE u gc c b)) (hs : notSet xb = true) : Snd X xr W (.Compare xa [o] [xb] pos) (evE u gc c (.cmp o a b)) := by
  have main : ∀ {σ : L2.St} {H : Hp} {ρ : Env} {F : Addr → Prop} {Q : VK}, SR X.K xr ρ σ H F → Ct X.K X.mg xr W (relO X.K) ρ σ H F (evE u gc c (.cmp o a b) ρ) Q →
      tOp (rDB X.K (cmpD o)) (tM X.K X.mg xr W (relO X.K) (evE u gc c a)) (tM X.K X.mg xr W (relO X.K) (evE u gc c b)) σ H Q := by
    intro σ H ρ F Q s q
    simp only [evE] at q
    refine ⟨ρ, F, s, Ct.seq q fun o1 ρ1 _ v1 H1 F1 s1 t1 r1 c1 => ⟨ρ1, F1, s1, Ct.seq c1 fun o2 ρ2 _ v2 H2 F2 s2 t2 r2 c2 => ?_⟩⟩
    obtain ⟨dx, dy, e1, e2, hx, hy, c3⟩ := rd2 r1 s1 t2 s2 r2 c2
    obtain ⟨z, e3, c4⟩ := map1 c3
    exact ⟨F2, dx, dy, z, s2.dom, hx, hy, e3, c4.val s2 (.bl _)⟩
  refine ⟨(pe_cmpR (cmp_ok (k := 0) hu o) ha.1 hb.1 (mark_of hs)).wk fun σ H Q ⟨ρ, F, s, q⟩ => main s q,
    (pt_cmpR (cmp_ok (k := 0) hu o) ha.1 hb.1 (mark_of hs)).wk fun σ H Q ⟨ρ, F, s, q⟩ => main s (Ct.testB q fun r ρ' e => ?_), fun _ _ _ e => nomatch e⟩
  simp only [evE] at e
  obtain ⟨x, ρ1, e⟩ := bnd_ok_of e
  obtain ⟨y, ρ2, e⟩ := bnd_ok_of e.2
  obtain ⟨dx, _, e⟩ := Option.bind_eq_some_iff.mp e.2
  obtain ⟨dy, _, e⟩ := Option.bind_eq_some_iff.mp e
  obtain ⟨z, _, e⟩ := Option.map_eq_some_iff.mp e
  cases e
  exact ⟨z, rfl⟩
end
end RX

end
section
set_option Elab.async false
set_option linter.all false
set_option maxRecDepth 100000
set_option maxHeartbeats 4000000
set_option autoImplicit false
namespace RX
open PySem PySem.Spec PyProof.Rows L2
section
variable {u : Sub} {gc : List D} {c : CF} {k : Kx} {n : Nat} {X : Cx} {xr : XR} {W : WX} {xa xb xd : PySem.Expr} {a b d : E}
theorem snd_ch {o o' : CmpOp} {pos : Pos} (hu : X.A.units + 65 < cLine) (ha : Snd X xr W xa (evE u gc c a)) (hb : Snd X xr W xb (evE u gc c b)) (hd : Snd X xr W xd (evE u gc c d)) (hs : notSet xd = true) :
    Snd X xr W (.Compare xa [o, o'] [xb, xd] pos) (evE u gc c (.ch o o' a b d)) := by
  have main : ∀ {σ : L2.St} {H : Hp} {ρ : Env} {F : Addr → Prop} {Q : VK}, SR X.K xr ρ σ H F → Ct X.K X.mg xr W (relO X.K) ρ σ H F (evE u gc c (.ch o o' a b d) ρ) Q →
      tChain (rDB X.K (cmpD o)) (rDB X.K (cmpD o')) (tM X.K X.mg xr W (relO X.K) (evE u gc c a)) (tM X.K X.mg xr W (relO X.K) (evE u gc c b)) (tM X.K X.mg xr W (relO X.K) (evE u gc c d)) σ H Q := by
    intro σ H ρ F Q s q
    simp only [evE] at q
    refine ⟨ρ, F, s, Ct.seq q fun o1 ρ1 _ v1 H1 F1 s1 t1 r1 c1 => ⟨ρ1, F1, s1, Ct.seq c1 fun o2 ρ2 _ v2 H2 F2 s2 t2 r2 c2 => ?_⟩⟩
    obtain ⟨dx, dy, e1, e2, hx, hy, c3⟩ := rd2 r1 s1 t2 s2 r2 c2
    obtain ⟨z, e3, c4⟩ := bind1 c3
    refine ⟨F2, dx, dy, z, s2.dom, hx, hy, e3, z, rfl, ?_⟩
    cases z with
    | false => exact c4.val s2 (.bl _)
    | true =>
      refine ⟨ρ2, F2, s2, Ct.seq c4 fun o3 ρ3 _ v3 H3 F3 s3 t3 r3 c5 => ?_⟩
      obtain ⟨dy', dw, e4, e5, hy', hw, c6⟩ := rd2 r2 s2 t3 s3 r3 c5
      obtain ⟨z', e6, c7⟩ := map1 c6
      exact ⟨F3, dy', dw, z', s3.dom, hy', hw, e6, c7.val s3 (.bl _)⟩
  have lm : lastMarks [o, o'] [xb, xd] = false := mark_of (op := o') hs
  refine ⟨(pe_chain (cmp_ok (k := 0) hu o) (cmp_ok (k := 0) hu o') ha.1 hb.1 hd.1 lm).wk fun σ H Q ⟨ρ, F, s, q⟩ => main s q,
    (pt_chain (cmp_ok (k := 0) hu o) (cmp_ok (k := 0) hu o') ha.1 hb.1 hd.1 lm).wk fun σ H Q ⟨ρ, F, s, q⟩ => main s (Ct.testB q fun r ρ' e => ?_), fun _ _ _ e => nomatch e⟩
  simp only [evE] at e
  obtain ⟨x, ρ1, e⟩ := bnd_ok_of e
  obtain ⟨y, ρ2, e⟩ := bnd_ok_of e.2
  obtain ⟨dx, _, e⟩ := Option.bind_eq_some_iff.mp e.2
  obtain ⟨dy, _, e⟩ := Option.bind_eq_some_iff.mp e
  obtain ⟨z, _, e⟩ := Option.bind_eq_some_iff.mp e
  cases z with
  | false => cases e; exact ⟨_, rfl⟩
  | true =>
    obtain ⟨w, ρ3, e⟩ := bnd_ok_of e
    obtain ⟨dy, _, e⟩ := Option.bind_eq_some_iff.mp e.2
    obtain ⟨dy, _, e⟩ := Option.bind_eq_some_iff.mp e
    obtain ⟨z, _, e⟩ := Option.map_eq_some_iff.mp e
    cases e
    exact ⟨z, rfl⟩
theorem snd_ch3 {xe : PySem.Expr} {e : E} {o o' o2 : CmpOp} {pos : Pos} (hu : X.A.units + 65 < cLine) (ha : Snd X xr W xa (evE u gc c a)) (hb : Snd X xr W xb (evE u gc c b)) (hd : Snd X xr W xd (evE u gc c d)) (he : Snd X xr W xe (evE u gc c e)) (hs : notSet xe = true) :
    Snd X xr W (.Compare xa [o, o', o2] [xb, xd, xe] pos) (evE u gc c (.ch3 o o' o2 a b d e)) := by
  have main : ∀ {σ : L2.St} {H : Hp} {ρ : Env} {F : Addr → Prop} {Q : VK}, SR X.K xr ρ σ H F → Ct X.K X.mg xr W (relO X.K) ρ σ H F (evE u gc c (.ch3 o o' o2 a b d e) ρ) Q →
      tChain3 (rDB X.K (cmpD o)) (rDB X.K (cmpD o')) (rDB X.K (cmpD o2)) (tM X.K X.mg xr W (relO X.K) (evE u gc c a)) (tM X.K X.mg xr W (relO X.K) (evE u gc c b)) (tM X.K X.mg xr W (relO X.K) (evE u gc c d)) (tM X.K X.mg xr W (relO X.K) (evE u gc c e)) σ H Q := by
    intro σ H ρ F Q s q
    simp only [evE] at q
    refine ⟨ρ, F, s, Ct.seq q fun o1 ρ1 _ v1 H1 F1 s1 t1 r1 c1 => ⟨ρ1, F1, s1, Ct.seq c1 fun o2 ρ2 _ v2 H2 F2 s2 t2 r2 c2 => ?_⟩⟩
    obtain ⟨dx, dy, e1, e2, hx, hy, c3⟩ := rd2 r1 s1 t2 s2 r2 c2
    obtain ⟨z, e3, c4⟩ := bind1 c3
    refine ⟨F2, dx, dy, z, s2.dom, hx, hy, e3, z, rfl, ?_⟩
    cases z with
    | false => exact c4.val s2 (.bl _)
    | true =>
      refine ⟨ρ2, F2, s2, Ct.seq c4 fun o3 ρ3 _ v3 H3 F3 s3 t3 r3 c5 => ?_⟩
      obtain ⟨dy', dw, e4, e5, hy', hw, c6⟩ := rd2 r2 s2 t3 s3 r3 c5
      obtain ⟨z', e6, c7⟩ := bind1 c6
      refine ⟨F3, dy', dw, z', s3.dom, hy', hw, e6, z', rfl, ?_⟩
      cases z' with
      | false => exact c7.val s3 (.bl _)
      | true =>
        refine ⟨ρ3, F3, s3, Ct.seq c7 fun o4 ρ4 _ v4 H4 F4 s4 t4 r4 c8 => ?_⟩
        obtain ⟨dw', dv, e7, e8, hw', hv, c9⟩ := rd2 r3 s3 t4 s4 r4 c8
        obtain ⟨z2, e9, c10⟩ := map1 c9
        exact ⟨F4, dw', dv, z2, s4.dom, hw', hv, e9, c10.val s4 (.bl _)⟩
  have lm : lastMarks [o, o', o2] [xb, xd, xe] = false := mark_of (op := o2) hs
  refine ⟨(pe_chain3 (cmp_ok (k := 0) hu o) (cmp_ok (k := 0) hu o') (cmp_ok (k := 0) hu o2) ha.1 hb.1 hd.1 he.1 lm).wk fun σ H Q ⟨ρ, F, s, q⟩ => main s q,
    (pt_chain3 (cmp_ok (k := 0) hu o) (cmp_ok (k := 0) hu o') (cmp_ok (k := 0) hu o2) ha.1 hb.1 hd.1 he.1 lm).wk fun σ H Q ⟨ρ, F, s, q⟩ => main s (Ct.testB q fun r ρ' e => ?_), fun _ _ _ e => nomatch e⟩
  simp only [evE] at e
  obtain ⟨x, ρ1, e⟩ := bnd_ok_of e
  obtain ⟨y, ρ2, e⟩ := bnd_ok_of e.2
  obtain ⟨dx, _, e⟩ := Option.bind_eq_some_iff.mp e.2
  obtain ⟨dy, _, e⟩ := Option.bind_eq_some_iff.mp e
  obtain ⟨z, _, e⟩ := Option.bind_eq_some_iff.mp e
  cases z with
  | false => cases e; exact ⟨_, rfl⟩
  | true =>
    obtain ⟨w, ρ3, e⟩ := bnd_ok_of e
    obtain ⟨dy, _, e⟩ := Option.bind_eq_some_iff.mp e.2
    obtain ⟨dy, _, e⟩ := Option.bind_eq_some_iff.mp e
    obtain ⟨z, _, e⟩ := Option.bind_eq_some_iff.mp e
    cases z with
    | false => cases e; exact ⟨_, rfl⟩
    | true =>
      obtain ⟨v, ρ4, e⟩ := bnd_ok_of e
      obtain ⟨dy, _, e⟩ := Option.bind_eq_some_iff.mp e.2
      obtain ⟨dy, _, e⟩ := Option.bind_eq_some_iff.mp e
      obtain ⟨z, _, e⟩ := Option.map_eq_some_iff.mp e
      cases e
      exact ⟨z, rfl⟩
theorem val_bool {v : V} {H : Hp} {F : Addr → Prop} {b : Bool} (r : Rp X.K H F v (.bool b)) : v = .bl b := by cases r; rfl
theorem pe_notT {pos : Pos} {ta : TE} (ha : PE X xa ta) : PE X (.UnaryOp .Not xa pos) (fun σ H Q => ta σ H fun x H1 => ∃ k, TruV X.K x H1 k ∧ Q (.bl (!k)) H1) := by
  refine ⟨fun pins s σ H Q I h => ?_⟩
  refine UnaryOp_ (thn (ha.run pins s σ H _ I h) fun v s1 ⟨x, H1, I1, r1, q1⟩ => ?_)
  obtain ⟨k, hk, q⟩ := q1
  exact not_of (thn (tru_ok pins s1 σ H1 x v (fun b H' => Q (.bl (!b)) H') I1 r1 ⟨k, hk, q⟩) fun b s2 ⟨H2, I2, q2⟩ => ⟨.bl (!b), H2, I2, rfl, q2⟩)
/-- an outcome's truth, then the rest -/
theorem Ct.seqT {γ δ : Type} {rel : Rel γ δ} [Bases rel] {K : PySem.W.Frag} {mg : Str → Option Value} {ρ : Env} {σ : L2.St} {H : Hp} {F : Addr → Prop} {r : Option (Out Opd)} {f : Bool → Env → Option (Out γ)} {Q : δ → Hp → Prop} {G : Bool → Hp → Prop}
    (q : Ct K mg xr W rel ρ σ H F (bnd (tstO r) f) Q) (kk : ∀ b ρ1 H1 F1, SR K xr ρ1 σ H1 F1 → Stp ρ σ H F ρ1 σ H1 F1 → Ct K mg xr W rel ρ1 σ H1 F1 (f b ρ1) Q → G b H1) :
    Ct K mg xr W relB ρ σ H F (tstO r) G := Ct.seq q fun a ρ1 _ b H1 F1 s t e c1 => by
  have e' : a = b := e
  subst e'
  exact kk a ρ1 H1 F1 s t c1
theorem Ct.truV {K : PySem.W.Frag} {mg : Str → Option Value} {ρ : Env} {σ : L2.St} {H : Hp} {F : Addr → Prop} {m : Env → Option (Out Opd)} {G : Bool → Hp → Prop} (q : Ct K mg xr W relB ρ σ H F (tstO (m ρ)) G) :
    Ct K mg xr W (relO K) ρ σ H F (m ρ) (fun x H1 => ∃ k, TruV K x H1 k ∧ G k H1) := by
  have q' := Ct.test (m := m) q
  revert q'
  unfold Ct
  split
  · exact id
  · exact fun q v H' F' s1 t1 r => let ⟨F1, d, b, hr, e, q2⟩ := q v H' F' s1 t1 r; ⟨b, truV_of hr e, q2⟩
  · exact id
theorem snd_no {pos : Pos} (ha : Snd X xr W xa (evE u gc c a)) : Snd X xr W (.UnaryOp .Not xa pos) (evE u gc c (.no a)) := by
  refine ⟨(pe_notT ha.1).wk fun σ H Q ⟨ρ, F, s, q⟩ => ⟨ρ, F, s, Ct.truV (m := evE u gc c a) (Ct.seqT q fun b ρ1 H1 F1 s1 t1 c1 => ?_)⟩, (pt_not ha.2.1).wk fun σ H Q ⟨ρ, F, s, q⟩ => ⟨ρ, F, s, ?_⟩, fun _ _ _ e => nomatch e⟩
  · exact c1.val s1 (.bl _)
  · have e : tst (evE u gc c (.no a)) ρ = bnd (tstO (evE u gc c a ρ)) fun b ρ => some (.ok (!b) ρ) := by
      unfold tst
      simp only [evE]
      cases tstO (evE u gc c a ρ) with
      | none => rfl
      | some o => cases o <;> rfl
    rw [e] at q
    exact Ct.seqT q fun b ρ1 H1 F1 s1 t1 c1 => c1 _ _ F1 s1 .refl rfl
/-- a truth value, then the rest: of the value, of its truth -/
theorem Ct.bv {γ δ : Type} {rel : Rel γ δ} [Bases rel] {K : PySem.W.Frag} {mg : Str → Option Value} {ρ : Env} {σ : L2.St} {H : Hp} {F : Addr → Prop} {r : Option (Out Opd)} {f g : Env → Option (Out γ)} {Q : δ → Hp → Prop} {G : Bool → Hp → Prop}
    (q : Ct K mg xr W rel ρ σ H F (bnd r fun x ρ => match x with | .val (.bool true) => f ρ | .val (.bool false) => g ρ | _ => none) Q)
    (k1 : ∀ ρ1 H1 F1, SR K xr ρ1 σ H1 F1 → Stp ρ σ H F ρ1 σ H1 F1 → Ct K mg xr W rel ρ1 σ H1 F1 (f ρ1) Q → G true H1)
    (k2 : ∀ ρ1 H1 F1, SR K xr ρ1 σ H1 F1 → Stp ρ σ H F ρ1 σ H1 F1 → Ct K mg xr W rel ρ1 σ H1 F1 (g ρ1) Q → G false H1) :
    Ct K mg xr W (relO K) ρ σ H F r (fun x H1 => ∃ b, x = .bl b ∧ G b H1) ∧ Ct K mg xr W relB ρ σ H F (tstO r) G := by
  constructor
  · refine Ct.seq q fun o ρ1 _ v H1 F1 s t rr c1 => ?_
    split at c1
    · have r' : Rp K H1 F1 v (.bool true) := rr
      cases r'
      exact ⟨true, rfl, k1 ρ1 H1 F1 s t c1⟩
    · have r' : Rp K H1 F1 v (.bool false) := rr
      cases r'
      exact ⟨false, rfl, k2 ρ1 H1 F1 s t c1⟩
    · exact c1.not.elim
  · cases r with
    | none => exact q
    | some o =>
      cases o with
      | ex x ρ1 => exact q
      | ok o ρ1 =>
        rw [bnd_ok] at q
        split at q
        · intro b H1 F1 s t e
          have e' : true = b := e
          subst e'
          exact k1 ρ1 H1 F1 s t (Ct.rebase (r := f ρ1) q t)
        · intro b H1 F1 s t e
          have e' : false = b := e
          subst e'
          exact k2 ρ1 H1 F1 s t (Ct.rebase (r := g ρ1) q t)
        · exact q.elim
theorem tst_bv {r : Option (Out Opd)} {f g : Env → Option (Out Opd)} : tstO (bnd r fun x ρ => match x with | .val (.bool true) => f ρ | .val (.bool false) => g ρ | _ => none) =
    bnd r fun x ρ => match x with | .val (.bool true) => tstO (f ρ) | .val (.bool false) => tstO (g ρ) | _ => none := by
  cases r with
  | none => rfl
  | some o =>
    cases o with
    | ex x ρ1 => rfl
    | ok o ρ1 =>
      show tstO (match o with | .val (.bool true) => f ρ1 | .val (.bool false) => g ρ1 | _ => none) = (match o with | .val (.bool true) => tstO (f ρ1) | .val (.bool false) => tstO (g ρ1) | _ => none)
      split <;> rfl
theorem snd_an1 {pos pos' : Pos} {rest : List PySem.Expr} (ha : Snd X xr W xa (evE u gc c a)) (hb : PE X (.BoolOp .And (xb :: rest) pos) (tM X.K X.mg xr W (relO X.K) (evE u gc c b))) (hw : PW X (.BoolOp .And (xb :: rest) pos) (tM X.K X.mg xr W relB (tst (evE u gc c b)))) :
    Snd X xr W (.BoolOp .And (xa :: xb :: rest) pos) (evE u gc c (.an a b)) := by
  have pe := (pe_and ha.1 hb).wk (t' := tM X.K X.mg xr W (relO X.K) (evE u gc c (.an a b))) fun σ H Q ⟨ρ, F, s, q⟩ => by
    simp only [evE] at q
    exact ⟨ρ, F, s, (Ct.bv (G := fun b H1 => if b = true then tM X.K X.mg xr W (relO X.K) (evE u gc c _) σ H1 Q else Q (.bl false) H1) q
      (fun ρ1 H1 F1 s1 t1 c1 => by rw [if_pos rfl]; exact ⟨ρ1, F1, s1, c1⟩) (fun ρ1 H1 F1 s1 t1 c1 => by rw [if_neg Bool.false_ne_true]; exact c1.val s1 (.bl _))).1⟩
  have pw := (pw_and ha.2.1 hw).wk (t' := tM X.K X.mg xr W relB (tst (evE u gc c (.an a b)))) fun σ H Q ⟨ρ, F, s, q⟩ => by
    have e : tst (evE u gc c (.an a b)) ρ = bnd (evE u gc c a ρ) fun x ρ => match x with | .val (.bool true) => tstO (evE u gc c b ρ) | .val (.bool false) => some (.ok false ρ) | _ => none := by
      unfold tst
      simp only [evE]
      exact tst_bv (f := fun ρ => evE u gc c b ρ) (g := fun ρ => some (.ok (.val (.bool false)) ρ))
    rw [e] at q
    exact ⟨ρ, F, s, (Ct.bv (G := fun b H1 => if b = true then tM X.K X.mg xr W relB (tst (evE u gc c _)) σ H1 Q else Q false H1) q
      (fun ρ1 H1 F1 s1 t1 c1 => by rw [if_pos rfl]; exact ⟨ρ1, F1, s1, c1⟩) (fun ρ1 H1 F1 s1 t1 c1 => by rw [if_neg Bool.false_ne_true]; exact c1 false H1 F1 s1 .refl rfl)).2⟩
  exact ⟨pe, pw.pt, fun op xs p e => by cases e; exact pw⟩
theorem snd_or1 {pos pos' : Pos} {rest : List PySem.Expr} (ha : Snd X xr W xa (evE u gc c a)) (hb : PE X (.BoolOp .Or (xb :: rest) pos) (tM X.K X.mg xr W (relO X.K) (evE u gc c b))) (hw : PW X (.BoolOp .Or (xb :: rest) pos) (tM X.K X.mg xr W relB (tst (evE u gc c b)))) :
    Snd X xr W (.BoolOp .Or (xa :: xb :: rest) pos) (evE u gc c (.orr a b)) := by
  have pe := (pe_or ha.1 hb).wk (t' := tM X.K X.mg xr W (relO X.K) (evE u gc c (.orr a b))) fun σ H Q ⟨ρ, F, s, q⟩ => by
    simp only [evE] at q
    exact ⟨ρ, F, s, (Ct.bv (f := fun ρ => some (.ok (.val (.bool true)) ρ)) (g := fun ρ => evE u gc c b ρ) (G := fun b H1 => if b = true then Q (.bl true) H1 else tM X.K X.mg xr W (relO X.K) (evE u gc c _) σ H1 Q) q
      (fun ρ1 H1 F1 s1 t1 c1 => by rw [if_pos rfl]; exact c1.val s1 (.bl _)) (fun ρ1 H1 F1 s1 t1 c1 => by rw [if_neg Bool.false_ne_true]; exact ⟨ρ1, F1, s1, c1⟩)).1⟩
  have pw := (pw_or ha.2.1 hw).wk (t' := tM X.K X.mg xr W relB (tst (evE u gc c (.orr a b)))) fun σ H Q ⟨ρ, F, s, q⟩ => by
    have e : tst (evE u gc c (.orr a b)) ρ = bnd (evE u gc c a ρ) fun x ρ => match x with | .val (.bool true) => some (.ok true ρ) | .val (.bool false) => tstO (evE u gc c b ρ) | _ => none := by
      unfold tst
      simp only [evE]
      exact tst_bv (g := fun ρ => evE u gc c b ρ) (f := fun ρ => some (.ok (.val (.bool true)) ρ))
    rw [e] at q
    exact ⟨ρ, F, s, (Ct.bv (f := fun ρ => some (.ok true ρ)) (g := fun ρ => tstO (evE u gc c b ρ)) (G := fun b H1 => if b = true then Q true H1 else tM X.K X.mg xr W relB (tst (evE u gc c _)) σ H1 Q) q
      (fun ρ1 H1 F1 s1 t1 c1 => by rw [if_pos rfl]; exact c1 true H1 F1 s1 .refl rfl) (fun ρ1 H1 F1 s1 t1 c1 => by rw [if_neg Bool.false_ne_true]; exact ⟨ρ1, F1, s1, c1⟩)).2⟩
  exact ⟨pe, pw.pt, fun op xs p e => by cases e; exact pw⟩
theorem pt_ifE {pos : Pos} {t ta tb : TT} (h : PT X xd t) (ha : PT X xa ta) (hb : PT X xb tb) : PT X (.IfExp xd xa xb pos) (fun σ H Q => t σ H fun c H1 => if c = true then ta σ H1 Q else tb σ H1 Q) := by
  refine ⟨fun pins s σ H Q I hw => ?_⟩
  refine isTrue_IfExp (thn (h.run pins s σ H _ I hw) fun d s1 ⟨H1, I1, q1⟩ => ?_)
  cases d with
  | true => exact ha.run pins s1 σ H1 Q I1 q1
  | false => exact hb.run pins s1 σ H1 Q I1 q1
theorem snd_ife {pos : Pos} (hd : Snd X xr W xd (evE u gc c d)) (ha : Snd X xr W xa (evE u gc c a)) (hb : Snd X xr W xb (evE u gc c b)) : Snd X xr W (.IfExp xd xa xb pos) (evE u gc c (.ife d a b)) := by
  refine ⟨(pe_ifExp hd.2.1 ha.1 hb.1).wk fun σ H Q ⟨ρ, F, s, q⟩ => ⟨ρ, F, s, Ct.seqT q fun t ρ1 H1 F1 s1 t1 c1 => ?_⟩, (pt_ifE hd.2.1 ha.2.1 hb.2.1).wk fun σ H Q ⟨ρ, F, s, q⟩ => ⟨ρ, F, s, ?_⟩, fun _ _ _ e => nomatch e⟩
  · cases t with
    | true => rw [if_pos rfl]; exact ⟨ρ1, F1, s1, c1⟩
    | false => rw [if_neg Bool.false_ne_true]; exact ⟨ρ1, F1, s1, c1⟩
  · have e : tst (evE u gc c (.ife d a b)) ρ = bnd (tstO (evE u gc c d ρ)) fun t ρ => match t with | true => tstO (evE u gc c a ρ) | false => tstO (evE u gc c b ρ) := by
      unfold tst
      simp only [evE]
      cases tstO (evE u gc c d ρ) with
      | none => rfl
      | some o =>
        cases o with
        | ex x ρ1 => rfl
        | ok t ρ1 => cases t <;> rfl
    rw [e] at q
    refine Ct.seqT q fun t ρ1 H1 F1 s1 t1 c1 => ?_
    cases t with
    | true => rw [if_pos rfl]; exact ⟨ρ1, F1, s1, c1⟩
    | false => rw [if_neg Bool.false_ne_true]; exact ⟨ρ1, F1, s1, c1⟩
end
end RX

end
section
set_option Elab.async false
set_option linter.all false
set_option maxRecDepth 100000
set_option maxHeartbeats 4000000
set_option autoImplicit false
namespace RX
open PySem PySem.Spec PyProof.Rows L2
section
variable {u : Sub} {gc : List D} {c : CF} {k : Kx} {n : Nat} {X : Cx} {xr : XR} {W : WX} {xa xb xd : PySem.Expr} {a b d : E} {es : List PySem.Expr} {ee : Es}
/-! ### displays -/
theorem pa_nilE : PA X [] (tM X.K X.mg xr W (relL X.K) (evEs u gc c .nil)) := pa_nil.wk fun σ H Q ⟨ρ, F, s, q⟩ => by
  simp only [evEs] at q
  exact q _ _ F s .refl .nil
theorem pa_consE (hs : notStar xa = true) (ha : PE X xa (tM X.K X.mg xr W (relO X.K) (evE u gc c a))) (hr : PA X es (tM X.K X.mg xr W (relL X.K) (evEs u gc c ee))) :
    PA X (xa :: es) (tM X.K X.mg xr W (relL X.K) (evEs u gc c (.cons a ee))) := (pa_cons ha hr (star_cons hs)).wk fun σ H Q ⟨ρ, F, s, q⟩ => by
  simp only [evEs] at q
  refine ⟨ρ, F, s, Ct.seqF q fun d v ρ1 H1 F1 s1 t1 r1 c1 => ⟨ρ1, F1, s1, Ct.seq c1 fun ds ρ2 _ vs H2 F2 s2 t2 r2 c2 => ?_⟩⟩
  exact c2 (v :: vs) H2 F2 s2 .refl (.cons (t2.rp s1 r1) r2)
theorem snd_tup {j : Nat} {pos : Pos} (h : PA X es (tM X.K X.mg xr W (relL X.K) (evEs u gc c ee))) : Snd X xr W (.Tuple es j pos) (evE u gc c (.tup ee)) := by
  refine Snd.plain ((pe_tupMT h).wk fun σ H Q ⟨ρ, F, s, q⟩ => ?_) (fun _ => rfl) fun _ _ _ e => nomatch e
  simp only [evE] at q
  refine ⟨ρ, F, s, Ct.seq q fun ds ρ1 _ vs H1 F1 s1 t1 r1 c1 => ?_⟩
  obtain ⟨hl, c2⟩ := ifc c1
  exact ⟨by rw [← line_eq, RpA.length r1]; exact hl, fun p ho hp ht => c2.res s1 (.tup hp ht s1.dom r1)⟩
theorem snd_lst {pos : Pos} (h : PA X es (tM X.K X.mg xr W (relL X.K) (evEs u gc c ee))) : Snd X xr W (.List es pos) (evE u gc c (.lst ee)) := by
  refine Snd.plain ((pe_lst h).wk fun σ H Q ⟨ρ, F, s, q⟩ => ?_) (fun _ => rfl) fun _ _ _ e => nomatch e
  simp only [evE] at q
  refine ⟨ρ, F, s, Ct.seq q fun ds ρ1 _ vs H1 F1 s1 t1 r1 c1 => ?_⟩
  obtain ⟨hl, c2⟩ := ifc c1
  exact ⟨by rw [← line_eq, RpA.length r1]; exact hl, fun p hp => c2.res s1 (.lst hp s1.dom r1)⟩
/-! ### places, slices -/
theorem snd_ix {pos : Pos} (ha : Snd X xr W xa (evE u gc c a)) (hb : Snd X xr W xb (evE u gc c b)) (hs : notSl xb = true) : Snd X xr W (.Subscript xa xb pos) (evE u gc c (.ix a b)) := by
  refine Snd.plain ((pe_ix ix_ok ha.1 hb.1 (plainIx_of hs)).wk fun σ H Q ⟨ρ, F, s, q⟩ => ?_) (fun _ => rfl) fun _ _ _ e => nomatch e
  simp only [evE] at q
  refine ⟨ρ, F, s, Ct.seq q fun o1 ρ1 _ v1 H1 F1 s1 t1 r1 c1 => ⟨ρ1, F1, s1, Ct.seq c1 fun o2 ρ2 _ v2 H2 F2 s2 t2 r2 c2 => ?_⟩⟩
  obtain ⟨dx, dy, e1, e2, hx, hy, c3⟩ := rd2 r1 s1 t2 s2 r2 c2
  obtain ⟨z, e3, c4⟩ := map1 c3
  exact ⟨F2, dx, dy, z, s2.dom, hx, hy, e3, fun v r => c4.val s2 r⟩
theorem po_no : PO X none (tM X.K X.mg xr W relP (evP u gc c .no)) := po_none.wk fun σ H Q ⟨ρ, F, s, q⟩ => by
  simp only [evP] at q
  exact q none H F s .refl rfl
theorem po_so (ha : PE X xa (tM X.K X.mg xr W (relO X.K) (evE u gc c a))) : PO X (some xa) (tM X.K X.mg xr W relP (evP u gc c (.so a))) := (po_some ha).wk fun σ H Q ⟨ρ, F, s, q⟩ => by
  simp only [evP] at q
  refine ⟨ρ, F, s, Ct.seq q fun o1 ρ1 _ v1 H1 F1 s1 t1 r1 c1 => ?_⟩
  split at c1
  · rename_i i e
    exact ⟨i, (r1.rd s1 e).int, c1 (some i) H1 F1 s1 .refl rfl⟩
  · exact c1.not.elim
theorem snd_sl {l h : Option PySem.Expr} {lo hi : P} {pos p2 : Pos} (ha : Snd X xr W xa (evE u gc c a)) (hl : PO X l (tM X.K X.mg xr W relP (evP u gc c lo))) (hh : PO X h (tM X.K X.mg xr W relP (evP u gc c hi))) :
    Snd X xr W (.Subscript xa (.Slice l h none p2) pos) (evE u gc c (.sl a lo hi)) := by
  refine Snd.plain ((pe_slice sl_ok ha.1 hl hh).wk fun σ H Q ⟨ρ, F, s, q⟩ => ?_) (fun _ => rfl) fun _ _ _ e => nomatch e
  simp only [evE] at q
  refine ⟨ρ, F, s, Ct.seq q fun o1 ρ1 _ v1 H1 F1 s1 t1 r1 c1 => ⟨ρ1, F1, s1, Ct.seq c1 fun i2 ρ2 _ j2 H2 F2 s2 t2 r2 c2 => ⟨ρ2, F2, s2, Ct.seq c2 fun i3 ρ3 _ j3 H3 F3 s3 t3 r3 c3 => ?_⟩⟩⟩
  have e2 : i2 = j2 := r2
  have e3 : i3 = j3 := r3
  subst e2 e3
  obtain ⟨dx, e1, hx, c4⟩ := rd1 ((r1.carry s1 t2).carry s2 t3) s3 c3
  obtain ⟨z, e4, c5⟩ := map1 c4
  exact ⟨F3, dx, z, s3.dom, hx, e4, fun v H4 x => c5.res s3 x⟩
/-! ### built-in functions -/
theorem boot_bi (b : BI) : bootBuiltins (biN b) = some (biF b) ∧ biN b ≠ "__name__" := by
  cases b <;> exact ⟨by decide +kernel, by decide⟩
theorem bi_any (ok : Ok u gc c k n X xr W) {bb : BI} (hh : (!k.hot || hotB bb) = true) : CallR X (biF bb) (rL X.K (biD bb)) := by
  rw [Bool.or_eq_true, Bool.not_eq_true'] at hh
  rcases hh with hh | hh
  · exact bi_ok (ok.calm hh) bb
  · exact bi_hot bb (by cases bb <;> first | exact .inl rfl | exact .inr (.inl rfl) | exact .inr (.inr rfl) | cases hh)
theorem snd_b1 (ok : Ok u gc c k n X xr W) {bb : BI} {p pos : Pos} (hh : (!k.hot || hotB bb) = true) (hg : glB k.sc (biN bb) = true) (ha : Snd X xr W xa (evE u gc c a)) (hs : notStar xa = true) :
    Snd X xr W (.Call (.Name (biN bb) p) [xa] [] pos) (evE u gc c (.b1 bb a)) := by
  obtain ⟨g1, g2⟩ := gl_of ok hg
  have hA := pa_cons ha.1 pa_nil (star_cons hs)
  have main : PE X (.Call (.Name (biN bb) p) [xa] [] pos) (tCB (rL X.K (biD bb)) (tCons (tM X.K X.mg xr W (relO X.K) (evE u gc c a)) tNil)) := by
    have cr := bi_any ok hh
    cases e : biF bb with
    | builtin id => rw [e] at cr; exact pe_callB cr g1 (ok.blt bb) (by rw [(boot_bi bb).1, e]) hA (boot_bi bb).2 g2 (star_cons hs) rfl
    | type T => rw [e] at cr; exact pe_callTy cr g1 (ok.blt bb) (by rw [(boot_bi bb).1, e]) hA (boot_bi bb).2 g2 (star_cons hs) rfl
    | _ => cases bb <;> cases e
  refine Snd.plain (main.wk fun σ H Q ⟨ρ, F, s, q⟩ => ?_) (fun _ => rfl) fun _ _ _ e => nomatch e
  simp only [evE] at q
  refine ⟨ρ, F, s, Ct.seq q fun o1 ρ1 _ v1 H1 F1 s1 t1 r1 c1 => ?_⟩
  obtain ⟨dx, e1, hx, c2⟩ := rd1 r1 s1 c1
  obtain ⟨z, e2, c3⟩ := map1 c2
  exact ⟨F1, [dx], z, s1.dom, .cons hx .nil, e2, fun v H2 x => c3.res s1 x⟩
theorem snd_b2 (ok : Ok u gc c k n X xr W) {bb : BI} {p pos : Pos} (hh : k.hot = false) (hg : glB k.sc (biN bb) = true) (ha : Snd X xr W xa (evE u gc c a)) (hb : Snd X xr W xb (evE u gc c b)) (hs : notStar xa = true) (hs2 : notStar xb = true) :
    Snd X xr W (.Call (.Name (biN bb) p) [xa, xb] [] pos) (evE u gc c (.b2 bb a b)) := by
  obtain ⟨g1, g2⟩ := gl_of ok hg
  have hA := pa_cons ha.1 (pa_cons hb.1 pa_nil (star_cons hs2)) (star_cons hs)
  have hpl : (backTo pos (starEach [xb] X.env)).any (·.1) = false := star_any (by simp [hs2])
  have main : PE X (.Call (.Name (biN bb) p) [xa, xb] [] pos) (tCB (rL X.K (biD bb)) (tCons (tM X.K X.mg xr W (relO X.K) (evE u gc c a)) (tCons (tM X.K X.mg xr W (relO X.K) (evE u gc c b)) tNil))) := by
    have cr := bi_ok (X := X) (ok.calm hh) bb
    cases e : biF bb with
    | builtin id => rw [e] at cr; exact pe_callB cr g1 (ok.blt bb) (by rw [(boot_bi bb).1, e]) hA (boot_bi bb).2 g2 (star_cons hs) hpl
    | type T => rw [e] at cr; exact pe_callTy cr g1 (ok.blt bb) (by rw [(boot_bi bb).1, e]) hA (boot_bi bb).2 g2 (star_cons hs) hpl
    | _ => cases bb <;> cases e
  refine Snd.plain (main.wk fun σ H Q ⟨ρ, F, s, q⟩ => ?_) (fun _ => rfl) fun _ _ _ e => nomatch e
  simp only [evE] at q
  refine ⟨ρ, F, s, Ct.seq q fun o1 ρ1 _ v1 H1 F1 s1 t1 r1 c1 => ⟨ρ1, F1, s1, Ct.seq c1 fun o2 ρ2 _ v2 H2 F2 s2 t2 r2 c2 => ?_⟩⟩
  obtain ⟨dx, dy, e1, e2, hx, hy, c3⟩ := rd2 r1 s1 t2 s2 r2 c2
  obtain ⟨z, e3, c4⟩ := map1 c3
  exact ⟨F2, [dx, dy], z, s2.dom, .cons hx (.cons hy .nil), e3, fun v H3 x => c4.res s2 x⟩
theorem gcd_any : CallR X (.builtin "math.gcd") (rL X.K gcdD) := by
  intro pins s σ H xs us Q I r h
  obtain ⟨F, ds, z, dom, hp, e, q⟩ := h
  unfold gcdD at e
  split at e
  · cases e
    obtain ⟨x, y, rfl, h, h'⟩ := pd2 hp
    rw [h.int, h'.int] at r
    exact cr_gcd pins s σ H _ us Q I r ⟨_, _, rfl, q _ _ (.same (.int _))⟩
  · cases e
theorem snd_gcd (ok : Ok u gc c k n X xr W) {p pos : Pos} (hm : k.mb.contains "gcd" = true) (hg : glB k.sc "gcd" = true) (ha : Snd X xr W xa (evE u gc c a)) (hb : Snd X xr W xb (evE u gc c b)) (hs : notStar xa = true) (hs2 : notStar xb = true) :
    Snd X xr W (.Call (.Name "gcd" p) [xa, xb] [] pos) (evE u gc c (.gcd a b)) := by
  obtain ⟨g1, g2⟩ := gl_of ok hg
  have hA := pa_cons ha.1 (pa_cons hb.1 pa_nil (star_cons hs2)) (star_cons hs)
  have hpl : (backTo pos (starEach [xb] X.env)).any (·.1) = false := star_any (by simp [hs2])
  have main : PE X (.Call (.Name "gcd" p) [xa, xb] [] pos) (tCB (rL X.K gcdD) (tCons (tM X.K X.mg xr W (relO X.K) (evE u gc c a)) (tCons (tM X.K X.mg xr W (relO X.K) (evE u gc c b)) tNil))) :=
    pe_callBfun gcd_any g1 (ok.mb "gcd" "math.gcd" (by simpa using hm) rfl) hA g2 (star_cons hs) hpl
  refine Snd.plain (main.wk fun σ H Q ⟨ρ, F, s, q⟩ => ?_) (fun _ => rfl) fun _ _ _ e => nomatch e
  simp only [evE] at q
  refine ⟨ρ, F, s, Ct.seq q fun o1 ρ1 _ v1 H1 F1 s1 t1 r1 c1 => ⟨ρ1, F1, s1, Ct.seq c1 fun o2 ρ2 _ v2 H2 F2 s2 t2 r2 c2 => ?_⟩⟩
  obtain ⟨dx, dy, e1, e2, hx, hy, c3⟩ := rd2 r1 s1 t2 s2 r2 c2
  obtain ⟨z, e3, c4⟩ := map1 c3
  exact ⟨F2, [dx, dy], z, s2.dom, .cons hx (.cons hy .nil), e3, fun v H3 x => c4.res s2 x⟩
theorem isq_any : CallR X (.builtin "math.isqrt") (rL X.K isqD) := by
  intro pins s σ H xs us Q I r h
  obtain ⟨F, ds, z, dom, hp, e, q⟩ := h
  unfold isqD at e
  split at e
  · split at e
    · rename_i i hc
      cases e
      obtain ⟨x, rfl, h⟩ := pd1 hp
      rw [h.int] at r
      cases r with
      | cons r1 rt =>
        cases rt
        obtain ⟨t, rfl⟩ := r1
        have hl := hc.2
        exact PySem.call_function_meets PySem.W.MGF.kind_isqrt PySem.W.MGF.plain_isqrt PySem.W.MGF.entry_isqrt (PySem.W.MGF.args_isqrt _) (PySem.W.mg_run_isqrt i t (Int.not_lt.mpr hc.1) (by omega) (by omega)).meets ⟨.int _, H, I.tok _, ⟨_, rfl⟩, q _ _ (.same (.int _))⟩
    · cases e
  · cases e
theorem snd_isq (ok : Ok u gc c k n X xr W) {p pos : Pos} (hm : k.mb.contains "isqrt" = true) (hg : glB k.sc "isqrt" = true) (ha : Snd X xr W xa (evE u gc c a)) (hs : notStar xa = true) :
    Snd X xr W (.Call (.Name "isqrt" p) [xa] [] pos) (evE u gc c (.isq a)) := by
  obtain ⟨g1, g2⟩ := gl_of ok hg
  have hA := pa_cons ha.1 pa_nil (star_cons hs)
  have main : PE X (.Call (.Name "isqrt" p) [xa] [] pos) (tCB (rL X.K isqD) (tCons (tM X.K X.mg xr W (relO X.K) (evE u gc c a)) tNil)) :=
    pe_callBfun isq_any g1 (ok.mb "isqrt" "math.isqrt" (by simpa using hm) rfl) hA g2 (star_cons hs) rfl
  refine Snd.plain (main.wk fun σ H Q ⟨ρ, F, s, q⟩ => ?_) (fun _ => rfl) fun _ _ _ e => nomatch e
  simp only [evE] at q
  refine ⟨ρ, F, s, Ct.seq q fun o1 ρ1 _ v1 H1 F1 s1 t1 r1 c1 => ?_⟩
  obtain ⟨dx, e1, hx, c2⟩ := rd1 r1 s1 c1
  obtain ⟨z, e2, c3⟩ := map1 c2
  exact ⟨F1, [dx], z, s1.dom, .cons hx .nil, e2, fun v H2 x => c3.res s1 x⟩
theorem boot_ty (t : Ty) : bootBuiltins (tyS t) = some (.type (tyN t)) ∧ tyS t ≠ "__name__" := by
  cases t <;> exact ⟨by decide +kernel, by decide⟩
theorem snd_isi (ok : Ok u gc c k n X xr W) {t : Ty} {p p2 pos : Pos} (hg : glB k.sc "isinstance" = true) (hg2 : glB k.sc (tyS t) = true) (ha : Snd X xr W xa (evE u gc c a)) (hs : notStar xa = true) :
    Snd X xr W (.Call (.Name "isinstance" p) [xa, .Name (tyS t) p2] [] pos) (evE u gc c (.isi a t)) := by
  obtain ⟨g1, g2⟩ := gl_of ok hg
  obtain ⟨g3, g4⟩ := gl_of ok hg2
  have pt : PE X (.Name (tyS t) p2) (tC (.ty (tyN t))) := pe_bltn g3 (ok.blts.2.2 t) (boot_ty t).1 rfl (boot_ty t).2 g4
  have main := pe_callB (p := p) (pos := pos) (isi_ok (X := X) t (kit_all X.K t)) g1 ok.blts.2.1 (by decide +kernel) (pa_cons ha.1 (pa_cons pt pa_nil) (star_cons hs)) (by decide) g2 (star_cons hs) rfl
  refine Snd.plain (main.wk fun σ H Q ⟨ρ, F, s, q⟩ => ?_) (fun _ => rfl) fun _ _ _ e => nomatch e
  simp only [evE] at q
  refine ⟨ρ, F, s, Ct.seq q fun o1 ρ1 _ v1 H1 F1 s1 t1 r1 c1 => ?_⟩
  obtain ⟨dx, e1, hx, c2⟩ := rd1 r1 s1 c1
  obtain ⟨z, e2, c3⟩ := map1 c2
  exact ⟨F1, v1, dx, z, rfl, hx, e2, c3.val s1 (.bl _)⟩
/-! ### isinstance of a caught error -/
theorem call_isX (ok : Ok u gc c k n X xr W) (hk : k.xs = true) : CallR X (.builtin "isinstance") (fun xs H Q => ∃ (a : Addr) (y x : Str) (v : V) (cv : Value) (b : Bool), xs = [.ref a, v] ∧ xr a y ∧ ClsAt X x cv ∧ ClsV v cv ∧ u y x = some b ∧ Q (.bl b) H) := by
  intro pins s σ H xs us Q I r h
  obtain ⟨a, y, x, v, cv, b, rfl, hx, hc, hv, hu, q⟩ := h
  obtain ⟨⟨a', oe⟩, ⟨_, hp⟩, hall⟩ := ok.hotp hk
  obtain ⟨ea, C, hz0, ⟨vs, hd⟩, hC⟩ := hall a y hx
  have hz := hz0.zc
  dsimp only at ea
  subst ea
  obtain ⟨C', cv', h1, h2, h3, h4, h5⟩ := ok.sub y x b hu
  rw [hC] at h1; cases h1
  have ecv : cv' = cv := by
    obtain ⟨_, _, g1⟩ := hc
    obtain ⟨_, _, g2⟩ := h2
    rcases g1 with g1 | ⟨g1, g1', _⟩ <;> rcases g2 with g2 | ⟨g2, g2', _⟩
    · rw [g1] at g2; cases g2; rfl
    · rw [g1] at g2; cases g2
    · rw [g1] at g2; cases g2
    · rw [g1'] at g2'; cases g2'; rfl
  subst ecv
  cases r with
  | cons rx rr =>
    cases rr with
    | cons rt rr =>
      cases rr
      cases rx
      have ec := hv.eq rt
      subst ec
      obtain ⟨hget, _⟩ := I.pin (a, oe) (List.mem_append.mpr (.inl hp))
      have J : PySem.W.InstAt s.heap a oe C none := by
        obtain ⟨oc, od, oda, osl⟩ := oe
        obtain ⟨k1, k2⟩ := hz
        dsimp only at k1 k2 hd
        subst k1 k2 hd
        exact ⟨hget, rfl, rfl, trivial⟩
      exact PySem.W.kia_one (PySem.W.handS_kitx_exc h5.hg h5.hk h5.hs h5.hd h5.ha h5.hn h5.ht h5.hm) I.kIn J h4 (fun z => nomatch z) fun tk => ⟨.bl b, H, I.kept (t' := tk) fun _ _ z => z, rfl, q⟩
theorem snd_isx (ok : Ok u gc c k n X xr W) (hk : k.xs = true) {i : Nat} {y z : Str} {p p1 p2 pos : Pos} (hg : glB k.sc "isinstance" = true) (hv : isVar k i y = true) (hg2 : glB k.sc z = true) :
    Snd X xr W (.Call (.Name "isinstance" p) [.Name y p1, .Name z p2] [] pos) (evE u gc c (.isx i z)) := by
  obtain ⟨g1, g2⟩ := gl_of ok hg
  obtain ⟨g3, g4⟩ := gl_of ok hg2
  obtain ⟨h1, h2, h3, h4⟩ := vis_of ok hv
  -- the class's own reading: what the name stands for, if it is a class
  have pz : PE X (.Name z p2) (fun σ H Q => ∃ v cv, ClsAt X z cv ∧ ClsV v cv ∧ Q v H) := by
    refine ⟨fun pins s σ H Q I ⟨v, cv, ⟨v', hv', hc⟩, hv2, q⟩ => ?_⟩
    have rv : RelV v cv := by cases hv2 <;> rfl
    rcases hc with hc | ⟨hc, hb, hn⟩
    · exact ld_glob I g3 hc ⟨v, H, I, rv, q⟩ g4
    · exact ld_blt I g3 hc hb ⟨v, H, I, rv, q⟩ hn g4
  have main := pe_callB (p := p) (pos := pos) (call_isX ok hk) g1 ok.blts.2.1 (by decide +kernel) (pa_cons (pe_var (pos := p1) h1 h2 h3 h4) (pa_cons pz pa_nil)) (by decide) g2 rfl rfl
  refine Snd.plain (main.wk fun σ H Q ⟨ρ, F, s, q⟩ => ?_) (fun _ => rfl) fun _ _ _ e => nomatch e
  simp only [evE] at q
  split at q
  · rename_i yc e
    obtain ⟨b, e2, c1⟩ := map1 q
    obtain ⟨a, h5, h6⟩ := s.ex _ _ e
    obtain ⟨C, cv, _, ⟨v, f2, f3⟩, _⟩ := ok.sub _ _ _ e2
    exact ⟨_, h5, v, cv, ⟨v, f2, f3⟩, f2, a, yc, z, v, cv, b, rfl, h6, ⟨v, f2, f3⟩, f2, e2, c1.val s (.bl _)⟩
  · exact q.not.elim
/-! ### append, pop -/
theorem OwnAt.set {ρ : Env} {σ : L2.St} {i : Nat} {b : Bool} {xs ys : List D} (e : ρ[i]? = some (.ol b xs)) {j : Nat} {a : Addr} (h : OwnAt (ρ.set i (.ol b ys)) σ j a) : OwnAt ρ σ j a := by
  obtain ⟨o, h2⟩ := h
  rcases o.set with ⟨e1, _⟩ | ⟨_, q⟩
  · subst e1; exact ⟨.inl ⟨b, xs, e⟩, h2⟩
  · exact ⟨q, h2⟩
/-- the list of the own slot i is written -/
theorem put_own {ρ : Env} {σ : L2.St} {H : Hp} {F : Addr → Prop} {i : Nat} {b : Bool} {xs ys : List D} {a : Addr} {ws : List V} (s : SR X.K xr ρ σ H F) (e : ρ[i]? = some (.ol b xs)) (h : σ[i]? = some (some (.ref a))) (r : RpA X.K H F ws ys) :
    SR X.K xr (ρ.set i (.ol b ys)) σ (upd H a (.lst ws)) F ∧ Stp ρ σ H F (ρ.set i (.ol b ys)) σ (upd H a (.lst ws)) F := by
  obtain ⟨a', vs, h1, h2, h3, h4⟩ := s.ol i b xs e
  rw [h] at h1; cases h1
  have me : OwnAt ρ σ i a := ⟨.inl ⟨b, xs, e⟩, h⟩
  have fz : ∀ x, F x → upd H a (.lst ws) x = H x := fun x f => upd_ne fun z => h3 (z ▸ f)
  have oth : ∀ x, H x ≠ none → upd H a (.lst ws) x ≠ none := fun x hx => by
    by_cases z : x = a
    · subst z; rw [upd_same]; exact fun z => nomatch z
    · rw [upd_ne z]; exact hx
  have tabU : ∀ x, GxR.TabG H x → GxR.TabG (upd H a (.lst ws)) x := fun x hx => tab_eq hx (upd_ne fun z => by
    obtain ⟨ps, e1, _⟩ := hx
    rw [z, h2] at e1; cases e1)
  refine ⟨⟨by simp [s.len], fun x f => by rw [fz x f]; exact s.dom x f, fun j d q => ?_, fun j b' zs q => ?_, fun j b' kvs q => ?_, fun j x q => ?_, fun j l x o1 o2 => s.ap j l x (o1.set e) (o2.set e), fun x f => (s.ntb x f).of (fz x f), fun x hx => tabU x (s.tb x hx)⟩,
    ⟨fun _ f => f, fun x hx _ no => upd_ne fun z => no (z ▸ ⟨i, me⟩), tabU, fun x ⟨j, o⟩ => .inl ⟨j, o.set e⟩, oth, fun _ f => .inl f, fun j zs q => ?_⟩⟩
  · rcases getS q with ⟨_, q, _⟩ | ⟨_, q⟩
    · cases q
    · obtain ⟨v, h1, h2⟩ := s.sh j d q
      exact ⟨v, h1, h2.mono (fun _ f => f) fz⟩
  · rcases getS q with ⟨e1, q2, _⟩ | ⟨e1, q⟩
    · subst e1; cases q2
      exact ⟨a, ws, h, upd_same, h3, r.mono (fun _ f => f) fz⟩
    · obtain ⟨a2, vs2, h5, h6, h7, h8⟩ := s.ol j b' zs q
      refine ⟨a2, vs2, h5, ?_, h7, h8.mono (fun _ f => f) fz⟩
      rw [upd_ne]; exact h6
      intro z; subst z
      exact e1 (s.ap i j _ me ⟨.inl ⟨b', zs, q⟩, h5⟩)
  · rcases getS q with ⟨_, q, _⟩ | ⟨_, q⟩
    · cases q
    · exact s.od j b' kvs q
  · rcases getS q with ⟨_, q, _⟩ | ⟨_, q⟩
    · cases q
    · exact s.ex j x q
  · rcases getS q with ⟨e1, q2, _⟩ | ⟨_, q⟩
    · subst e1; cases q2; exact ⟨rfl, xs, e⟩
    · exact ⟨rfl, zs, q⟩
theorem tyV_own {ρ : Env} {σ : L2.St} {H : Hp} {F : Addr → Prop} {i : Nat} {b : Bool} {xs : List D} (s : SR X.K xr ρ σ H F) (e : ρ[i]? = some (.ol b xs)) : ∃ a vs, σ[i]? = some (some (.ref a)) ∧ H a = some (.lst vs) ∧ RpA X.K H F vs xs ∧ tyV X.K "list" (.ref a) H := by
  obtain ⟨a, vs, h1, h2, h3, h4⟩ := s.ol i b xs e
  exact ⟨a, vs, h1, h2, h4, .inl ⟨rfl, _, .inl (.inl h2)⟩⟩
theorem snd_app (ok : Ok u gc c k n X xr W) {i : Nat} {y : Str} {p apos cpos : Pos} (hv : isVar k i y = true) (hl : (apos.endLine == cpos.line) = true) (ha : Snd X xr W xa (evE u gc c a)) (hs : notStar xa = true) :
    Snd X xr W (.Call (.Attribute (.Name y p) "append" apos) [xa] [] cpos) (evE u gc c (.app i a)) := by
  obtain ⟨h1, h2, h3, h4⟩ := vis_of ok hv
  have hfew : ((backTo cpos (starEach [xa] X.env)).all (fun x => !x.1) && (backToKw cpos (keywordEach [] X.env)).all (fun x => x.1.isSome) && decide ([xa].length + ([] : List Keyword).length + (if ([] : List Keyword).isEmpty then 0 else 1) < 30)) = true := by
    rw [star_cons hs]; rfl
  have main := pe_bm (X := X) PySem.F.plainAttrs_list PySem.F.slot_list_append PySem.F.type_list_append mt_append (pe_var (pos := p) h1 h2 h3 h4) (pa_cons ha.1 pa_nil (star_cons hs)) rfl hfew hl (star_cons hs) rfl
  refine Snd.plain (main.wk fun σ H Q ⟨ρ, F, s, q⟩ => ?_) (fun _ => rfl) fun _ _ _ e => nomatch e
  simp only [evE] at q
  split at q
  · rename_i b0 xs0 e0
    obtain ⟨a0, vs0, g1, g2, g3, g4⟩ := tyV_own s e0
    refine ⟨_, g1, g4, ρ, F, s, Ct.seqF q fun d v ρ1 H1 F1 s1 t1 r1 c1 => ?_⟩
    split at c1
    · rename_i b1 xs1 e1
      obtain ⟨hz, c2⟩ := ifc c1
      obtain ⟨a1, vs1, f1, f2, f3, f4⟩ := tyV_own s1 e1
      rw [g1] at f1; cases f1
      refine ⟨_, vs1, v, rfl, rfl, f2, by rw [← line_eq, f3.length]; exact hz, ?_⟩
      obtain ⟨s2, t2⟩ := put_own (ys := xs1 ++ [d]) s1 e1 g1 (f3.append (.one r1))
      exact c2 _ _ F1 s2 t2 .non
    · exact c1.not.elim
  · exact q.not.elim
theorem snd_pop (ok : Ok u gc c k n X xr W) {i : Nat} {y : Str} {p apos cpos : Pos} (hv : isVar k i y = true) (hl : (apos.endLine == cpos.line) = true) :
    Snd X xr W (.Call (.Attribute (.Name y p) "pop" apos) [] [] cpos) (evE u gc c (.pop i)) := by
  obtain ⟨h1, h2, h3, h4⟩ := vis_of ok hv
  have main := pe_bm0 (X := X) (cpos := cpos) PySem.F.plainAttrs_list PySem.F.slot_list_pop PySem.F.type_list_pop mt_pop (pe_var (pos := p) h1 h2 h3 h4) rfl hl
  refine Snd.plain (main.wk fun σ H Q ⟨ρ, F, s, q⟩ => ?_) (fun _ => rfl) fun _ _ _ e => nomatch e
  simp only [evE] at q
  split at q
  · rename_i b0 xs e0
    obtain ⟨a0, vs, g1, g2, g3, g4⟩ := tyV_own s e0
    obtain ⟨d, e1, c1⟩ := map1 q
    refine ⟨_, g1, g4, ?_⟩
    have e2 : xs[xs.length - 1]? = some d := by rw [← e1, List.getLast?_eq_getElem?]
    obtain ⟨w, f1, f2⟩ := g3.at e2
    refine ⟨_, vs, w, rfl, rfl, g2, by rw [g3.length]; exact f1, ?_⟩
    obtain ⟨s2, t2⟩ := put_own (ys := xs.dropLast) s e0 g1 g3.dropLast
    exact c1 _ _ F s2 t2 (t2.rp s f2)
  · exact q.not.elim
/-! ### index, reversed -/
theorem base_of {xa : PySem.Expr} {m : Str} {env : PySem.Env} (hn : notAttr xa = true) : attributeBase xa m env (eval xa env) = eval xa env := by
  unfold notAttr at hn
  split at hn
  · rfl
  · rename_i f _ _ _ _
    cases f <;> rfl
  · cases hn
theorem idxL_some {y : D} : ∀ {xs : List D} {j : Nat}, idxL y xs = some j → ∃ z, xs[j]? = some z ∧ PyData.eqv z y = true ∧ ∀ (m : Nat) (z' : D), m < j → xs[m]? = some z' → PyData.eqv z' y = false
  | [], j, h => by simp [idxL] at h
  | x :: xs, j, h => by
    simp only [idxL] at h
    split at h
    · cases h; exact ⟨x, rfl, by assumption, fun m _ hm => by omega⟩
    · rename_i hx
      obtain ⟨i, e, rfl⟩ := Option.map_eq_some_iff.mp h
      obtain ⟨z, e1, e2, e3⟩ := idxL_some e
      refine ⟨z, e1, e2, fun m z' hm hz => ?_⟩
      cases m with
      | zero => cases hz; simpa using hx
      | succ m => exact e3 m z' (by omega) hz
theorem snd_idx (ok : Ok u gc c k n X xr W) {apos cpos : Pos} (hn : notAttr xa = true) (hl : (apos.endLine == cpos.line) = true) (ha : Snd X xr W xa (evE u gc c a)) (hb : Snd X xr W xb (evE u gc c b)) (hs : notStar xb = true) :
    Snd X xr W (.Call (.Attribute xa "index" apos) [xb] [] cpos) (evE u gc c (.idx a b)) := by
  have hfew : ((backTo cpos (starEach [xb] X.env)).all (fun x => !x.1) && (backToKw cpos (keywordEach [] X.env)).all (fun x => x.1.isSome) && decide ([xb].length + ([] : List Keyword).length + (if ([] : List Keyword).isEmpty then 0 else 1) < 30)) = true := by
    rw [star_cons hs]; rfl
  have main : PE X (.Call (.Attribute xa "index" apos) [xb] [] cpos) (tBM X.K "list" (rIndexD X.K) (tM X.K X.mg xr W (relO X.K) (evE u gc c a)) (tCons (tM X.K X.mg xr W (relO X.K) (evE u gc c b)) tNil)) := by
    exact pe_bm (X := X) PySem.F.plainAttrs_list PySem.F.slot_list_index PySem.F.type_list_index (mt_indexD ok.units) ha.1 (pa_cons hb.1 pa_nil (star_cons hs)) (base_of hn) hfew hl (star_cons hs) rfl
  refine Snd.plain (main.wk fun σ H Q ⟨ρ, F, s, q⟩ => ?_) (fun _ => rfl) fun _ _ _ e => nomatch e
  simp only [evE] at q
  refine ⟨ρ, F, s, Ct.seq q fun o1 ρ1 _ v1 H1 F1 s1 t1 r1 c1 => ?_⟩
  split at c1
  · rename_i xs0 e0
    have hx0 := RpO.rd r1 s1 e0
    obtain ⟨a0, ys0, rfl, g1, g2⟩ := hx0.list
    refine ⟨.inl ⟨rfl, ys0, g1⟩, ρ1, F1, s1, Ct.seq c1 fun o2 ρ2 _ v2 H2 F2 s2 t2 r2 c2 => ?_⟩
    obtain ⟨dx, dy, e1, e2, hx, hy, c3⟩ := rd2 r1 s1 t2 s2 r2 c2
    split at c3
    · rename_i xs
      split at c3
      · rename_i hf
        simp only [Bool.and_eq_true] at hf
        obtain ⟨j, e3, c4⟩ := map1 c3
        obtain ⟨z, f1, f2, f3⟩ := idxL_some e3
        exact ⟨a0, v2, dy, xs, j, z, rfl, rfl, hx.dp, hy.dp, shaped_of' hx (flatL hf.2), shaped_of hy hf.1, f1, f2, f3, c4.val s2 (.int _)⟩
      · exact c3.not.elim
    · exact c3.not.elim
  · exact c1.not.elim
/-- l.count(x) -/
def rCntD (K : PySem.W.Frag) : V → List V → Hp → VK → Prop := fun x xs H Q => ∃ (a : Addr) (y : V) (d : D) (ds : List D), x = V.ref a ∧ xs = [y] ∧ Dp K H (V.ref a) (.list ds) ∧ Dp K H y d ∧
  SeqAt.shaped (.list ds) = true ∧ SeqAt.shaped d = true ∧ Q (.int ((ds.countP fun z => PyData.eqv z d : Nat) : Int)) H
theorem mt_cntD (hu : X.A.units + 65 < cLine) : MtR X "list.count" (rCntD X.K) := by
  intro pins s σ H x xs v us Q I rx rxs h
  obtain ⟨a, y, d, ds, rfl, rfl, hl, hy, sl, sd, q⟩ := h
  cases rx
  cases rxs with
  | cons ry rt =>
    rename_i uy ut
    cases rt
    obtain ⟨bs, r1⟩ := Dp.reads I d y uy hy ry
    have hxs : PyData.canLayAll0 ds = true := SeqAt.canLay_of_shaped sl
    have hroom : X.A.units + 1 + min (PyData.depthAll ds) d.depth < cLine := PyProof.Rows.room_in_shaped sd hu
    cases hl with
    | lst hs ha =>
      obtain ⟨its, rv, ⟨⟨cls, dd, data, sls⟩, n, ho, hc, hdn, hdt⟩, hlen⟩ := I.list hs
      simp only at hc hdt
      subst hc hdt
      obtain ⟨as, h4⟩ := Dp.readsAll I ds _ its ha rv
      exact PySem.SeqAt.count_list_data (vs := its.toArray) ⟨_, ho, rfl, _, rfl⟩ (show ReadsAll s.heap its.toArray.toList ds as from h4) r1 (PyData.plainAll_of_canLay0 _ hxs) (PyData.plain_of_canLay0 _ (SeqAt.canLay_of_shaped sd)) hroom ⟨.int _, H, I.tok _, ⟨_, rfl⟩, q⟩
theorem snd_cnt (ok : Ok u gc c k n X xr W) {apos cpos : Pos} (hn : notAttr xa = true) (hl : (apos.endLine == cpos.line) = true) (ha : Snd X xr W xa (evE u gc c a)) (hb : Snd X xr W xb (evE u gc c b)) (hs : notStar xb = true) :
    Snd X xr W (.Call (.Attribute xa "count" apos) [xb] [] cpos) (evE u gc c (.cnt a b)) := by
  have hfew : ((backTo cpos (starEach [xb] X.env)).all (fun x => !x.1) && (backToKw cpos (keywordEach [] X.env)).all (fun x => x.1.isSome) && decide ([xb].length + ([] : List Keyword).length + (if ([] : List Keyword).isEmpty then 0 else 1) < 30)) = true := by
    rw [star_cons hs]; rfl
  have main : PE X (.Call (.Attribute xa "count" apos) [xb] [] cpos) (tBM X.K "list" (rCntD X.K) (tM X.K X.mg xr W (relO X.K) (evE u gc c a)) (tCons (tM X.K X.mg xr W (relO X.K) (evE u gc c b)) tNil)) := by
    exact pe_bm (X := X) PySem.F.plainAttrs_list PySem.F.slot_list_count PySem.F.type_list_count (mt_cntD ok.units) ha.1 (pa_cons hb.1 pa_nil (star_cons hs)) (base_of hn) hfew hl (star_cons hs) rfl
  refine Snd.plain (main.wk fun σ H Q ⟨ρ, F, s, q⟩ => ?_) (fun _ => rfl) fun _ _ _ e => nomatch e
  simp only [evE] at q
  refine ⟨ρ, F, s, Ct.seq q fun o1 ρ1 _ v1 H1 F1 s1 t1 r1 c1 => ?_⟩
  split at c1
  · rename_i xs0 e0
    have hx0 := RpO.rd r1 s1 e0
    obtain ⟨a0, ys0, rfl, g1, g2⟩ := hx0.list
    refine ⟨.inl ⟨rfl, ys0, g1⟩, ρ1, F1, s1, Ct.seq c1 fun o2 ρ2 _ v2 H2 F2 s2 t2 r2 c2 => ?_⟩
    obtain ⟨dx, dy, e1, e2, hx, hy, c3⟩ := rd2 r1 s1 t2 s2 r2 c2
    split at c3
    · rename_i xs
      split at c3
      · rename_i hf
        simp only [Bool.and_eq_true] at hf
        exact ⟨a0, v2, dy, xs, rfl, rfl, hx.dp, hy.dp, shaped_of' hx (flatL hf.2), shaped_of hy hf.1, c3.val s2 (.int _)⟩
      · exact c3.not.elim
    · exact c3.not.elim
  · exact c1.not.elim
/-! ### t.count(x), t.index(x) of a made tuple -/
/-- a tuple that has no dict -/
def BareT (K : PySem.W.Frag) (x : V) (H : Hp) : Prop := ∃ a xs, x = .ref a ∧ (TupAt H a xs ∨ RX.KT K a xs)
theorem BareT.is {pins : List (Addr × Obj)} {σ : L2.St} {H : Hp} {s : Shared} {x : V} {v : Value} (hm : smode = true) (I : Inv X pins σ H s) (r : RelV x v) (h : BareT X.K x H) :
    s.TypeIs v "tuple" ∧ ∀ a, v = .ref a → ∃ ob, s.heap.get? a = some ob ∧ ob.dict = none := by
  obtain ⟨a, xs, rfl, h⟩ := h
  obtain rfl : v = .ref a := r
  have : ∃ o, s.heap.get? a = some o ∧ o.dict = none ∧ o.cls = .type "tuple" := by
    rcases h with h | ⟨o, its, n, h1, h2, h3, _⟩
    · exact h.bare hm I.hok
    · exact ⟨o, I.kIn a o h1, h3, h2⟩
  obtain ⟨o, e1, e2, e3⟩ := this
  exact ⟨⟨o, e1, e3⟩, fun b z => by cases z; exact ⟨o, e1, e2⟩⟩
def tMetT (K : PySem.W.Frag) (r : V → List V → Hp → VK → Prop) (to : TE) (t : TA) : TE := fun σ H Q => to σ H fun x H1 => BareT K x H1 ∧ t σ H1 fun xs H2 => r x xs H2 Q
theorem pe_metT {o e : PySem.Expr} {to : TE} {t : TA} {name : Str} {apos cpos : Pos} {id : String} {r : V → List V → Hp → VK → Prop} (hm : smode = true) (slot : PySem.Slot "tuple" name id) (hty : typeOf (.builtin id) = pure (.type "method_descriptor")) (hr : MtR X id r) (ho : PE X o to) (ha : PA X [e] t)
    (hbase : attributeBase o name X.env (eval o X.env) = eval o X.env)
    (hfew : ((backTo cpos (starEach [e] X.env)).all (fun x => !x.1) && (backToKw cpos (keywordEach [] X.env)).all (fun x => x.1.isSome) && decide ([e].length + ([] : List Keyword).length + (if ([] : List Keyword).isEmpty then 0 else 1) < 30)) = true)
    (hline : (apos.endLine == cpos.line) = true) (hs : starEach [e] X.env = (false, eval e X.env) :: starEach [] X.env) :
    PE X (.Call (.Attribute o name apos) [e] [] cpos) (tMetT X.K r to t) :=
  ⟨fun pins s σ H Q I h => wpAny_Call_method_late hbase hfew hline rfl (thn (ho.run pins s σ H _ I h) fun v s1 ⟨x, H1, I1, r1, bt, q1⟩ => by
    obtain ⟨z1, z2⟩ := bt.is hm I1 r1
    refine ⟨"tuple", id, PySem.F.plainAttrs_tuple, slot, hty, z1, z2, ?_⟩
    have hA := ha.run cpos pins s1 σ H1 _ I1 q1
    rw [hs] at hA ⊢
    exact Calls.callWith_builtin rfl (Calls.evalArgs_plain (thn hA fun us s2 ⟨vs, H2, I2, r2, q2⟩ => hr pins s2 σ H2 x vs v us Q I2 r1 r2 q2)))⟩
def rCntT (K : PySem.W.Frag) : V → List V → Hp → VK → Prop := fun x xs H Q => ∃ (a : Addr) (y : V) (d : D) (ds : List D), x = V.ref a ∧ xs = [y] ∧ Dp K H (V.ref a) (.tuple ds) ∧ Dp K H y d ∧
  SeqAt.shaped (.tuple ds) = true ∧ SeqAt.shaped d = true ∧ Q (.int ((ds.countP fun z => PyData.eqv z d : Nat) : Int)) H
theorem mt_cntT (hu : X.A.units + 65 < cLine) : MtR X "tuple.count" (rCntT X.K) := by
  intro pins s σ H x xs v us Q I rx rxs h
  obtain ⟨a, y, d, ds, rfl, rfl, hl, hy, sl, sd, q⟩ := h
  cases rx
  cases rxs with
  | cons ry rt =>
    rename_i uy ut
    cases rt
    obtain ⟨bs, r1⟩ := Dp.reads I d y uy hy ry
    have plain := SeqAt.canLay_of_shaped sl
    have room : X.A.units + 1 + min (PyData.depthAll ds) d.depth < cLine := PyProof.Rows.room_in_shaped sd hu
    cases hl with
    | tup hs ha =>
      obtain ⟨its, rv, p1, hz⟩ := I.tuple hs
      obtain ⟨as, h4⟩ := Dp.readsAll I ds _ its ha rv
      exact PySem.SeqAt.count_tuple_data (vs := its.toArray) p1 (show ReadsAll s.heap its.toArray.toList ds as from h4) r1 (PyData.plainAll_of_canLay0 _ plain) (PyData.plain_of_canLay0 _ (SeqAt.canLay_of_shaped sd)) room ⟨.int _, H, I.tok _, ⟨_, rfl⟩, q⟩
theorem snd_cntT (ok : Ok u gc c k n X xr W) {apos cpos : Pos} (hm : smode = true) (hn : notAttr xa = true) (hl : (apos.endLine == cpos.line) = true) (ha : Snd X xr W xa (evE u gc c a)) (hb : Snd X xr W xb (evE u gc c b)) (hs : notStar xb = true) :
    Snd X xr W (.Call (.Attribute xa "count" apos) [xb] [] cpos) (evE u gc c (.cntT a b)) := by
  have hfew : ((backTo cpos (starEach [xb] X.env)).all (fun x => !x.1) && (backToKw cpos (keywordEach [] X.env)).all (fun x => x.1.isSome) && decide ([xb].length + ([] : List Keyword).length + (if ([] : List Keyword).isEmpty then 0 else 1) < 30)) = true := by
    rw [star_cons hs]; rfl
  have main : PE X (.Call (.Attribute xa "count" apos) [xb] [] cpos) (tMetT X.K (rCntT X.K) (tM X.K X.mg xr W (relO X.K) (evE u gc c a)) (tCons (tM X.K X.mg xr W (relO X.K) (evE u gc c b)) tNil)) := by
    exact pe_metT (X := X) hm PySem.F.slot_tuple_count PySem.F.type_tuple_count (mt_cntT ok.units) ha.1 (pa_cons hb.1 pa_nil (star_cons hs)) (base_of hn) hfew hl (star_cons hs)
  refine Snd.plain (main.wk fun σ H Q ⟨ρ, F, s, q⟩ => ?_) (fun _ => rfl) fun _ _ _ e => nomatch e
  simp only [evE] at q
  refine ⟨ρ, F, s, Ct.seq q fun o1 ρ1 _ v1 H1 F1 s1 t1 r1 c1 => ?_⟩
  split at c1
  · rename_i xs _
    have r1' : Rp X.K H1 F1 v1 (.tuple xs) := r1
    obtain ⟨a0, ys0, rfl, g1, g2⟩ := r1'.tupB
    refine ⟨⟨a0, ys0, rfl, g1⟩, ρ1, F1, s1, Ct.seq c1 fun o2 ρ2 _ v2 H2 F2 s2 t2 r2 c2 => ?_⟩
    have rx : Rp X.K H2 F2 (.ref a0) (.tuple xs) := t2.rp s1 r1'
    obtain ⟨dy, e2, hy, c3⟩ := rd1 r2 s2 c2
    obtain ⟨hf, c4⟩ := ifc c3
    simp only [Bool.and_eq_true] at hf
    exact ⟨a0, v2, dy, xs, rfl, rfl, rx.dp, hy.dp, shaped_of' (Rr.of rx) (by show flatAll deep xs = true; exact hf.2), shaped_of hy hf.1, c4.val s2 (.int _)⟩
  · exact c1.not.elim
def rIdxT (K : PySem.W.Frag) : V → List V → Hp → VK → Prop := fun x xs H Q => ∃ (a : Addr) (ns : List Int) (i : Int), x = V.ref a ∧ xs = [.int i] ∧ SqT K H a (ns.map V.int) ∧ i ∈ ns ∧ Q (.int ((ns.idxOf i : Nat) : Int)) H
theorem mt_idxT : MtR X "tuple.index" (rIdxT X.K) := by
  intro pins s σ H x xs v us Q I rx rxs h
  obtain ⟨a, ns, i, rfl, rfl, hs, hi, q⟩ := h
  cases rx
  obtain ⟨uy, rfl, ry⟩ := Vals.one rxs
  obtain ⟨t, rfl⟩ := ry
  obtain ⟨its, rv, p1, hz⟩ := I.tuple hs
  exact PySem.SeqAt.tuple_index_ints (isTupleOf p1) rv.ints hi ⟨.int _, H, I.tok _, ⟨_, rfl⟩, q⟩
theorem snd_idxT (ok : Ok u gc c k n X xr W) {apos cpos : Pos} (hm : smode = true) (hn : notAttr xa = true) (hl : (apos.endLine == cpos.line) = true) (ha : Snd X xr W xa (evE u gc c a)) (hb : Snd X xr W xb (evE u gc c b)) (hs : notStar xb = true) :
    Snd X xr W (.Call (.Attribute xa "index" apos) [xb] [] cpos) (evE u gc c (.idxT a b)) := by
  have hfew : ((backTo cpos (starEach [xb] X.env)).all (fun x => !x.1) && (backToKw cpos (keywordEach [] X.env)).all (fun x => x.1.isSome) && decide ([xb].length + ([] : List Keyword).length + (if ([] : List Keyword).isEmpty then 0 else 1) < 30)) = true := by
    rw [star_cons hs]; rfl
  have main : PE X (.Call (.Attribute xa "index" apos) [xb] [] cpos) (tMetT X.K (rIdxT X.K) (tM X.K X.mg xr W (relO X.K) (evE u gc c a)) (tCons (tM X.K X.mg xr W (relO X.K) (evE u gc c b)) tNil)) := by
    exact pe_metT (X := X) hm PySem.F.slot_tuple_index PySem.F.type_tuple_index mt_idxT ha.1 (pa_cons hb.1 pa_nil (star_cons hs)) (base_of hn) hfew hl (star_cons hs)
  refine Snd.plain (main.wk fun σ H Q ⟨ρ, F, s, q⟩ => ?_) (fun _ => rfl) fun _ _ _ e => nomatch e
  simp only [evE] at q
  refine ⟨ρ, F, s, Ct.seq q fun o1 ρ1 _ v1 H1 F1 s1 t1 r1 c1 => ?_⟩
  split at c1
  · rename_i xs _
    have r1' : Rp X.K H1 F1 v1 (.tuple xs) := r1
    obtain ⟨a0, ys0, rfl, g1, g2⟩ := r1'.tupB
    refine ⟨⟨a0, ys0, rfl, g1⟩, ρ1, F1, s1, Ct.seq c1 fun o2 ρ2 _ v2 H2 F2 s2 t2 r2 c2 => ?_⟩
    have rx : Rp X.K H2 F2 (.ref a0) (.tuple xs) := t2.rp s1 r1'
    split at c2
    · rename_i ns i hns _
      have r2' : Rp X.K H2 F2 v2 (.int i) := r2
      cases r2'
      obtain ⟨hf, c4⟩ := ifc c2
      obtain ⟨b, zs, e, g3, g4⟩ := (Rr.of rx).tuple
      cases e
      rw [g4.ints hns] at g3
      exact ⟨a0, ns, i, rfl, rfl, g3, hf, c4.val s2 (.int _)⟩
    · exact c2.not.elim
  · exact c1.not.elim
theorem snd_lrev (ok : Ok u gc c k n X xr W) {p p2 pos pos2 : Pos} (hh : k.hot = false) (hg : glB k.sc "list" = true) (hg2 : glB k.sc "reversed" = true) (ha : Snd X xr W xa (evE u gc c a)) (hs : notStar xa = true) :
    Snd X xr W (.Call (.Name "list" p) [.Call (.Name "reversed" p2) [xa] [] pos2] [] pos) (evE u gc c (.lrev a)) := by
  obtain ⟨g1, g2⟩ := gl_of ok hg
  obtain ⟨g3, g4⟩ := gl_of ok hg2
  refine Snd.plain ((pe_listRev (ok.calm hh) g1 (ok.blt .list) g3 (ok.rev "reversed" (by simp [moreL])) ha.1 (star_cons hs)).wk fun σ H Q ⟨ρ, F, s, q⟩ => ?_) (fun _ => rfl) fun _ _ _ e => nomatch e
  simp only [evE] at q
  refine ⟨ρ, F, s, Ct.seq q fun o1 ρ1 _ v1 H1 F1 s1 t1 r1 c1 => ?_⟩
  split at c1
  · rename_i xs e0
    obtain ⟨a0, ys, rfl, g1, g2⟩ := (RpO.rd r1 s1 e0).list
    exact ⟨a0, ys, rfl, g1, fun p hp => c1.res s1 (.lst hp s1.dom g2.reverse)⟩
  · exact c1.not.elim
theorem keysD_of {K : PySem.W.Frag} {H : Hp} {F : Addr → Prop} : ∀ {ws : List V} {ds : List D} {ks : List (Int ⊕ Str)}, RpA K H F ws ds → keysD ds = some ks → ws = ks.map kV
  | _, _, _, .nil, e => by simp [keysD] at e; subst e; rfl
  | _, _, _, .cons a r, e => by
    simp only [keysD] at e
    obtain ⟨k, e1, e2⟩ := Option.bind_eq_some_iff.mp e
    obtain ⟨ks, e3, rfl⟩ := Option.map_eq_some_iff.mp e2
    rw [keysD_of r e3, List.map_cons]
    congr 1
    cases a <;> simp [keyD] at e1 <;> subst e1 <;> rfl
theorem pairsK_of {K : PySem.W.Frag} {H : Hp} {F : Addr → Prop} : ∀ {ys : List V} {xs : List D} {ks : List (List (Int ⊕ Str))}, RpA K H F ys xs → pairsK xs = some ks → ∃ (ps : List Addr) (kvs : List (List L2.Key × Addr × V)), ys = ps.map V.ref ∧
    Paired (fun p kv => SqT K H p [.ref kv.2.1, kv.2.2] ∧ SqT K H kv.2.1 (kv.1.map kV)) ps kvs ∧ kvs.map (·.1) = ks
  | _, _, _, .nil, e => by simp [pairsK] at e; subst e; exact ⟨[], [], rfl, .nil, rfl⟩
  | _, _, _, .cons (d := d) a r, e => by
    simp only [pairsK] at e
    obtain ⟨k, e1, e2⟩ := Option.bind_eq_some_iff.mp e
    obtain ⟨ks, e3, rfl⟩ := Option.map_eq_some_iff.mp e2
    obtain ⟨ps, kvs, rfl, h1, h2⟩ := pairsK_of r e3
    unfold pairK at e1
    split at e1
    · rename_i kd d2
      obtain ⟨p, zs, rfl, h3, h4⟩ := (Rr.of a).tuple
      cases h4 with
      | cons r1 h4 =>
        cases h4 with
        | cons r2 h4 =>
          cases h4
          obtain ⟨b, ws, rfl, h5, h6⟩ := (Rr.of r1).tuple
          rw [keysD_of h6 e1] at h5
          exact ⟨p :: ps, (k, b, _) :: kvs, rfl, .cons ⟨h3, h5⟩ h1, by rw [List.map_cons, h2]⟩
    · cases e1
theorem snd_ldc (ok : Ok u gc c k n X xr W) {p p2 pos pos2 : Pos} (hh : k.hot = false) (hg : glB k.sc "len" = true) (hg2 : glB k.sc "dict" = true) (ha : Snd X xr W xa (evE u gc c a)) (hs : notStar xa = true) :
    Snd X xr W (.Call (.Name "len" p) [.Call (.Name "dict" p2) [xa] [] pos2] [] pos) (evE u gc c (.ldc a)) := by
  obtain ⟨g1, g2⟩ := gl_of ok hg
  obtain ⟨g3, g4⟩ := gl_of ok hg2
  refine Snd.plain ((pe_lenDict (ok.calm hh) ok.units g1 (ok.blt .len) g3 (ok.rev "dict" (by simp [moreL])) ha.1 (star_cons hs)).wk fun σ H Q ⟨ρ, F, s, q⟩ => ?_) (fun _ => rfl) fun _ _ _ e => nomatch e
  simp only [evE] at q
  refine ⟨ρ, F, s, Ct.seq q fun o1 ρ1 _ v1 H1 F1 s1 t1 r1 c1 => ?_⟩
  split at c1
  · rename_i xs e0
    obtain ⟨a0, ys, rfl, g1, g2⟩ := (RpO.rd r1 s1 e0).list
    obtain ⟨ks, e1, c2⟩ := map1 c1
    obtain ⟨ps, kvs, rfl, h1, rfl⟩ := pairsK_of g2 e1
    exact ⟨a0, ps, kvs, rfl, g1, h1, c2.val s1 (.int _)⟩
  · exact c1.not.elim
end
end RX

end
section
set_option Elab.async false
set_option linter.all false
set_option maxRecDepth 100000
set_option maxHeartbeats 4000000
set_option autoImplicit false
namespace RX
open PySem PySem.Spec PyProof.Rows L2

/-! ### calls of the text's own defs -/
def argR (K : PySem.W.Frag) (σ : L2.St) (H : Hp) (F : Addr → Prop) : AV → V → Prop
  | .av d, v => Rp K H F v d
  | .al i, v => σ[i]? = some (some v)
  | .ax i, v => σ[i]? = some (some v)
def relA (K : PySem.W.Frag) : Rel (List AV) (List V) := fun _ σ H F _ as vs => Paired (argR K σ H F) as vs
instance {K : PySem.W.Frag} : Bases (relA K) := ⟨fun _ _ _ _ _ _ _ _ _ r => r⟩
theorem argR.mono {K : PySem.W.Frag} {σ : L2.St} {H H' : Hp} {F F' : Addr → Prop} (hF : ∀ a, F a → F' a) (hH : ∀ a, F a → H' a = H a) : ∀ {p : AV} {v : V}, argR K σ H F p v → argR K σ H' F' p v
  | .av _, _, h => Rp.mono hF hH h
  | .al _, _, h => h
  | .ax _, _, h => h
theorem argRs.mono {K : PySem.W.Frag} {σ : L2.St} {H H' : Hp} {F F' : Addr → Prop} (hF : ∀ a, F a → F' a) (hH : ∀ a, F a → H' a = H a) : ∀ {as : List AV} {vs : List V}, Paired (argR K σ H F) as vs → Paired (argR K σ H' F') as vs
  | _, _, .nil => .nil
  | _, _, .cons a r => .cons (a.mono hF hH) (argRs.mono hF hH r)
section
variable {u : Sub} {gc : List D} {c : CF} {k : Kx} {n : Nat} {X : Cx} {xr : XR} {W : WX} {xa xb xd : PySem.Expr} {a b d : E} {es : List PySem.Expr} {ae : As}
theorem pa_nilA : PA X [] (tM X.K X.mg xr W (relA X.K) (evAs u gc c .nil)) := pa_nil.wk fun σ H Q ⟨ρ, F, s, q⟩ => by
  simp only [evAs] at q
  exact q _ _ F s .refl .nil
theorem pa_exA (hs : notStar xa = true) (ha : PE X xa (tM X.K X.mg xr W (relO X.K) (evE u gc c a))) (hr : PA X es (tM X.K X.mg xr W (relA X.K) (evAs u gc c ae))) :
    PA X (xa :: es) (tM X.K X.mg xr W (relA X.K) (evAs u gc c (.ex a ae))) := (pa_cons ha hr (star_cons hs)).wk fun σ H Q ⟨ρ, F, s, q⟩ => by
  simp only [evAs] at q
  refine ⟨ρ, F, s, Ct.seqF q fun d v ρ1 H1 F1 s1 t1 r1 c1 => ⟨ρ1, F1, s1, Ct.seq c1 fun ds ρ2 _ vs H2 F2 s2 t2 r2 c2 => ?_⟩⟩
  exact c2 (v :: vs) H2 F2 s2 .refl (.cons (t2.rp s1 r1) r2)
theorem pa_boA (ok : Ok u gc c k n X xr W) {i : Nat} {y : Str} {p : Pos} (hv : isVar k i y = true) (hr : PA X es (tM X.K X.mg xr W (relA X.K) (evAs u gc c ae))) :
    PA X (.Name y p :: es) (tM X.K X.mg xr W (relA X.K) (evAs u gc c (.bo i ae))) := by
  obtain ⟨h1, h2, h3, h4⟩ := vis_of ok hv
  refine (pa_cons (pe_var (pos := p) h1 h2 h3 h4) hr (star_cons rfl)).wk fun σ H Q ⟨ρ, F, s, q⟩ => ?_
  simp only [evAs] at q
  split at q
  · rename_i b0 xs0 e0
    obtain ⟨a0, vs0, g1, g2, g3, g4⟩ := s.ol _ _ _ e0
    refine ⟨_, g1, ρ, F, s, Ct.seq q fun ds ρ2 _ vs H2 F2 s2 t2 r2 c2 => ?_⟩
    exact c2 (_ :: vs) H2 F2 s2 .refl (.cons g1 r2)
  · exact q.not.elim
theorem pa_xvA (ok : Ok u gc c k n X xr W) {i : Nat} {y : Str} {p : Pos} (hv : isVar k i y = true) (hr : PA X es (tM X.K X.mg xr W (relA X.K) (evAs u gc c ae))) :
    PA X (.Name y p :: es) (tM X.K X.mg xr W (relA X.K) (evAs u gc c (.xv i ae))) := by
  obtain ⟨h1, h2, h3, h4⟩ := vis_of ok hv
  refine (pa_cons (pe_var (pos := p) h1 h2 h3 h4) hr (star_cons rfl)).wk fun σ H Q ⟨ρ, F, s, q⟩ => ?_
  simp only [evAs] at q
  split at q
  · rename_i c0 e0
    obtain ⟨a0, g1, g2⟩ := s.ex _ _ e0
    refine ⟨_, g1, ρ, F, s, Ct.seq q fun ds ρ2 _ vs H2 F2 s2 t2 r2 c2 => ?_⟩
    exact c2 (_ :: vs) H2 F2 s2 .refl (.cons g1 r2)
  · exact q.not.elim
/-- the lent slots and their addresses -/
def BoA (ρ : Env) (σ : L2.St) : List Nat → List Addr → Prop := Paired fun i a => (∃ b xs, ρ[i]? = some (.ol b xs)) ∧ σ[i]? = some (some (.ref a))
theorem collect_ok {ρ : Env} {σ : L2.St} {H : Hp} {F : Addr → Prop} (s : SR X.K xr ρ σ H F) : ∀ {as : List AV} {vs : List V} {cs : List CArg}, Paired (argR X.K σ H F) as vs → collect as ρ = some cs →
    ArR X.K xr H F vs cs ∧ BoA ρ σ (bos as) (lent vs cs)
  | _, _, _, .nil, e => by
    simp only [collect] at e; cases e
    exact ⟨.nil, .nil⟩
  | .av d :: as, v :: vs, cs, .cons r rr, e => by
    simp only [collect] at e
    obtain ⟨cs', e', rfl⟩ := Option.map_eq_some_iff.mp e
    obtain ⟨h1, h2⟩ := collect_ok s rr e'
    refine ⟨.av r h1, ?_⟩
    cases v <;> exact h2
  | .ax i :: as, v :: vs, cs, .cons r rr, e => by
    simp only [collect] at e
    split at e
    · rename_i c0 q
      obtain ⟨cs', e', rfl⟩ := Option.map_eq_some_iff.mp e
      obtain ⟨h1, h2⟩ := collect_ok s rr e'
      obtain ⟨a, g1, g2⟩ := s.ex i c0 q
      have r' : σ[i]? = some (some v) := r
      rw [g1] at r'; cases r'
      exact ⟨.ax g2 h1, h2⟩
    · cases e
  | .al i :: as, v :: vs, cs, .cons r rr, e => by
    simp only [collect] at e
    split at e
    · rename_i b xs q
      obtain ⟨cs', e', rfl⟩ := Option.map_eq_some_iff.mp e
      obtain ⟨h1, h2⟩ := collect_ok s rr e'
      obtain ⟨a, ws, g1, g2, g3, g4⟩ := s.ol i b xs q
      have r' : σ[i]? = some (some v) := r
      rw [g1] at r'; cases r'
      exact ⟨.al g2 g3 g4 h1, .cons ⟨⟨b, xs, q⟩, g1⟩ h2⟩
    · cases e
theorem BoA.mem {ρ : Env} {σ : L2.St} : ∀ {is : List Nat} {L : List Addr}, BoA ρ σ is L → (∀ i ∈ is, ∃ a ∈ L, OwnAt ρ σ i a) ∧ (∀ a ∈ L, ∃ i ∈ is, OwnAt ρ σ i a)
  | _, _, .nil => ⟨fun _ h => by simp at h, fun _ h => by simp at h⟩
  | i :: is, a :: L, .cons ⟨⟨b, xs, h⟩, h2⟩ r => by
    obtain ⟨m1, m2⟩ := BoA.mem r
    have o : OwnAt ρ σ i a := ⟨.inl ⟨b, xs, h⟩, h2⟩
    refine ⟨fun j hj => ?_, fun a' ha => ?_⟩
    · rcases List.mem_cons.mp hj with e | e
      · subst e; exact ⟨a, List.mem_cons_self, o⟩
      · obtain ⟨a', h1, h2⟩ := m1 j e; exact ⟨a', List.mem_cons_of_mem _ h1, h2⟩
    · rcases List.mem_cons.mp ha with e | e
      · subst e; exact ⟨i, List.mem_cons_self, o⟩
      · obtain ⟨j, h1, h2⟩ := m2 a' e; exact ⟨j, List.mem_cons_of_mem _ h1, h2⟩
theorem BoA.nodup {ρ : Env} {σ : L2.St} {H : Hp} {F : Addr → Prop} (s : SR X.K xr ρ σ H F) : ∀ {is : List Nat} {L : List Addr}, BoA ρ σ is L → is.Nodup → L.Nodup
  | _, _, .nil, _ => .nil
  | i :: is, a :: L, .cons ⟨⟨b, xs, h⟩, h2⟩ r, nd => by
    have nd' := List.nodup_cons.mp nd
    refine List.nodup_cons.mpr ⟨fun ha => ?_, BoA.nodup s r nd'.2⟩
    obtain ⟨j, hj, o⟩ := (BoA.mem r).2 a ha
    exact nd'.1 (s.ap i j a ⟨.inl ⟨b, xs, h⟩, h2⟩ o ▸ hj)
theorem putB_ok {σ : L2.St} {H2 : Hp} {F2 : Addr → Prop} : ∀ {is : List Nat} {L : List Addr} {os : List (List D)} {ρ ρ2 : Env}, BoA ρ σ is L → is.Nodup → OutR X.K H2 F2 L os → putB is os ρ = some ρ2 →
    ρ2.length = ρ.length ∧ (∀ i, i ∉ is → ρ2[i]? = ρ[i]?) ∧ (∀ i ∈ is, ∃ a b xs0 xs ws, σ[i]? = some (some (.ref a)) ∧ ρ[i]? = some (.ol b xs0) ∧ ρ2[i]? = some (.ol b xs) ∧ H2 a = some (.lst ws) ∧ ¬ F2 a ∧ RpA X.K H2 F2 ws xs)
  | _, _, _, ρ, _, .nil, _, .nil, e => by
    simp only [putB] at e; cases e
    exact ⟨rfl, fun _ _ => rfl, fun _ h => by simp at h⟩
  | i :: is, a :: L, xs :: os, ρ, ρ2, .cons ⟨⟨b0, xs0, h⟩, h2⟩ r, nd, .cons ⟨ws, g1, g2, g3⟩ gr, e => by
    have nd' := List.nodup_cons.mp nd
    simp only [putB, h] at e
    have r' : BoA (ρ.set i (.ol b0 xs)) σ is L := by
      have : ∀ {is : List Nat} {L : List Addr}, BoA ρ σ is L → i ∉ is → BoA (ρ.set i (.ol b0 xs)) σ is L := by
        intro is L r
        induction r with
        | nil => exact fun _ => .nil
        | cons h0 r0 ih =>
          intro hn
          obtain ⟨⟨b, ys, q⟩, q2⟩ := h0
          rename_i j0 a0 is0 L0
          have n1 : i ≠ j0 := fun z => hn (by rw [z]; exact List.mem_cons_self)
          exact .cons ⟨⟨b, ys, by rw [List.getElem?_set_ne n1]; exact q⟩, q2⟩ (ih fun z => hn (List.mem_cons_of_mem _ z))
      exact this r nd'.1
    obtain ⟨k1, k2, k3⟩ := putB_ok r' nd'.2 gr e
    have hi : i < ρ.length := (List.getElem?_eq_some_iff.mp h).1
    refine ⟨by rw [k1, List.length_set], fun j hj => ?_, fun j hj => ?_⟩
    · rw [k2 j fun z => hj (List.mem_cons_of_mem _ z), List.getElem?_set_ne fun z => hj (by rw [← z]; exact List.mem_cons_self)]
    · by_cases z : j = i
      · subst z
        refine ⟨a, b0, xs0, xs, ws, h2, h, ?_, g1, g2, g3⟩
        rw [k2 j nd'.1, List.getElem?_set_self hi]
      · have hj' : j ∈ is := by
          rcases List.mem_cons.mp hj with e | e
          · exact absurd e z
          · exact e
        obtain ⟨a', b', x0, x1, ws', f1, f2, f3⟩ := k3 j hj'
        rw [List.getElem?_set_ne (Ne.symm z)] at f2
        exact ⟨a', b', x0, x1, ws', f1, f2, f3⟩
theorem call_own {ρ ρ2 : Env} {σ : L2.St} {H H2 : Hp} {F F2 : Addr → Prop} {is : List Nat} {L : List Addr} {os : List (List D)} (s : SR X.K xr ρ σ H F) (hb : BoA ρ σ is L) (nd : is.Nodup) (lf : Lft L H F H2 F2) (ho : OutR X.K H2 F2 L os) (e : putB is os ρ = some ρ2) (a : Addr) :
    Ow ρ2 σ a → Ow ρ σ a := by
  obtain ⟨k1, k2, k3⟩ := putB_ok hb nd ho e
  rintro ⟨j, o, e⟩
  refine ⟨j, ?_, e⟩
  by_cases hj : j ∈ is
  · obtain ⟨a, b, x0, x1, ws, _, f2, _⟩ := k3 j hj
    exact .inl ⟨b, x0, f2⟩
  · unfold isOwn at *
    rw [k2 j hj] at o; exact o
/-- behind a call -/
theorem call_left {ρ ρ2 : Env} {σ : L2.St} {H H2 : Hp} {F F2 : Addr → Prop} {is : List Nat} {L : List Addr} {os : List (List D)} (s : SR X.K xr ρ σ H F) (hb : BoA ρ σ is L) (nd : is.Nodup) (lf : Lft L H F H2 F2) (ho : OutR X.K H2 F2 L os) (e : putB is os ρ = some ρ2) :
    SR X.K xr ρ2 σ H2 F2 ∧ Stp ρ σ H F ρ2 σ H2 F2 := by
  obtain ⟨k1, k2, k3⟩ := putB_ok hb nd ho e
  obtain ⟨m1, m2⟩ := hb.mem
  have nL : ∀ a, F a → a ∉ L := fun a f hm => by
    obtain ⟨i, _, o⟩ := m2 a hm
    exact s.notOw f ⟨i, o⟩
  have fz : ∀ a, F a → H2 a = H a := fun a f => lf.keep a (s.dom a f) (s.ntb a f) (nL a f)
  have own_of : ∀ j, isOwn ρ2 j → isOwn ρ j := fun j o => by
    by_cases hj : j ∈ is
    · obtain ⟨a, b, x0, x1, ws, _, f2, _⟩ := k3 j hj
      exact .inl ⟨b, x0, f2⟩
    · unfold isOwn at *
      rw [k2 j hj] at o; exact o
  refine ⟨⟨by rw [k1, s.len], lf.dom, fun i d q => ?_, fun i b xs q => ?_, fun i b kvs q => ?_, fun i x q => ?_, fun i j a o1 o2 => s.ap i j a ⟨own_of i o1.1, o1.2⟩ ⟨own_of j o2.1, o2.2⟩, lf.ntb, fun a h => lf.tab a (s.tb a h)⟩,
    ⟨lf.inc, fun a h nt no => lf.keep a h nt fun hm => ?_, lf.tab, fun a ⟨i, o⟩ => .inl ⟨i, own_of i o.1, o.2⟩, lf.stay, fun a f => (lf.new a f).imp id .inr, fun i xs q => ?_⟩⟩
  · by_cases hi : i ∈ is
    · obtain ⟨a, b, x0, x1, ws, _, _, f3, _⟩ := k3 i hi
      rw [f3] at q; cases q
    · rw [k2 i hi] at q
      obtain ⟨v, h1, h2⟩ := s.sh i d q
      exact ⟨v, h1, h2.mono lf.inc fz⟩
  · by_cases hi : i ∈ is
    · obtain ⟨a, b', x0, x1, ws, f1, f2, f3, f4, f5, f6⟩ := k3 i hi
      rw [f3] at q; cases q
      exact ⟨a, ws, f1, f4, f5, f6⟩
    · rw [k2 i hi] at q
      obtain ⟨a, vs, h1, h2, h3, h4⟩ := s.ol i b xs q
      have hn : H a ≠ none := by rw [h2]; exact fun z => nomatch z
      have na : a ∉ L := fun hm => by
        obtain ⟨j, hj, o⟩ := m2 a hm
        have := s.ap i j a ⟨.inl ⟨b, xs, q⟩, h1⟩ o
        exact hi (this ▸ hj)
      exact ⟨a, vs, h1, (lf.keep a hn (.lst h2) na).trans h2, fun f => (lf.new a f).elim h3 hn, h4.mono lf.inc fz⟩
  · by_cases hi : i ∈ is
    · obtain ⟨a, b', x0, x1, ws, _, _, f3, _⟩ := k3 i hi
      rw [f3] at q; cases q
    · rw [k2 i hi] at q
      exact s.od i b kvs q
  · by_cases hi : i ∈ is
    · obtain ⟨a, b', x0, x1, ws, _, _, f3, _⟩ := k3 i hi
      rw [f3] at q; cases q
    · rw [k2 i hi] at q
      exact s.ex i x q
  · obtain ⟨i, _, o⟩ := m2 a hm
    exact no ⟨i, o⟩
  · by_cases hi : i ∈ is
    · obtain ⟨a, b', x0, x1, ws, _, f2, f3, _⟩ := k3 i hi
      rw [f3] at q; cases q
      exact ⟨rfl, x0, f2⟩
    · rw [k2 i hi] at q
      exact ⟨rfl, xs, q⟩
theorem as_star : ∀ {ae : As} {k : Kx} {es : List PySem.Expr}, chkAs ae k es = true → es.all notStar = true
  | .nil, _, [], _ => rfl
  | .nil, _, _ :: _, h => by simp [chkAs] at h
  | .ex e r, k, [], h => by simp [chkAs] at h
  | .ex e r, k, x :: xs, h => by
    simp only [chkAs, Bool.and_eq_true] at h
    simp only [List.all_cons, h.1.2, as_star h.2, Bool.and_self]
  | .xv i r, k, es, h => by
    simp only [chkAs] at h
    split at h
    · rw [Bool.and_eq_true] at h
      simp only [List.all_cons, notStar, as_star h.2, Bool.and_self]
    · cases h
  | .bo i r, k, es, h => by
    simp only [chkAs] at h
    split at h
    · rw [Bool.and_eq_true] at h
      simp only [List.all_cons, notStar, as_star h.2, Bool.and_self]
    · cases h
theorem arR_xr {K : PySem.W.Frag} {xr xr' : XR} {H : Hp} {F : Addr → Prop} (h : ∀ a y, xr a y → xr' a y) : ∀ {vs : List V} {as : List CArg}, ArR K xr H F vs as → ArR K xr' H F vs as
  | _, _, .nil => .nil
  | _, _, .ax q r => .ax (h _ _ q) (arR_xr h r)
  | _, _, .av q r => .av q (arR_xr h r)
  | _, _, .al a b d r => .al a b d (arR_xr h r)
/-- a call, as the evaluator tells it -/
theorem call_tells {f : Nat} {xr' : XR} (hx : ∀ a y, xr a y → xr' a y) (hxt : xr'.tb = xr.tb) {σ : L2.St} {H : Hp} {Q : VK} (t : tM X.K X.mg xr W (relO X.K) (evE u gc c (.call f ae)) σ H Q) :
    tCallS (spF X.K X.mg xr' (c f)) (WE W) (tM X.K X.mg xr W (relA X.K) (evAs u gc c ae)) σ H Q := by
  obtain ⟨ρ, F, s, q⟩ := t
  simp only [evE] at q
  refine ⟨ρ, F, s, Ct.seq q fun as ρ1 _ vs H1 F1 s1 t1 r1 c1 => ?_⟩
  unfold doCall at c1
  obtain ⟨nd, c2⟩ := ifc c1
  obtain ⟨cs, e1, c3⟩ := bind1 c2
  obtain ⟨h1, h2⟩ := collect_ok s1 r1 e1
  refine ⟨F1, cs, s1.dom, s1.ntb, by rw [hxt]; exact s1.tb, arR_xr hx h1, h2.nodup s1 nd, ?_⟩
  cases e2 : c f cs with
  | none => simp only [e2] at c3; exact c3.not.elim
  | some o =>
    cases o with
    | ok dd os =>
      simp only [e2] at c3
      obtain ⟨ρ2, e3, c4⟩ := map1 c3
      intro v H2 F2 lf ho r
      obtain ⟨s2, t2⟩ := call_left s1 h2 nd lf ho e3
      exact c4 v H2 F2 s2 t2 r
    | ow xs os =>
      simp only [e2] at c3
      obtain ⟨ρ2, e3, c4⟩ := map1 c3
      intro a ws H2 F2 lf ho ha hl nf r
      obtain ⟨s2, t2⟩ := call_left s1 h2 nd lf ho e3
      exact c4 (.ref a) H2 F2 s2 t2 ⟨a, ws, rfl, hl, nf, fun o => s1.owH (call_own s1 h2 nd lf ho e3 a o) ha, ha, r⟩
    | ex x os =>
      simp only [e2] at c3
      obtain ⟨ρ2, e3, c4⟩ := map1 c3
      intro H2 F2 C lf ho hC
      obtain ⟨s2, t2⟩ := call_left s1 h2 nd lf ho e3
      exact c4 H2 F2 C s2 t2 hC
theorem snd_call (ok : Ok u gc c k n X xr W) {f : Nat} {y : Str} {p pos : Pos} (hh : ((!k.hot && !k.hots.contains f) || (k.xs && k.hots.contains f)) = true) (hf : k.fns[f]? = some y) (hg : glB k.sc y = true) (hs : (xa :: es).all notStar = true)
    (ha : PA X (xa :: es) (tM X.K X.mg xr W (relA X.K) (evAs u gc c ae))) : Snd X xr W (.Call (.Name y p) (xa :: es) [] pos) (evE u gc c (.call f ae)) := by
  obtain ⟨g1, g2⟩ := gl_of ok hg
  have hs' : notStar xa = true ∧ es.all notStar = true := by simpa using hs
  rw [Bool.or_eq_true, Bool.and_eq_true, Bool.and_eq_true, Bool.not_eq_true', Bool.not_eq_true'] at hh
  rcases hh with ⟨hq, hz⟩ | ⟨hq, hz⟩
  · obtain ⟨fa, fd, ps, hm, hk, hb, F⟩ := ok.fns f y hf hz
    have main := pe_callS (p := p) (pos := pos) F ((ok.room hq).mono (Nat.le_add_right _ _)) g1 hm hk hb (fun σ => L2N.passAt ok.tk σ) ha g2 (star_cons hs'.1) (star_any hs'.2)
    exact Snd.plain (main.wk fun σ H Q t => call_tells (xr' := xr0 xr.tb) (fun a y z => (ok.noex hq a y z).elim) rfl t) (fun _ => rfl) fun _ _ _ e => nomatch e
  · obtain ⟨e, he, hall⟩ := ok.hotp hq
    obtain ⟨fa, fd, ps, hm, hk, hb, F⟩ := ok.hfn f y hf hz
    have main := pe_hot (q := p) (pos := pos) (E := WE W) F (ok.roomH (ok.xsh hq)) he g1 hm hk hb (fun σ => L2N.passAt ok.tk σ) ha g2 (star_cons hs'.1) (star_any hs'.2)
    exact Snd.plain (main.wk fun σ H Q t => call_tells hall rfl t) (fun _ => rfl) fun _ _ _ e => nomatch e
end
end RX

end
section
set_option Elab.async false
set_option linter.all false
set_option maxRecDepth 100000
set_option maxHeartbeats 4000000
set_option autoImplicit false
namespace RX
open PySem PySem.Spec PyProof.Rows L2

/-! ### targets -/
theorem asg_cons {e : PySem.Expr} {es : List PySem.Expr} {env : PySem.Env} (h : notStar e = true) : assignEach (e :: es) env = (false, assign e env) :: assignEach es env := by
  cases e <;> first | rfl | cases h
theorem asg_len : ∀ {es : List PySem.Expr} {env : PySem.Env}, es.all notStar = true → (assignEach es env).length = es.length ∧ (assignEach es env).findIdx? (·.1) = none
  | [], _, _ => ⟨rfl, rfl⟩
  | e :: es, env, h => by
    have h' : notStar e = true ∧ es.all notStar = true := by simpa using h
    obtain ⟨h1, h2⟩ := asg_len (env := env) h'.2
    rw [asg_cons h'.1]
    refine ⟨by simp [h1], ?_⟩
    rw [List.findIdx?_cons]
    simp [h2]
/-- σ' is σ but at vs -/
def But (vs : List Nat) (σ σ' : L2.St) : Prop := σ'.length = σ.length ∧ ∀ i, i ∉ vs → σ'[i]? = σ[i]?
theorem But.trans {vs ws : List Nat} {σ σ1 σ2 : L2.St} (a : But vs σ σ1) (b : But ws σ1 σ2) : But (vs ++ ws) σ σ2 :=
  ⟨b.1.trans a.1, fun i h => (b.2 i fun z => h (List.mem_append_right _ z)).trans (a.2 i fun z => h (List.mem_append_left _ z))⟩
def tG (K : PySem.W.Frag) (xr : XR) (g : G) : TG := fun v σ H Q => ∃ ρ F d ρ', SR K xr ρ σ H F ∧ Rp K H F v d ∧ asgG g d ρ = some ρ' ∧ ∀ σ', SR K xr ρ' σ' H F → Stp ρ σ H F ρ' σ' H F → But (gVars g) σ σ' → Q σ' H
def tGs (K : PySem.W.Frag) (xr : XR) (gs : Gs) : TGs := fun vs σ H Q => ∃ ρ F ds ρ', SR K xr ρ σ H F ∧ RpA K H F vs ds ∧ asgGs gs ds ρ = some ρ' ∧ ∀ σ', SR K xr ρ' σ' H F → Stp ρ σ H F ρ' σ' H F → But (gsVars gs) σ σ' → Q σ' H
/-- a slot takes a new word -/
theorem set_slot {K : PySem.W.Frag} {xr : XR} {ρ : Env} {σ : L2.St} {H : Hp} {F : Addr → Prop} {i : Nat} {z : Slot} {y : Slot} {v : V} (s : SR K xr ρ σ H F) (e : ρ[i]? = some y)
    (hz : (∃ d, z = .sh d ∧ Rp K H F v d) ∨ (∃ xs a ws, z = .ol false xs ∧ v = .ref a ∧ H a = some (.lst ws) ∧ ¬ F a ∧ RpA K H F ws xs ∧ ¬ Ow ρ σ a) ∨ (∃ x a, z = .ex x ∧ v = .ref a ∧ xr a x)) :
    SR K xr (ρ.set i z) (σ.set i (some v)) H F ∧ (∀ a, Ow (ρ.set i z) (σ.set i (some v)) a → Ow ρ σ a ∨ v = .ref a) := by
  have hi : i < σ.length := by rw [← s.len]; exact (List.getElem?_eq_some_iff.mp e).1
  have ow : ∀ j a, OwnAt (ρ.set i z) (σ.set i (some v)) j a → (i = j ∧ v = .ref a ∧ ∃ xs ws, z = .ol false xs ∧ H a = some (.lst ws) ∧ ¬ Ow ρ σ a) ∨ (i ≠ j ∧ OwnAt ρ σ j a) := fun j a o => by
    rcases o.1.set with ⟨e1, h⟩ | ⟨e1, h⟩
    · subst e1
      have h2 := o.2
      rw [List.getElem?_set_self hi] at h2
      rcases hz with ⟨d, rfl, _⟩ | ⟨xs, b, ws, rfl, rfl, h3, h4, _, h5⟩ | ⟨x, b, rfl, _⟩
      · rcases h with ⟨_, _, q⟩ | ⟨_, _, q⟩ <;> cases q
      · cases h2
        exact .inl ⟨rfl, rfl, xs, ws, rfl, h3, h5⟩
      · rcases h with ⟨_, _, q⟩ | ⟨_, _, q⟩ <;> cases q
    · have h2 := o.2
      rw [List.getElem?_set_ne e1] at h2
      exact .inr ⟨e1, h, h2⟩
  refine ⟨⟨by simp [s.len], s.dom, fun j d q => ?_, fun j b xs q => ?_, fun j b kvs q => ?_, fun j x q => ?_, fun j l a o1 o2 => ?_, s.ntb, s.tb⟩, fun a ⟨j, o⟩ => ?_⟩
  · rcases getS q with ⟨e1, e2, _⟩ | ⟨e1, e2⟩
    · subst e1
      rw [List.getElem?_set_self hi]
      rcases hz with ⟨d', rfl, r⟩ | ⟨xs, b, ws, rfl, _⟩ | ⟨x, b, rfl, _⟩ <;> cases e2
      exact ⟨v, rfl, r⟩
    · rw [List.getElem?_set_ne e1]; exact s.sh j d e2
  · rcases getS q with ⟨e1, e2, _⟩ | ⟨e1, e2⟩
    · subst e1
      rw [List.getElem?_set_self hi]
      rcases hz with ⟨d', rfl, r⟩ | ⟨xs, b, ws, rfl, rfl, h1, h2, h3, _⟩ | ⟨x, b, rfl, _⟩ <;> cases e2
      exact ⟨b, ws, rfl, h1, h2, h3⟩
    · rw [List.getElem?_set_ne e1]; exact s.ol j b xs e2
  · rcases getS q with ⟨e1, e2, _⟩ | ⟨e1, e2⟩
    · rcases hz with ⟨d', rfl, r⟩ | ⟨xs, b, ws, rfl, _⟩ | ⟨x, b, rfl, _⟩ <;> cases e2
    · exact s.od j b kvs e2
  · rcases getS q with ⟨e1, e2, _⟩ | ⟨e1, e2⟩
    · subst e1
      rw [List.getElem?_set_self hi]
      rcases hz with ⟨d', rfl, r⟩ | ⟨xs, b, ws, rfl, _⟩ | ⟨x, b, rfl, rfl, r⟩ <;> cases e2
      exact ⟨b, rfl, r⟩
    · rw [List.getElem?_set_ne e1]; exact s.ex j x e2
  · rcases ow j a o1 with ⟨e1, _, xs, ws, _, _, no⟩ | ⟨e1, p1⟩
    · rcases ow l a o2 with ⟨e2, _⟩ | ⟨e2, p2⟩
      · exact e1.symm.trans e2
      · exact (no ⟨l, p2⟩).elim
    · rcases ow l a o2 with ⟨e2, _, xs, ws, _, _, no⟩ | ⟨e2, p2⟩
      · exact (no ⟨j, p1⟩).elim
      · exact s.ap j l a p1 p2
  · rcases ow j a o with ⟨_, e, _⟩ | ⟨_, p⟩
    · exact .inr e
    · exact .inl ⟨j, p⟩
theorem set_sh {K : PySem.W.Frag} {xr : XR} {ρ : Env} {σ : L2.St} {H : Hp} {F : Addr → Prop} {i : Nat} {y : Slot} {v : V} {d : D} (s : SR K xr ρ σ H F) (e : ρ[i]? = some y) (r : Rp K H F v d) :
    SR K xr (ρ.set i (.sh d)) (σ.set i (some v)) H F ∧ Stp ρ σ H F (ρ.set i (.sh d)) (σ.set i (some v)) H F := by
  have ok := set_slot s e (.inl ⟨d, rfl, r⟩)
  refine ⟨ok.1, ⟨fun _ h => h, fun _ _ _ _ => rfl, fun _ h => h, fun a ⟨j, o⟩ => .inl ?_, fun _ h => h, fun _ h => .inl h, fun j xs q => ?_⟩⟩
  · rcases o.1.set with ⟨_, ⟨_, _, z⟩ | ⟨_, _, z⟩⟩ | ⟨e1, h⟩
    · cases z
    · cases z
    · have h2 := o.2
      rw [List.getElem?_set_ne e1] at h2
      exact ⟨j, h, h2⟩
  · rcases getS q with ⟨e1, e2, _⟩ | ⟨e1, e2⟩
    · cases e2
    · rw [List.getElem?_set_ne e1]; exact ⟨rfl, xs, e2⟩
section
variable {u : Sub} {gc : List D} {c : CF} {k : Kx} {n : Nat} {X : Cx} {xr : XR} {W : WX}
theorem sto_of (ok : Ok u gc c k n X xr W) {i : Nat} {y : Str} (h : stoB k i y = true) : X.N.Nodup ∧ X.N[i]? = some y ∧ Loc X.env.scope y ∧ (X.fn y = true ∨ X.env.scope.names.lookup y = some .local) := by
  unfold stoB at h
  rw [Bool.and_eq_true, decide_eq_true_eq] at h
  refine ⟨by rw [ok.N]; exact ok.nd, by rw [ok.N]; exact h.1, ?_⟩
  have h2 := h.2
  rw [ok.sc]
  split at h2
  · rename_i e; exact ⟨.inl e, .inr e⟩
  · rename_i e
    exact ⟨.inr e, .inl (ok.fn y (by simpa using h2))⟩
  · cases h2
theorem gs_len : ∀ {gs : Gs} {es : List PySem.Expr} {xs : List D} {ρ ρ' : Env}, chkGs k gs es = true → asgGs gs xs ρ = some ρ' → xs.length = es.length
  | .nil, [], [], _, _, _, _ => rfl
  | .nil, [], _ :: _, _, _, _, e => by simp [asgGs] at e
  | .nil, _ :: _, _, _, _, h, _ => by simp [chkGs] at h
  | .cons g gs, [], _, _, _, h, _ => by simp [chkGs] at h
  | .cons g gs, _ :: _, [], _, _, _, e => by simp [asgGs] at e
  | .cons g gs, x :: es, d :: ds, ρ, ρ', h, e => by
    simp only [chkGs, Bool.and_eq_true] at h
    simp only [asgGs] at e
    obtain ⟨ρ1, e1, e2⟩ := Option.bind_eq_some_iff.mp e
    simp [gs_len h.2 e2]
mutual
theorem sG : ∀ (g : G) (x : PySem.Expr), Ok u gc c k n X xr W → chkG k g x = true → PG X x (tG X.K xr g)
  | .n i, x, ok, h => by
    cases x <;> simp only [chkG, Bool.false_eq_true] at h
    obtain ⟨h1, h2, h3, h4⟩ := sto_of ok h
    refine (pg_name h1 h2 h3 h4).wk fun v σ H Q ⟨ρ, F, d, ρ', s, r, e, q⟩ => ?_
    simp only [asgG] at e
    have fin : ∀ {y : Slot}, ρ[i]? = some y → ρ' = ρ.set i (.sh d) → gName i v σ H Q := fun {y} e1 e2 => by
      subst e2
      obtain ⟨s1, t1⟩ := set_sh s e1 r
      refine q _ s1 t1 ⟨by simp, fun j hj => ?_⟩
      rw [List.getElem?_set_ne]
      intro z; exact hj (by rw [← z]; simp [gVars])
    unfold setSlot at e
    split at e
    · rename_i e1; cases e; exact fin (List.getElem?_eq_getElem e1) rfl
    · cases e
  | .t gs, x, ok, h => by
    cases x <;> simp only [chkG, Bool.and_eq_true, Bool.false_eq_true, Bool.not_eq_true'] at h
    obtain ⟨⟨h0, h1⟩, h2⟩ := h
    rename_i es j pos
    have hl := asg_len (env := X.env) h2
    refine (pg_tup (ok.calm h0) (sGs gs es ok h1 h2) hl.1 hl.2).wk fun v σ H Q ⟨ρ, F, d, ρ', s, r, e, q⟩ => ?_
    simp only [asgG] at e
    split at e
    · rename_i xs
      have hn : xs.length = es.length := gs_len h1 e
      obtain ⟨a, vs, rfl, g1, g2⟩ := (Rr.of r).tuple
      exact ⟨a, vs, rfl, g1, by rw [g2.length, hn], ρ, F, xs, ρ', s, g2, e, q⟩
    · cases e
theorem sGs : ∀ (gs : Gs) (es : List PySem.Expr), Ok u gc c k n X xr W → chkGs k gs es = true → es.all notStar = true → PGs X es (tGs X.K xr gs)
  | .nil, [], ok, h, _ => by
    refine ⟨fun pins s σ H vs us Q I r h => pgs_nil.run pins s σ H vs us Q I r ?_⟩
    obtain ⟨ρ, F, ds, ρ', s, r, e, q⟩ := h
    cases r with
    | nil => simp only [asgGs] at e; cases e; exact ⟨rfl, q σ s .refl ⟨rfl, fun _ _ => rfl⟩⟩
    | cons => simp only [asgGs] at e; cases e
  | .nil, _ :: _, _, h, _ => by simp [chkGs] at h
  | .cons g gs, [], _, h, _ => by simp [chkGs] at h
  | .cons g gs, e :: es, ok, h, hs => by
    simp only [chkGs, Bool.and_eq_true] at h
    have hs' : notStar e = true ∧ es.all notStar = true := by simpa using hs
    have main := pgs_cons (sG g e ok h.1) (sGs gs es ok h.2 hs'.2) (by rw [asg_cons hs'.1]; rfl)
    refine ⟨fun pins s σ H vs us Q I r hw => main.run pins s σ H vs us Q I r ?_⟩
    obtain ⟨ρ, F, ds, ρ', s, r, e, q⟩ := hw
    cases r with
    | nil => simp only [asgGs] at e; cases e
    | cons r1 r2 =>
      simp only [asgGs] at e
      obtain ⟨ρ1, e1, e2⟩ := Option.bind_eq_some_iff.mp e
      refine ⟨_, _, rfl, ρ, F, _, ρ1, s, r1, e1, fun σ1 s1 t1 b1 => ⟨ρ1, F, _, ρ', s1, r2, e2, fun σ2 s2 t2 b2 => ?_⟩⟩
      exact q σ2 s2 (t1.trans t2) (by simp only [gsVars]; exact b1.trans b2)
end
end
end RX

end
section
set_option Elab.async false
set_option linter.all false
set_option maxRecDepth 100000
set_option maxHeartbeats 4000000
set_option autoImplicit false
namespace RX
open PySem PySem.Spec PyProof.Rows L2

/-! ### what is walked -/
theorem walk_same {K : PySem.W.Frag} {J : L2.It} {items : List D} {H1 : Hp} {F1 : Addr → Prop} {m : Nat} {G : Hp → Prop} {Y : Nat → Hp → V → Hp → Prop} (w : Walk J m G Y) (hm : m = items.length) (hG : ∀ H, (∀ a, F1 a → H a = H1 a) → G H)
    (hY : ∀ i H x H', i < m → (∀ a, F1 a → H a = H1 a) → Y i H x H' → H' = H ∧ ∃ d, items[i]? = some d ∧ Rp K H1 F1 x d) : IsWalk K J items H1 F1 := by
  subst hm
  refine w.mono hG fun i H x H' hi hg y => ?_
  obtain ⟨rfl, d, e, r⟩ := hY i H x H' hi hg y
  exact ⟨fun _ _ => rfl, fun Fc h1 h2 => ⟨Fc, fun _ h => h, fun _ h => .inl h, h2, fun a f e => (h2 a f e).elim, d, e, r.mono h1 hg⟩⟩
theorem walk_lst {K : PySem.W.Frag} {H1 : Hp} {F1 : Addr → Prop} {a : Addr} {xs : List V} {ds : List D} (h : (Rd H1 a (.lst xs) ∧ F1 a) ∨ KL K a xs) (r : RpA K H1 F1 xs ds) : IsWalk K (Itl K a) ds H1 F1 := by
  refine walk_same walk_list r.length (fun H hg => ?_) fun i H x H' hi hg ⟨e, y⟩ => ⟨e, ?_⟩
  · rcases h with ⟨h, f⟩ | h
    · exact .inl (Rd.keep (hg a f) h)
    · exact .inr h
  · exact r.get y
theorem walk_tupl {K : PySem.W.Frag} {H1 : Hp} {F1 : Addr → Prop} {a : Addr} {xs : List V} {ds : List D} (h : (Rd H1 a (.tup xs) ∧ F1 a) ∨ KT K a xs) (r : RpA K H1 F1 xs ds) : IsWalk K (Itt K a) ds H1 F1 := by
  refine walk_same walk_tup r.length (fun H hg => ?_) fun i H x H' hi hg ⟨e, y⟩ => ⟨e, ?_⟩
  · rcases h with ⟨h, f⟩ | h
    · exact .inl (Rd.keep (hg a f) h)
    · exact h.sq
  · exact r.get y
theorem rngL_at {lo st : Int} {m i : Nat} (h : i < m) : (rngL lo st m)[i]? = some (.int (lo + (i : Nat) * st)) := by
  unfold rngL
  rw [List.getElem?_map, List.getElem?_range h]; rfl
theorem rngL_len {lo st : Int} {m : Nat} : (rngL lo st m).length = m := by simp [rngL]
theorem walk_rng {K : PySem.W.Frag} {H1 : Hp} {F1 : Addr → Prop} {lo : Int} {m : Nat} : IsWalk K (Itr lo m) (rngL lo 1 m) H1 F1 := by
  refine walk_same walk_range rngL_len.symm (fun _ _ => trivial) fun i H x H' hi hg ⟨e, y⟩ => ⟨e, _, rngL_at hi, ?_⟩
  subst y
  rw [Int.mul_one]; exact .int _
section
variable {u : Sub} {gc : List D} {c : CF} {k : Kx} {n : Nat} {X : Cx} {xr : XR} {W : WX} {xa xb xd tg : PySem.Expr} {a b d e : E}
def iSeq (K : PySem.W.Frag) (tl : TE) : TI := fun σ H R => tl σ H fun x H1 => (∃ a xs, x = .ref a ∧ SqL K H1 a xs ∧ R (Itl K a) H1) ∨ ∃ a xs, x = .ref a ∧ SqT K H1 a xs ∧ R (Itt K a) H1
theorem pi_seq {tl : TE} (hl : PE X xa tl) : PI X tg xa (iSeq X.K tl) := by
  refine ⟨fun pins s σ H R I h => ?_⟩
  refine thn (hl.run pins s σ H _ I h) fun v s1 ⟨x, H1, I1, r1, q1⟩ => ?_
  rcases q1 with ⟨a, xs, e, hq, q⟩ | ⟨a, xs, e, hq, q⟩
  · subst e
    cases r1
    obtain ⟨its, rv, p, hz⟩ := I1.list hq
    refine wpAny_pyIter_list p.isList ?_
    refine ⟨s1.heap.objs.size, [s1.heap.objs.size], _, _, H1, rfl, I1.kept (t' := s1.toks) fun b o e => Heap.get?_push_of_some _ e, turn_list a _, ⟨_, Heap.get?_push_size _ rfl, rfl, rfl⟩, fun b hb => ?_, q⟩
    have e : b = s1.heap.objs.size := by simpa using hb
    subst e
    exact I1.fpOk (Nat.le_refl _) (I1.hok.fresh (Nat.le_refl _))
  · subst e
    cases r1
    obtain ⟨its, rv, p, hz⟩ := I1.tuple hq
    refine wpAny_pyIter_tuple (show s1.heap.IsTuple a its.toArray from p) ?_
    refine ⟨s1.heap.objs.size, [s1.heap.objs.size], _, _, H1, rfl, I1.kept (t' := s1.toks) fun b o e => Heap.get?_push_of_some _ e, turn_tuple a _, ⟨_, Heap.get?_push_size _ rfl, rfl, rfl⟩, fun b hb => ?_, q⟩
    have e : b = s1.heap.objs.size := by simpa using hb
    subst e
    exact I1.fpOk (Nat.le_refl _) (I1.hok.fresh (Nat.le_refl _))
theorem sI_seq (ha : PE X xa (tM X.K X.mg xr W (relO X.K) (evE u gc c a))) : PI X tg xa (tM X.K X.mg xr W (relI X.K) (evIt u gc c (.seq a))) := by
  refine (pi_seq ha).wk fun σ H R ⟨ρ, F, s, q⟩ => ?_
  simp only [evIt] at q
  refine ⟨ρ, F, s, Ct.seqF q fun d v ρ1 H1 F1 s1 t1 r1 c1 => ?_⟩
  obtain ⟨xs, e, c2⟩ := map1 c1
  unfold itemsD at e
  split at e
  · cases e
    cases r1 with
    | lst h f r => exact .inl ⟨_, _, rfl, .inl h, c2 _ H1 F1 s1 .refl (walk_lst (.inl ⟨h, f⟩) r)⟩
    | lstK h r => exact .inl ⟨_, _, rfl, .inr h, c2 _ H1 F1 s1 .refl (walk_lst (.inr h) r)⟩
  · cases e
    cases r1 with
    | tup h f r => exact .inr ⟨_, _, rfl, .inl h.rd, c2 _ H1 F1 s1 .refl (walk_tupl (.inl ⟨h.rd, f⟩) r)⟩
    | tupK h r => exact .inr ⟨_, _, rfl, h.sq, c2 _ H1 F1 s1 .refl (walk_tupl (.inr h) r)⟩
  · cases e
theorem okR_of {i : Int} (h : okR i = true) : -(2 ^ 62) ≤ i ∧ i < 2 ^ 62 := by
  unfold okR at h
  rw [Bool.and_eq_true, decide_eq_true_eq, decide_eq_true_eq] at h
  exact h
theorem sI_r1 (ok : Ok u gc c k n X xr W) {p pos : Pos} (hg : glB k.sc "range" = true) (ha : PE X xa (tM X.K X.mg xr W (relO X.K) (evE u gc c a))) (hs : notStar xa = true) :
    PI X tg (.Call (.Name "range" p) [xa] [] pos) (tM X.K X.mg xr W (relI X.K) (evIt u gc c (.r1 a))) := by
  obtain ⟨g1, g2⟩ := gl_of ok hg
  refine (pi_range1 g1 ok.blts.1 (pa_cons ha pa_nil (star_cons hs)) (star_cons hs)).wk fun σ H R ⟨ρ, F, s, q⟩ => ?_
  simp only [evIt] at q
  refine ⟨ρ, F, s, Ct.seq q fun o1 ρ1 hz1 v1 H1 F1 s1 t1 r1 c1 => ?_⟩
  split at c1
  · rename_i j
    obtain ⟨hz, c2⟩ := ifc c1
    have r1' : Rp X.K H1 F1 v1 (.int j) := r1
    cases r1'
    have := okR_of hz
    exact ⟨j, rfl, this.1, this.2, c2 _ H1 F1 s1 .refl walk_rng⟩
  · exact c1.not.elim
theorem walk_rngC {K : PySem.W.Frag} {H1 : Hp} {F1 : Addr → Prop} {lo st : Int} {m : Nat} : IsWalk K (Itc lo st m) (rngL lo st m) H1 F1 := by
  refine walk_same walk_rangeC rngL_len.symm (fun _ _ => trivial) fun i H x H' hi hg ⟨e, y⟩ => ⟨e, _, rngL_at hi, ?_⟩
  subst y
  exact .int _
theorem rgC_of {i j s : Int} (h : (okR i && okR j && (decide (0 < s) && decide (s ≤ 1000000) || s == -1)) = true) : RgC i j s (rngN i j s) := by
  unfold okR at h
  simp only [Bool.and_eq_true, Bool.or_eq_true, decide_eq_true_eq, beq_iff_eq] at h
  obtain ⟨⟨⟨a1, a2⟩, b1, b2⟩, h⟩ := h
  rcases h with ⟨h1, h2⟩ | rfl
  · have sz : Builtin.Range.rangeSize i j s = (rngN i j s : Nat) := by
      unfold Builtin.Range.rangeSize rngN
      rw [if_pos h1, if_pos h1]
      split
      · have : 0 ≤ (j - i - 1) / s := Int.ediv_nonneg (by omega) (by omega)
        omega
      · rfl
    have up : (rngN i j s : Int) ≤ max 0 (j - i) := by
      unfold rngN
      rw [if_pos h1]
      split
      · have h3 : 0 ≤ (j - i - 1) / s := Int.ediv_nonneg (by omega) (by omega)
        have h4 : (j - i - 1) / s ≤ j - i - 1 := Int.ediv_le_self _ (by omega)
        omega
      · omega
    refine ⟨by omega, by omega, ?_, sz⟩
    unfold Builtin.Range.small Builtin.Range.rangeFitsLong
    rw [sz, if_pos h1]
    simp only [Bool.and_eq_true, Bool.or_eq_true, decide_eq_true_eq]
    refine ⟨⟨⟨⟨⟨by omega, by omega⟩, by omega, by omega⟩, by omega, by omega⟩, by omega, by omega⟩, .inr ⟨by omega, by omega⟩⟩
  · have : rngN i j (-1) = (i - j).toNat := rfl
    rw [this]
    exact RgC.neg a1 a2 b1 b2
theorem sI_rc (ok : Ok u gc c k n X xr W) {p pos : Pos} (hg : glB k.sc "range" = true) (ha : PE X xa (tM X.K X.mg xr W (relO X.K) (evE u gc c a))) (hb : PE X xb (tM X.K X.mg xr W (relO X.K) (evE u gc c b))) (hd : PE X xd (tM X.K X.mg xr W (relO X.K) (evE u gc c d))) (hs : notStar xa = true) (hs2 : notStar xb = true) (hs3 : notStar xd = true) :
    PI X tg (.Call (.Name "range" p) [xa, xb, xd] [] pos) (tM X.K X.mg xr W (relI X.K) (evIt u gc c (.rc a b d))) := by
  obtain ⟨g1, g2⟩ := gl_of ok hg
  refine (pi_range3 g1 ok.blts.1 (pa_cons ha (pa_cons hb (pa_cons hd pa_nil (star_cons hs3)) (star_cons hs2)) (star_cons hs)) (star_cons hs) (star_any (by simp [hs2, hs3]))).wk fun σ H R ⟨ρ, F, s, q⟩ => ?_
  simp only [evIt] at q
  refine ⟨ρ, F, s, Ct.seq q fun o1 ρ1 hz1 v1 H1 F1 s1 t1 r1 c1 => ⟨ρ1, F1, s1, Ct.seq c1 fun o2 ρ2 hz2 v2 H2 F2 s2 t2 r2 c2 => ⟨ρ2, F2, s2, Ct.seq c2 fun o3 ρ3 hz3 v3 H3 F3 s3 t3 r3 c3 => ?_⟩⟩⟩
  split at c3
  · obtain ⟨hz, c4⟩ := ifc c3
    have r1' : Rp X.K H1 F1 v1 _ := r1
    have r2' : Rp X.K H2 F2 v2 _ := r2
    have r3' : Rp X.K H3 F3 v3 _ := r3
    cases r1'; cases r2'; cases r3'
    exact ⟨_, _, _, _, rfl, rgC_of hz, c4 _ H3 F3 s3 .refl walk_rngC⟩
  · exact c3.not.elim
theorem sI_r2 (ok : Ok u gc c k n X xr W) {p pos : Pos} (hg : glB k.sc "range" = true) (ha : PE X xa (tM X.K X.mg xr W (relO X.K) (evE u gc c a))) (hb : PE X xb (tM X.K X.mg xr W (relO X.K) (evE u gc c b))) (hs : notStar xa = true) (hs2 : notStar xb = true) :
    PI X tg (.Call (.Name "range" p) [xa, xb] [] pos) (tM X.K X.mg xr W (relI X.K) (evIt u gc c (.r2 a b))) := by
  obtain ⟨g1, g2⟩ := gl_of ok hg
  refine (pi_range2 g1 ok.blts.1 (pa_cons ha (pa_cons hb pa_nil (star_cons hs2)) (star_cons hs)) (by rw [star_cons hs, star_cons hs2]; rfl) (by rw [star_cons hs2]; rfl)).wk fun σ H R ⟨ρ, F, s, q⟩ => ?_
  simp only [evIt] at q
  refine ⟨ρ, F, s, Ct.seq q fun o1 ρ1 hz1 v1 H1 F1 s1 t1 r1 c1 => ⟨ρ1, F1, s1, Ct.seq c1 fun o2 ρ2 hz2 v2 H2 F2 s2 t2 r2 c2 => ?_⟩⟩
  split at c2
  · rename_i i j
    obtain ⟨hz, c3⟩ := ifc c2
    rw [Bool.and_eq_true] at hz
    have r1' : Rp X.K H1 F1 v1 (.int i) := r1
    have r2' : Rp X.K H2 F2 v2 (.int j) := r2
    cases r1'
    cases r2'
    have h1 := okR_of hz.1
    have h2 := okR_of hz.2
    exact ⟨i, j, rfl, ⟨h1.1, h1.2, h2.1, h2.2⟩, c3 _ H2 F2 s2 .refl walk_rng⟩
  · exact c2.not.elim

/-! ### x[::-1] -/
theorem snd_rv {kk : Nat} {p1 p2 p3 pos : Pos} (ha : Snd X xr W xa (evE u gc c a)) :
    Snd X xr W (.Subscript xa (.Slice none none (some (.UnaryOp .USub (.Constant (.int 1) kk p1) p2)) p3) pos) (evE u gc c (.rv a)) := by
  refine Snd.plain ((pe_revT ha.1).wk fun σ H Q ⟨ρ, F, s, q⟩ => ?_) (fun _ => rfl) fun _ _ _ e => nomatch e
  simp only [evE] at q
  refine ⟨ρ, F, s, Ct.seq q fun o1 ρ1 hz1 v1 H1 F1 s1 t1 r1 c1 => ?_⟩
  split at c1
  · rename_i xs e0
    obtain ⟨a0, ys, rfl, g1, g2⟩ := (RpO.rd r1 s1 e0).list
    exact .inl ⟨a0, ys, rfl, g1, fun p hp => c1.res s1 (.lst hp s1.dom g2.reverse)⟩
  · rename_i xs e0
    obtain ⟨a0, ys, rfl, g1, g2⟩ := (RpO.rd r1 s1 e0).tuple
    exact .inr ⟨a0, ys, rfl, g1, fun p ho hp ht => c1.res s1 (.tup hp ht s1.dom g2.reverse)⟩
  · exact c1.not.elim
/-! ### list(range(..)) -/
theorem rpa_rng {K : PySem.W.Frag} {H : Hp} {F : Addr → Prop} (f : Nat → Int) : ∀ (is : List Nat), RpA K H F (is.map fun i => V.int (f i)) (is.map fun i => PyData.int (f i))
  | [] => .nil
  | i :: is => .cons (.int _) (rpa_rng f is)
theorem snd_lr1 (ok : Ok u gc c k n X xr W) {p p2 pos pos2 : Pos} (hh : k.hot = false) (hg : glB k.sc "list" = true) (hg2 : glB k.sc "range" = true) (ha : Snd X xr W xa (evE u gc c a)) (hs : notStar xa = true) :
    Snd X xr W (.Call (.Name "list" p) [.Call (.Name "range" p2) [xa] [] pos2] [] pos) (evE u gc c (.lr1 a)) := by
  obtain ⟨g1, g2⟩ := gl_of ok hg
  obtain ⟨g3, g4⟩ := gl_of ok hg2
  refine Snd.plain ((pe_listRg (ok.calm hh) g1 (ok.blt .list) (prg_1 g3 ok.blts.1 ha.1 (star_cons hs))).wk fun σ H Q ⟨ρ, F, s, q⟩ => ?_) (fun _ => rfl) fun _ _ _ e => nomatch e
  simp only [evE] at q
  refine ⟨ρ, F, s, Ct.seq q fun o1 ρ1 hz1 v1 H1 F1 s1 t1 r1 c1 => ?_⟩
  split at c1
  · rename_i j
    obtain ⟨hz, c2⟩ := ifc c1
    rw [Bool.and_eq_true, decide_eq_true_eq] at hz
    have r1' : Rp X.K H1 F1 v1 (.int j) := r1
    cases r1'
    have := okR_of hz.1
    have hl := hz.2
    unfold line at hl
    have e : ∀ F', RpA X.K H1 F' (rgV 0 j) (rngL 0 1 j.toNat) := fun F' => by
      unfold rgV rngL
      rw [Int.sub_zero]
      have := rpa_rng (K := X.K) (H := H1) (F := F') (fun i => 0 + (i : Nat) * 1) (List.range j.toNat)
      simpa using this
    exact ⟨j, rfl, ⟨by omega, by omega, this.1, this.2, by omega⟩, fun p hp => c2.res s1 (.lst hp s1.dom (e _))⟩
  · exact c1.not.elim
theorem snd_lr2 (ok : Ok u gc c k n X xr W) {p p2 pos pos2 : Pos} (hh : k.hot = false) (hg : glB k.sc "list" = true) (hg2 : glB k.sc "range" = true) (ha : Snd X xr W xa (evE u gc c a)) (hb : Snd X xr W xb (evE u gc c b)) (hs : notStar xa = true) (hs2 : notStar xb = true) :
    Snd X xr W (.Call (.Name "list" p) [.Call (.Name "range" p2) [xa, xb] [] pos2] [] pos) (evE u gc c (.lr2 a b)) := by
  obtain ⟨g1, g2⟩ := gl_of ok hg
  obtain ⟨g3, g4⟩ := gl_of ok hg2
  refine Snd.plain ((pe_listRg (ok.calm hh) g1 (ok.blt .list) (prg_2 g3 ok.blts.1 ha.1 hb.1 (star_cons hs) (star_cons hs2) (star_any (by simp [hs2])))).wk fun σ H Q ⟨ρ, F, s, q⟩ => ?_) (fun _ => rfl) fun _ _ _ e => nomatch e
  simp only [evE] at q
  refine ⟨ρ, F, s, Ct.seq q fun o1 ρ1 hz1 v1 H1 F1 s1 t1 r1 c1 => ⟨ρ1, F1, s1, Ct.seq c1 fun o2 ρ2 hz2 v2 H2 F2 s2 t2 r2 c2 => ?_⟩⟩
  split at c2
  · rename_i i j
    obtain ⟨hz, c3⟩ := ifc c2
    rw [Bool.and_eq_true, Bool.and_eq_true, decide_eq_true_eq] at hz
    have r1' : Rp X.K H1 F1 v1 (.int i) := r1
    have r2' : Rp X.K H2 F2 v2 (.int j) := r2
    cases r1'
    cases r2'
    have h1 := okR_of hz.1.1
    have h2 := okR_of hz.1.2
    have hl := hz.2
    unfold line at hl
    have e : ∀ F', RpA X.K H2 F' (rgV i j) (rngL i 1 (j - i).toNat) := fun F' => by
      unfold rgV rngL
      have := rpa_rng (K := X.K) (H := H2) (F := F') (fun k => i + (k : Nat) * 1) (List.range (j - i).toNat)
      simpa using this
    exact ⟨i, j, rfl, rfl, ⟨h1.1, h1.2, h2.1, h2.2, by omega⟩, fun p hp => c3.res s2 (.lst hp s2.dom (e _))⟩
  · exact c2.not.elim
theorem snd_lr3 (ok : Ok u gc c k n X xr W) {p p2 pos pos2 : Pos} (hh : k.hot = false) (hg : glB k.sc "list" = true) (hg2 : glB k.sc "range" = true) (ha : Snd X xr W xa (evE u gc c a)) (hb : Snd X xr W xb (evE u gc c b)) (hd : Snd X xr W xd (evE u gc c d)) (hs : notStar xa = true) (hs2 : notStar xb = true) (hs3 : notStar xd = true) :
    Snd X xr W (.Call (.Name "list" p) [.Call (.Name "range" p2) [xa, xb, xd] [] pos2] [] pos) (evE u gc c (.lr3 a b d)) := by
  obtain ⟨g1, g2⟩ := gl_of ok hg
  obtain ⟨g3, g4⟩ := gl_of ok hg2
  refine Snd.plain ((LR.pe_lr (ok.calm hh) g1 (ok.blt .list) (LR.p3 g3 ok.blts.1 (pa_cons ha.1 (pa_cons hb.1 (pa_cons hd.1 pa_nil (star_cons hs3)) (star_cons hs2)) (star_cons hs)) (star_cons hs) (star_any (by simp [hs2, hs3]))) (by rfl)).wk fun σ H Q ⟨ρ, F, s, q⟩ => ?_) (fun _ => rfl) fun _ _ _ e => nomatch e
  simp only [evE] at q
  refine ⟨ρ, F, s, Ct.seq q fun o1 ρ1 hz1 v1 H1 F1 s1 t1 r1 c1 => ⟨ρ1, F1, s1, Ct.seq c1 fun o2 ρ2 hz2 v2 H2 F2 s2 t2 r2 c2 => ⟨ρ2, F2, s2, Ct.seq c2 fun o3 ρ3 hz3 v3 H3 F3 s3 t3 r3 c3 => ?_⟩⟩⟩
  split at c3
  · obtain ⟨hz, c4⟩ := ifc c3
    rw [Bool.and_eq_true, decide_eq_true_eq] at hz
    have r1' : Rp X.K H1 F1 v1 _ := r1
    have r2' : Rp X.K H2 F2 v2 _ := r2
    have r3' : Rp X.K H3 F3 v3 _ := r3
    cases r1'; cases r2'; cases r3'
    have hl := hz.2
    unfold line at hl
    exact ⟨_, _, _, _, rfl, rgC_of hz.1, by omega, fun p hp => c4.res s3 (.lst hp s3.dom (rpa_rng _ _))⟩
  · exact c3.not.elim

/-! ### comprehensions -/
theorem wip_get (ρ : Env) : ∀ (vs : List Nat) (i : Nat), (wip ρ vs)[i]? = if i ∈ vs ∧ i < ρ.length then some .no else ρ[i]?
  | [], i => by simp [wip]
  | v :: vs, i => by
    have ih := wip_get ρ vs i
    have hl : (wip ρ vs).length = ρ.length := by
      have : ∀ vs : List Nat, (wip ρ vs).length = ρ.length := fun vs => by
        induction vs with
        | nil => rfl
        | cons v vs ih => simp [wip, ih]
      exact this vs
    unfold wip
    by_cases e : v = i
    · subst e
      by_cases h : v < ρ.length
      · rw [List.getElem?_set_self (by rw [hl]; exact h)]; simp [h]
      · rw [List.getElem?_eq_none (by simp; omega), if_neg (fun z => h z.2), List.getElem?_eq_none (by omega)]
    · rw [List.getElem?_set_ne e, ih]
      simp [Ne.symm e]
theorem wip_len (ρ : Env) : ∀ vs : List Nat, (wip ρ vs).length = ρ.length
  | [] => rfl
  | v :: vs => by simp [wip, wip_len ρ vs]
theorem wipe_get (σ : L2.St) : ∀ (vs : List Nat) (i : Nat), (wipe σ vs)[i]? = if i ∈ vs ∧ i < σ.length then some none else σ[i]?
  | [], i => by simp [wipe]
  | v :: vs, i => by
    have ih := wipe_get σ vs i
    have hl := wipe_length σ vs
    unfold wipe
    by_cases e : v = i
    · subst e
      by_cases h : v < σ.length
      · rw [List.getElem?_set_self (by rw [hl]; exact h)]; simp [h]
      · rw [List.getElem?_eq_none (by simp; omega), if_neg (fun z => h z.2), List.getElem?_eq_none (by omega)]
    · rw [List.getElem?_set_ne e, ih]
      simp [Ne.symm e]
theorem unw_len (ρ0 ρ : Env) : ∀ vs : List Nat, (unw ρ0 ρ vs).length = ρ.length
  | [] => rfl
  | v :: vs => by simp [unw, unw_len ρ0 ρ vs]
theorem unw_get (ρ0 ρ : Env) : ∀ (vs : List Nat) (i : Nat), (unw ρ0 ρ vs)[i]? = if i ∈ vs ∧ i < ρ.length then some ((ρ0[i]?).getD .no) else ρ[i]?
  | [], i => by simp [unw]
  | v :: vs, i => by
    have ih := unw_get ρ0 ρ vs i
    have hl := unw_len ρ0 ρ vs
    unfold unw
    by_cases e : v = i
    · subst e
      by_cases h : v < ρ.length
      · rw [List.getElem?_set_self (by rw [hl]; exact h)]; simp [h]
      · rw [List.getElem?_eq_none (by simp; omega), if_neg (fun z => h z.2), List.getElem?_eq_none (by omega)]
    · rw [List.getElem?_set_ne e, ih]
      simp [Ne.symm e]
theorem wipe_but {vs ws : List Nat} {σ σ2 : L2.St} (h : But ws (wipe σ vs) σ2) (hw : ∀ i ∈ ws, i ∈ vs) : wipe σ2 vs = wipe σ vs := by
  refine List.ext_getElem? fun i => ?_
  have hl : σ2.length = σ.length := h.1.trans (wipe_length σ vs)
  rw [wipe_get, wipe_get, hl]
  split
  · rfl
  · rename_i hn
    by_cases hi : i < σ.length
    · have hv : i ∉ vs := fun z => hn ⟨z, hi⟩
      have := h.2 i fun z => hv (hw i z)
      rw [this, wipe_get, if_neg hn]
    · rw [List.getElem?_eq_none (by omega), List.getElem?_eq_none (by omega)]
/-- the block's own names forgotten -/
theorem SR.wip {K : PySem.W.Frag} {ρ : Env} {σ : L2.St} {H : Hp} {F : Addr → Prop} (s : SR K xr ρ σ H F) (vs : List Nat) : SR K xr (wip ρ vs) (wipe σ vs) H F ∧ Stp ρ σ H F (RX.wip ρ vs) (wipe σ vs) H F := by
  have at_ : ∀ {i : Nat} {z : Slot}, (RX.wip ρ vs)[i]? = some z → z ≠ .no → ρ[i]? = some z ∧ (wipe σ vs)[i]? = σ[i]? := fun {i z} h hn => by
    rw [wip_get] at h
    split at h
    · cases h; exact (hn rfl).elim
    · rename_i q
      exact ⟨h, by rw [wipe_get, if_neg (by rw [← s.len]; exact q)]⟩
  have ow : ∀ i a, OwnAt (RX.wip ρ vs) (wipe σ vs) i a → OwnAt ρ σ i a := fun i a o => by
    obtain ⟨o, e⟩ := o
    rcases o with ⟨b, xs, o⟩ | ⟨b, xs, o⟩
    · obtain ⟨h1, h2⟩ := at_ o (fun z => nomatch z)
      exact ⟨.inl ⟨b, xs, h1⟩, h2 ▸ e⟩
    · obtain ⟨h1, h2⟩ := at_ o (fun z => nomatch z)
      exact ⟨.inr ⟨b, xs, h1⟩, h2 ▸ e⟩
  refine ⟨⟨by rw [wip_len, wipe_length, s.len], s.dom, fun i d e => ?_, fun i b xs e => ?_, fun i b kvs e => ?_, fun i x e => ?_, fun i j a o1 o2 => s.ap i j a (ow i a o1) (ow j a o2), s.ntb, s.tb⟩,
    ⟨fun _ h => h, fun _ _ _ _ => rfl, fun _ h => h, fun a ⟨i, o⟩ => .inl ⟨i, ow i a o⟩, fun _ h => h, fun _ h => .inl h, fun i xs e => ?_⟩⟩
  · obtain ⟨h1, h2⟩ := at_ e (fun z => nomatch z)
    rw [h2]; exact s.sh i d h1
  · obtain ⟨h1, h2⟩ := at_ e (fun z => nomatch z)
    rw [h2]; exact s.ol i b xs h1
  · obtain ⟨h1, h2⟩ := at_ e (fun z => nomatch z)
    exact s.od i b kvs h1
  · obtain ⟨h1, h2⟩ := at_ e (fun z => nomatch z)
    rw [h2]; exact s.ex i x h1
  · obtain ⟨h1, h2⟩ := at_ e (fun z => nomatch z)
    exact ⟨h2, xs, h1⟩
/-- .. and taken up again -/
theorem SR.unw {K : PySem.W.Frag} {ρ ρ' : Env} {σ : L2.St} {H H' : Hp} {F F' : Addr → Prop} {vs : List Nat} (s : SR K xr ρ σ H F) (s' : SR K xr (RX.wip ρ' vs) (wipe σ vs) H' F') (t : Stp (RX.wip ρ vs) (wipe σ vs) H F (RX.wip ρ' vs) (wipe σ vs) H' F') :
    SR K xr (RX.unw ρ ρ' vs) σ H' F' ∧ Stp ρ σ H F (RX.unw ρ ρ' vs) σ H' F' := by
  have sw := (s.wip vs).1
  have l' : ρ'.length = σ.length := by have := s'.len; rw [wip_len, wipe_length] at this; exact this
  have lens : ρ.length = σ.length := s.len
  -- a slot of the end is one of the block's end, or one ahead of it
  have at_ : ∀ {i : Nat} {z : Slot}, (RX.unw ρ ρ' vs)[i]? = some z → z ≠ .no → (i ∈ vs ∧ ρ[i]? = some z) ∨ (i ∉ vs ∧ (RX.wip ρ' vs)[i]? = some z ∧ (wipe σ vs)[i]? = σ[i]?) := fun {i z} h hn => by
    rw [unw_get] at h
    split at h
    · rename_i q
      refine .inl ⟨q.1, ?_⟩
      have : i < ρ.length := by omega
      rw [List.getElem?_eq_getElem this] at h ⊢
      exact h
    · rename_i q
      have hi : i < ρ'.length := (List.getElem?_eq_some_iff.mp h).1
      have nv : i ∉ vs := fun z => q ⟨z, hi⟩
      exact .inr ⟨nv, by rw [wip_get, if_neg q]; exact h, by rw [wipe_get, if_neg fun z => nv z.1]⟩
  have keepOwn : ∀ {i : Nat} {a : Addr}, i ∈ vs → OwnAt ρ σ i a → ¬ Ow (RX.wip ρ vs) (wipe σ vs) a := fun {i a} hv o ⟨j, oj⟩ => by
    have h1 : j ∉ vs := fun hj => by
      have e := oj.2
      rw [wipe_get] at e
      split at e
      · cases e
      · rename_i q
        have : j < σ.length := (List.getElem?_eq_some_iff.mp e).1
        exact q ⟨hj, this⟩
    have e := oj.2
    rw [wipe_get, if_neg fun z => h1 z.1] at e
    have oj' : isOwn ρ j := by
      rcases oj.1 with ⟨b, xs, q⟩ | ⟨b, xs, q⟩
      · rw [wip_get, if_neg fun z => h1 z.1] at q; exact .inl ⟨b, xs, q⟩
      · rw [wip_get, if_neg fun z => h1 z.1] at q; exact .inr ⟨b, xs, q⟩
    exact h1 (s.ap i j a o ⟨oj', e⟩ ▸ hv)
  have fz : ∀ a, F a → H' a = H a := t.frz sw
  have ownOf : ∀ i a, OwnAt (RX.unw ρ ρ' vs) σ i a → (i ∈ vs ∧ OwnAt ρ σ i a) ∨ (i ∉ vs ∧ OwnAt (RX.wip ρ' vs) (wipe σ vs) i a) := fun i a o => by
    obtain ⟨o, e⟩ := o
    rcases o with ⟨b, xs, o⟩ | ⟨b, xs, o⟩
    · rcases at_ o (fun z => nomatch z) with ⟨h1, h2⟩ | ⟨h1, h2, h3⟩
      · exact .inl ⟨h1, .inl ⟨b, xs, h2⟩, e⟩
      · exact .inr ⟨h1, .inl ⟨b, xs, h2⟩, h3.trans e⟩
    · rcases at_ o (fun z => nomatch z) with ⟨h1, h2⟩ | ⟨h1, h2, h3⟩
      · exact .inl ⟨h1, .inr ⟨b, xs, h2⟩, e⟩
      · exact .inr ⟨h1, .inr ⟨b, xs, h2⟩, h3.trans e⟩
  -- an address of a slot that was put aside is of no slot of the block
  have part : ∀ {i j : Nat} {a : Addr}, i ∈ vs → OwnAt ρ σ i a → OwnAt (RX.wip ρ' vs) (wipe σ vs) j a → False := fun {i j a} hv o o' => by
    rcases t.own a ⟨j, o'⟩ with q | q
    · exact keepOwn hv o q
    · exact s.owH ⟨i, o⟩ q
  refine ⟨⟨by rw [unw_len]; exact l', s'.dom, fun i d e => ?_, fun i b xs e => ?_, fun i b kvs e => ?_, fun i x e => ?_, fun i j a o1 o2 => ?_, s'.ntb, s'.tb⟩, ⟨t.inc, fun a h nt no => t.keep a h nt fun o => no ?_, t.tab, fun a ⟨i, o⟩ => ?_, t.stay, fun a f => ?_, fun i xs e => ?_⟩⟩
  · rcases at_ e (fun z => nomatch z) with ⟨h1, h2⟩ | ⟨h1, h2, h3⟩
    · obtain ⟨v, h3, h4⟩ := s.sh i d h2
      exact ⟨v, h3, h4.mono t.inc fz⟩
    · rw [← h3]; exact s'.sh i d h2
  · rcases at_ e (fun z => nomatch z) with ⟨h1, h2⟩ | ⟨h1, h2, h3⟩
    · obtain ⟨a, ws, h3, h4, h5, h6⟩ := s.ol i b xs h2
      have o : OwnAt ρ σ i a := ⟨.inl ⟨b, xs, h2⟩, h3⟩
      have hn : H a ≠ none := by rw [h4]; exact fun z => nomatch z
      refine ⟨a, ws, h3, (t.keep a hn (.lst h4) (keepOwn h1 o)).trans h4, fun f => ?_, h6.mono t.inc fz⟩
      rcases t.new a f with q | q | q
      · exact h5 q
      · exact keepOwn h1 o q
      · exact hn q
    · rw [← h3]; exact s'.ol i b xs h2
  · rcases at_ e (fun z => nomatch z) with ⟨h1, h2⟩ | ⟨h1, h2, h3⟩
    · exact s.od i b kvs h2
    · exact s'.od i b kvs h2
  · rcases at_ e (fun z => nomatch z) with ⟨h1, h2⟩ | ⟨h1, h2, h3⟩
    · exact s.ex i x h2
    · rw [← h3]; exact s'.ex i x h2
  · rcases ownOf i a o1 with ⟨h1, p1⟩ | ⟨h1, p1⟩
    · rcases ownOf j a o2 with ⟨h2, p2⟩ | ⟨h2, p2⟩
      · exact s.ap i j a p1 p2
      · exact (part h1 p1 p2).elim
    · rcases ownOf j a o2 with ⟨h2, p2⟩ | ⟨h2, p2⟩
      · exact (part h2 p2 p1).elim
      · exact s'.ap i j a p1 p2
  · rcases (s.wip vs).2.own a o with q | q
    · exact q
    · exact (h q).elim
  · rcases ownOf i a o with ⟨h1, p1⟩ | ⟨h1, p1⟩
    · exact .inl ⟨i, p1⟩
    · rcases t.own a ⟨i, p1⟩ with q | q
      · exact (s.wip vs).2.own a q
      · exact .inr q
  · rcases t.new a f with q | q | q
    · exact .inl q
    · rcases (s.wip vs).2.own a q with q | q
      · exact .inr (.inl q)
      · exact .inr (.inr q)
    · exact .inr (.inr q)
  · rcases at_ e (fun z => nomatch z) with ⟨h1, h2⟩ | ⟨h1, h2, h3⟩
    · exact ⟨rfl, xs, h2⟩
    · obtain ⟨q1, ys, q2⟩ := t.bor i xs h2
      refine ⟨rfl, ys, ?_⟩
      rw [wip_get, if_neg fun z => h1 z.1] at q2
      exact q2

/-! ### pairs -/
def YPairM (xs ys : Nat → Option V) : Nat → Hp → V → Hp → Prop := fun i H v H' => ∃ T x y ho, v = .ref T ∧ H T = none ∧ TupHO ho [x, y] ∧ H' = upd H T ho ∧ xs i = some x ∧ ys i = some y
theorem walk_weak {J : L2.It} {m : Nat} {G : Hp → Prop} {fx fy : Nat → Option V} (hm : smode = false) (w : Walk J m G (YPair fx fy)) : Walk J m G (YPairM fx fy) :=
  w.mono (fun _ h => h) fun i H v H' _ _ ⟨T, x, y, h1, h2, h3, h4⟩ => ⟨T, x, y, _, h1, h2, .weak hm, h3, h4⟩
theorem walk_prs {K : PySem.W.Frag} {H1 : Hp} {F1 : Addr → Prop} {J : L2.It} {items : List D} {m : Nat} {G : Hp → Prop} {fx fy : Nat → Option V} (w : Walk J m G (YPairM fx fy)) (hm : m = items.length) (hG : ∀ H, (∀ a, F1 a → H a = H1 a) → G H)
    (hY : ∀ i x y, i < m → fx i = some x → fy i = some y → ∃ dx dy, items[i]? = some (.tuple [dx, dy]) ∧ Rp K H1 F1 x dx ∧ Rp K H1 F1 y dy) : IsWalk K J items H1 F1 := by
  subst hm
  refine w.mono hG fun i H v H' hi hg yy => ?_
  obtain ⟨T, x, y, ho, rfl, hT, ht, rfl, ex, ey⟩ := yy
  obtain ⟨dx, dy, e, rx, ry⟩ := hY i x y hi ex ey
  have old : ∀ a, H a ≠ none → upd H T ho a = H a := fun a h => upd_ne fun z => h (z ▸ hT)
  refine ⟨old, fun Fc h1 h2 => ⟨fun a => Fc a ∨ a = T, fun _ h => .inl h, fun a h => h.elim .inl fun z => .inr (z ▸ hT), fun a h => ?_, fun a h hn => ?_, .tuple [dx, dy], e, ?_⟩⟩
  · rcases h with h | h
    · rw [old a (h2 a h)]; exact h2 a h
    · rw [h, upd_same]; exact fun z => nomatch z
  · rcases h with h | h
    · exact (h2 a h hn).elim
    · rw [h]; exact fun ps q => ht.nt ps (by rw [upd_same] at q; exact Option.some.inj q)
  · have ko : ∀ {z : V} {d : D}, Rp K H1 F1 z d → Rp K (upd H T ho) (fun a => Fc a ∨ a = T) z d := fun r => r.mono (fun a f => .inl (h1 a f)) fun a f => by rw [old a (h2 a (h1 a f)), hg a f]
    exact .tup (.new ht) (.inr rfl) (.cons (ko rx) (.cons (ko ry) .nil))
theorem enuL_len : ∀ (i : Nat) (xs : List D), (enuL i xs).length = xs.length
  | _, [] => rfl
  | i, x :: xs => congrArg (· + 1) (enuL_len (i + 1) xs)
theorem enuL_at : ∀ (i j : Nat) (xs : List D), (enuL i xs)[j]? = (xs[j]?).map fun x => .tuple [.int ((i + j : Nat) : Int), x]
  | _, _, [] => by simp [enuL]
  | i, 0, x :: xs => by simp [enuL]
  | i, j + 1, x :: xs => by
    have := enuL_at (i + 1) j xs
    simp only [enuL, List.getElem?_cons_succ, this]
    rw [show i + 1 + j = i + (j + 1) by omega]
theorem zipL_len : ∀ (xs ys : List D), (zipL xs ys).length = min xs.length ys.length
  | [], _ => by simp [zipL]
  | _ :: _, [] => by simp [zipL]
  | x :: xs, y :: ys => by
    have := zipL_len xs ys
    simp only [zipL, List.length_cons, this]
    omega
theorem zipL_at : ∀ (j : Nat) (xs ys : List D) (x y : D), xs[j]? = some x → ys[j]? = some y → (zipL xs ys)[j]? = some (.tuple [x, y])
  | _, [], _, _, _, h, _ => by simp at h
  | _, _ :: _, [], _, _, _, h => by simp at h
  | 0, x :: xs, y :: ys, _, _, h1, h2 => by
    cases h1; cases h2; rfl
  | j + 1, x :: xs, y :: ys, a, b, h1, h2 => by
    simp only [zipL, List.getElem?_cons_succ]
    exact zipL_at j xs ys a b (by simpa using h1) (by simpa using h2)
theorem walk_enu (hm : smode = false) {K : PySem.W.Frag} {H1 : Hp} {F1 : Addr → Prop} {a : Addr} {xs : List V} {ds : List D} (h : (Rd H1 a (.lst xs) ∧ F1 a) ∨ KL K a xs) (r : RpA K H1 F1 xs ds) : IsWalk K (Ite K a) (enuL 0 ds) H1 F1 := by
  refine walk_prs (walk_weak hm walk_enum) ((r.length).trans (enuL_len 0 ds).symm) (fun H hg => ?_) fun i x y hi ex ey => ?_
  · rcases h with ⟨h, f⟩ | h
    · exact .inl (Rd.keep (hg a f) h)
    · exact .inr h
  · cases ex
    obtain ⟨d, e, rd⟩ := r.get ey
    exact ⟨.int (i : Nat), d, by rw [enuL_at, e, Nat.zero_add]; rfl, .int _, rd⟩
theorem walk_enuT' {K : PySem.W.Frag} {a : Addr} {xs : List V} : Walk (EnT.IteT K a) xs.length (fun H => SqT K H a xs) (YPairM (fun i => some (.int (i : Nat))) (fun i => xs[i]?)) :=
  ⟨fun i H hi q => ⟨xs, xs[i], q, by simp [hi]⟩, fun H q => ⟨xs, q, Nat.le_refl _⟩, fun i H v H' hi q ⟨T, x, ho, h1, h2, ht, h3, h4⟩ => ⟨T, _, x, ho, h1, h2, ht, h3, rfl, h4 xs q⟩⟩
theorem walk_enuT {K : PySem.W.Frag} {H1 : Hp} {F1 : Addr → Prop} {a : Addr} {xs : List V} {ds : List D} (h : (Rd H1 a (.tup xs) ∧ F1 a) ∨ KT K a xs) (r : RpA K H1 F1 xs ds) : IsWalk K (EnT.IteT K a) (enuL 0 ds) H1 F1 := by
  refine walk_prs walk_enuT' ((r.length).trans (enuL_len 0 ds).symm) (fun H hg => ?_) fun i x y hi ex ey => ?_
  · rcases h with ⟨h, f⟩ | h
    · exact .inl (Rd.keep (hg a f) h)
    · exact h.sq
  · cases ex
    obtain ⟨d, e, rd⟩ := r.get ey
    exact ⟨.int (i : Nat), d, by rw [enuL_at, e, Nat.zero_add]; rfl, .int _, rd⟩
theorem walk_zp (hm : smode = false) {K : PySem.W.Frag} {H1 : Hp} {F1 : Addr → Prop} {a b : Addr} {xs ys : List V} {ds es : List D} (h : (Rd H1 a (.lst xs) ∧ F1 a) ∨ KL K a xs) (r : RpA K H1 F1 xs ds) (h' : (Rd H1 b (.lst ys) ∧ F1 b) ∨ KL K b ys) (r' : RpA K H1 F1 ys es) : IsWalk K (Itz K a b) (zipL ds es) H1 F1 := by
  refine walk_prs (walk_weak hm (walk_zip (xs := xs) (ys := ys) rfl)) (by rw [zipL_len, r.length, r'.length]) (fun H hg => ⟨?_, ?_⟩) fun i x y hi ex ey => ?_
  · rcases h with ⟨h, f⟩ | h
    · exact .inl (Rd.keep (hg a f) h)
    · exact .inr h
  · rcases h' with ⟨h, f⟩ | h
    · exact .inl (Rd.keep (hg b f) h)
    · exact .inr h
  · obtain ⟨d, e, rd⟩ := r.get ex
    obtain ⟨d', e', rd'⟩ := r'.get ey
    exact ⟨d, d', zipL_at i ds es d d' e e', rd, rd'⟩
theorem walk_zpT' {K : PySem.W.Frag} {a b : Addr} {xs ys : List V} : Walk (RZ.ItzT K a b) (min xs.length ys.length) (fun H => SqT K H a xs ∧ SqT K H b ys) (YPair (fun i => xs[i]?) (fun i => ys[i]?)) := by
  refine ⟨fun i H hi q => ?_, fun H q => ⟨xs, ys, q.1, q.2, by omega⟩, fun i H v H' hi q ⟨T, x, y, h1, h2, h3, h4, h5⟩ => ⟨T, x, y, h1, h2, h3, h4 xs q.1, h5 ys q.2⟩⟩
  have h1 : i < xs.length := by omega
  have h2 : i < ys.length := by omega
  exact ⟨xs, ys, xs[i], ys[i], q.1, q.2, by simp [h1], by simp [h2]⟩
theorem walk_zpT (hm : smode = false) {K : PySem.W.Frag} {H1 : Hp} {F1 : Addr → Prop} {a b : Addr} {xs ys : List V} {ds es : List D} (h : (Rd H1 a (.tup xs) ∧ F1 a) ∨ KT K a xs) (r : RpA K H1 F1 xs ds) (h' : (Rd H1 b (.tup ys) ∧ F1 b) ∨ KT K b ys) (r' : RpA K H1 F1 ys es) : IsWalk K (RZ.ItzT K a b) (zipL ds es) H1 F1 := by
  refine walk_prs (walk_weak hm (walk_zpT' (xs := xs) (ys := ys))) (by rw [zipL_len, r.length, r'.length]) (fun H hg => ⟨?_, ?_⟩) fun i x y hi ex ey => ?_
  · rcases h with ⟨h, f⟩ | h
    · exact .inl (Rd.keep (hg a f) h)
    · exact h.sq
  · rcases h' with ⟨h, f⟩ | h
    · exact .inl (Rd.keep (hg b f) h)
    · exact h.sq
  · obtain ⟨d, e, rd⟩ := r.get ex
    obtain ⟨d', e', rd'⟩ := r'.get ey
    exact ⟨d, d', zipL_at i ds es d d' e e', rd, rd'⟩
theorem walk_rvl {K : PySem.W.Frag} {H1 : Hp} {F1 : Addr → Prop} {a : Addr} {xs : List V} {ds : List D} (h : (Rd H1 a (.lst xs) ∧ F1 a) ∨ KL K a xs) (r : RpA K H1 F1 xs ds) : IsWalk K (Itv K a xs.length) ds.reverse H1 F1 := by
  refine walk_same walk_rev (r.length.trans List.length_reverse.symm) (fun H hg => ?_) fun i H x H' hi hg ⟨e, y⟩ => ⟨e, ?_⟩
  · rcases h with ⟨h, f⟩ | h
    · exact .inl (Rd.keep (hg a f) h)
    · exact .inr h
  · obtain ⟨d, e, rd⟩ := r.get y
    have hl := r.length
    exact ⟨d, by rw [List.getElem?_reverse (by omega), ← hl]; exact e, rd⟩
theorem walk_rvt' {K : PySem.W.Frag} {a : Addr} {xs : List V} : Walk (RT.ItvT K a xs.length) xs.length (fun H => SqT K H a xs) (fun i H x H' => H' = H ∧ xs[xs.length - 1 - i]? = some x) :=
  ⟨fun i H hi q => ⟨hi, xs, xs[xs.length - 1 - i]'(by omega), q, by simp [show xs.length - 1 - i < xs.length by omega]⟩, fun H q => Nat.le_refl _, fun i H x H' hi q y => ⟨y.1, y.2 xs q⟩⟩
theorem walk_rvt {K : PySem.W.Frag} {H1 : Hp} {F1 : Addr → Prop} {a : Addr} {xs : List V} {ds : List D} (h : (Rd H1 a (.tup xs) ∧ F1 a) ∨ KT K a xs) (r : RpA K H1 F1 xs ds) : IsWalk K (RT.ItvT K a xs.length) ds.reverse H1 F1 := by
  refine walk_same walk_rvt' (r.length.trans List.length_reverse.symm) (fun H hg => ?_) fun i H x H' hi hg ⟨e, y⟩ => ⟨e, ?_⟩
  · rcases h with ⟨h, f⟩ | h
    · exact .inl (Rd.keep (hg a f) h)
    · exact h.sq
  · obtain ⟨d, e, rd⟩ := r.get y
    have hl := r.length
    exact ⟨d, by rw [List.getElem?_reverse (by omega), ← hl]; exact e, rd⟩
theorem sI_enu (ok : Ok u gc c k n X xr W) {elts : List PySem.Expr} {kk : Nat} {tpos p pos : Pos} (hg : glB k.sc "enumerate" = true) (ha : PE X xa (tM X.K X.mg xr W (relO X.K) (evE u gc c a))) (hs : notStar xa = true) :
    PI X (.Tuple elts kk tpos) (.Call (.Name "enumerate" p) [xa] [] pos) (tM X.K X.mg xr W (relI X.K) (evIt u gc c (.enu a))) := by
  obtain ⟨g1, g2⟩ := gl_of ok hg
  refine (EnT.pi_en g1 (ok.rev "enumerate" (by simp [moreL])) ha (star_cons hs)).wk fun σ H R ⟨ρ, F, s, q⟩ => ?_
  simp only [evIt] at q
  refine ⟨ρ, F, s, Ct.seqF q fun d v ρ1 H1 F1 s1 t1 r1 c1 => ?_⟩
  obtain ⟨xs, e, c2⟩ := map1 c1
  unfold itemsE at e
  split at e
  · have hm : smode = false := by
      cases z : smode with
      | true => rw [z, if_pos rfl] at e; cases e
      | false => rfl
    rw [hm, if_neg Bool.false_ne_true] at e
    cases e
    cases r1 with
    | lst h f r => exact ⟨_, _, rfl, .inl ⟨.inl h, c2 _ H1 F1 s1 .refl (walk_enu hm (.inl ⟨h, f⟩) r)⟩⟩
    | lstK h r => exact ⟨_, _, rfl, .inl ⟨.inr h, c2 _ H1 F1 s1 .refl (walk_enu hm (.inr h) r)⟩⟩
  · cases e
    cases r1 with
    | tup h f r => exact ⟨_, _, rfl, .inr ⟨.inl h.rd, c2 _ H1 F1 s1 .refl (walk_enuT (.inl ⟨h.rd, f⟩) r)⟩⟩
    | tupK h r => exact ⟨_, _, rfl, .inr ⟨h.sq, c2 _ H1 F1 s1 .refl (walk_enuT (.inr h) r)⟩⟩
  · cases e
theorem sI_rev (ok : Ok u gc c k n X xr W) {p pos : Pos} (hg : glB k.sc "reversed" = true) (ha : PE X xa (tM X.K X.mg xr W (relO X.K) (evE u gc c a))) (hs : notStar xa = true) :
    PI X tg (.Call (.Name "reversed" p) [xa] [] pos) (tM X.K X.mg xr W (relI X.K) (evIt u gc c (.rev a))) := by
  obtain ⟨g1, g2⟩ := gl_of ok hg
  refine (RT.pi_revA g1 (ok.rev "reversed" (by simp [moreL])) ha (star_cons hs)).wk fun σ H R ⟨ρ, F, s, q⟩ => ?_
  simp only [evIt] at q
  refine ⟨ρ, F, s, Ct.seqF q fun d v ρ1 H1 F1 s1 t1 r1 c1 => ?_⟩
  obtain ⟨xs, e, c2⟩ := map1 c1
  unfold itemsD at e
  split at e
  · cases e
    cases r1 with
    | lst h f r => exact ⟨_, _, rfl, .inl ⟨.inl h, c2 _ H1 F1 s1 .refl (walk_rvl (.inl ⟨h, f⟩) r)⟩⟩
    | lstK h r => exact ⟨_, _, rfl, .inl ⟨.inr h, c2 _ H1 F1 s1 .refl (walk_rvl (.inr h) r)⟩⟩
  · cases e
    cases r1 with
    | tup h f r => exact ⟨_, _, rfl, .inr ⟨.inl h.rd, c2 _ H1 F1 s1 .refl (walk_rvt (.inl ⟨h.rd, f⟩) r)⟩⟩
    | tupK h r => exact ⟨_, _, rfl, .inr ⟨h.sq, c2 _ H1 F1 s1 .refl (walk_rvt (.inr h) r)⟩⟩
  · cases e
theorem sI_zip (ok : Ok u gc c k n X xr W) {elts : List PySem.Expr} {kk : Nat} {tpos p pos : Pos} (hg : glB k.sc "zip" = true) (ha : PE X xa (tM X.K X.mg xr W (relO X.K) (evE u gc c a))) (hb : PE X xb (tM X.K X.mg xr W (relO X.K) (evE u gc c b))) (hs : notStar xa = true) (hs2 : notStar xb = true) :
    PI X (.Tuple elts kk tpos) (.Call (.Name "zip" p) [xa, xb] [] pos) (tM X.K X.mg xr W (relI X.K) (evIt u gc c (.zip a b))) := by
  obtain ⟨g1, g2⟩ := gl_of ok hg
  refine (RZ.pi_zipA g1 (ok.rev "zip" (by simp [moreL])) (pa_cons ha (pa_cons hb pa_nil (star_cons hs2)) (star_cons hs)) (star_cons hs) (star_any (by simp [hs2]))).wk fun σ H R ⟨ρ, F, s, q⟩ => ?_
  simp only [evIt] at q
  refine ⟨ρ, F, s, Ct.seqF q fun d v ρ1 H1 F1 s1 t1 r1 c1 => ⟨ρ1, F1, s1, Ct.seqF c1 fun d' v' ρ2 H2 F2 s2 t2 r2 c2 => ?_⟩⟩
  have r1' : Rp X.K H2 F2 v d := r1.mono t2.inc (t2.frz s1)
  obtain ⟨xs, e, c3⟩ := map1 c2
  have hm : smode = false := by
    cases z : smode with
    | true => unfold zipD at e; rw [z] at e; split at e <;> cases e
    | false => rfl
  unfold zipD at e
  rw [hm] at e
  simp only [Bool.false_eq_true, if_false] at e
  split at e
  · cases e
    have key : ∀ {a b : Addr} {ys zs : List V} {es fs : List D}, SqL X.K H2 a ys ∧ SqL X.K H2 b zs → ((Rd H2 a (.lst ys) ∧ F2 a) ∨ KL X.K a ys) → ((Rd H2 b (.lst zs) ∧ F2 b) ∨ KL X.K b zs) → RpA X.K H2 F2 ys es → RpA X.K H2 F2 zs fs → IsWalk X.K (Itz X.K a b) (zipL es fs) H2 F2 := fun _ h1 h2 q1 q2 => walk_zp hm h1 q1 h2 q2
    cases r1' with
    | lst h f r =>
      cases r2 with
      | lst h' f' r' => exact ⟨_, _, _, _, rfl, .inl ⟨.inl h, .inl h', c3 _ H2 F2 s2 .refl (walk_zp hm (.inl ⟨h, f⟩) r (.inl ⟨h', f'⟩) r')⟩⟩
      | lstK h' r' => exact ⟨_, _, _, _, rfl, .inl ⟨.inl h, .inr h', c3 _ H2 F2 s2 .refl (walk_zp hm (.inl ⟨h, f⟩) r (.inr h') r')⟩⟩
    | lstK h r =>
      cases r2 with
      | lst h' f' r' => exact ⟨_, _, _, _, rfl, .inl ⟨.inr h, .inl h', c3 _ H2 F2 s2 .refl (walk_zp hm (.inr h) r (.inl ⟨h', f'⟩) r')⟩⟩
      | lstK h' r' => exact ⟨_, _, _, _, rfl, .inl ⟨.inr h, .inr h', c3 _ H2 F2 s2 .refl (walk_zp hm (.inr h) r (.inr h') r')⟩⟩
  · cases e
    cases r1' with
    | tup h f r =>
      cases r2 with
      | tup h' f' r' => exact ⟨_, _, _, _, rfl, .inr ⟨.inl h.rd, .inl h'.rd, c3 _ H2 F2 s2 .refl (walk_zpT hm (.inl ⟨h.rd, f⟩) r (.inl ⟨h'.rd, f'⟩) r')⟩⟩
      | tupK h' r' => exact ⟨_, _, _, _, rfl, .inr ⟨.inl h.rd, h'.sq, c3 _ H2 F2 s2 .refl (walk_zpT hm (.inl ⟨h.rd, f⟩) r (.inr h') r')⟩⟩
    | tupK h r =>
      cases r2 with
      | tup h' f' r' => exact ⟨_, _, _, _, rfl, .inr ⟨h.sq, .inl h'.rd, c3 _ H2 F2 s2 .refl (walk_zpT hm (.inr h) r (.inl ⟨h'.rd, f'⟩) r')⟩⟩
      | tupK h' r' => exact ⟨_, _, _, _, rfl, .inr ⟨h.sq, h'.sq, c3 _ H2 F2 s2 .refl (walk_zpT hm (.inr h) r (.inr h') r')⟩⟩
  · cases e
end
end RX

end
section
set_option Elab.async false
set_option linter.all false
set_option maxRecDepth 100000
set_option maxHeartbeats 4000000
set_option autoImplicit false
namespace RX
open PySem PySem.Spec PyProof.Rows L2
section
variable {u : Sub} {gc : List D} {c : CF} {k : Kx} {n : Nat} {X : Cx} {xr : XR} {W : WX}
theorem takesN0 {X : Cx} : L2N.Takes X WF := fun _ _ z => by
  obtain ⟨_, _, _, _, _, _, _, _, _, _, _, _, _, _, _, _, z⟩ := z
  exact z.elim
theorem Ok.blk (ok : Ok u gc c k n X xr W) {scope : Scope} {own : List (Str × Nat)} (hb : blkC k.N k.sc scope own = true) (s : Shared) (H : Hp) (C : Addr) (cl : List (Str × Addr)) (fp : List Addr) :
    Ok u gc c (k.block scope) n (X.blk s H scope (compEnvC scope cl C X.env) fp) xr WF where
  N := ok.N
  nd := ok.nd
  sc := by
    have : (compEnvC scope cl C X.env).scope = relS scope X.env.scope := rfl
    show (compEnvC scope cl C X.env).scope = relS scope k.sc
    rw [this, ok.sc]
  kind := by
    have := (blkOk_by hb).kind
    exact this
  calm := ok.calm
  room := ok.room
  units := ok.units
  tk := takesN0
  own := PassesOwn.never
  fn := fun x hx => by
    obtain ⟨y, hy, e⟩ := List.mem_filterMap.mp hx
    split at e
    · rename_i hc
      cases e
      have := (blkOk_by hb).uniq y hy
      show (scope.names.lookup y.1 == some .cell) = true
      rw [this, hc]; rfl
    · cases e
  blt := ok.blt
  blts := ok.blts
  noex := ok.noex
  hotp := fun z => nomatch z
  xsh := fun z => nomatch z
  roomH := ok.roomH
  rev := ok.rev
  mb := ok.mb
  gen := ok.gen
  sub := ok.sub
  cls := ok.cls
  exc := ok.exc
  cst := ok.cst
  fns := ok.fns
  hfn := ok.hfn
/-- a list's turns, one after another: what stands of the new list at D -/
structure LcI (K : PySem.W.Frag) (xr : XR) (own : List Nat) (stp : D → Env → Option (Option D × Env)) (items yall : List D) (ρ1 ρe : Env) (σ : L2.St) (H1 : Hp) (F1 : Addr → Prop) (Dd : Addr) (i : Nat) (H : Hp) : Prop where
  ex : ∃ (ρ : Env) (F : Addr → Prop) (acc : List V) (ys rest : List D), SR K xr (wip ρ own) (wipe σ own) H F ∧ Stp (wip ρ1 own) (wipe σ own) H1 F1 (wip ρ own) (wipe σ own) H F ∧
    H Dd = some (.lst acc) ∧ ¬ F Dd ∧ ¬ Ow (wip ρ own) (wipe σ own) Dd ∧ RpA K H F acc ys ∧ acc.length ≤ i ∧ lcL own stp (items.drop i) ρ = some (rest, ρe) ∧ ys ++ rest = yall
/-- another object that no slot owns and no one shares is written -/
theorem SR.updD {K : PySem.W.Frag} {ρ : Env} {σ : L2.St} {H : Hp} {F : Addr → Prop} {p : Addr} {o : HO} (s : SR K xr ρ σ H F) (nf : ¬ F p) (no : ¬ Ow ρ σ p) (np : ∀ a, GxR.TabG H a → a ≠ p) : SR K xr ρ σ (upd H p o) F := by
  have fz : ∀ x, F x → upd H p o x = H x := fun x f => upd_ne fun z => nf (z ▸ f)
  refine ⟨s.len, fun a f => by rw [fz a f]; exact s.dom a f, fun i d e => ?_, fun i b xs e => ?_, s.od, s.ex, s.ap, fun a f => (s.ntb a f).of (fz a f), fun a h => tab_eq (s.tb a h) (upd_ne (np a (s.tb a h)))⟩
  · obtain ⟨v, h1, h2⟩ := s.sh i d e
    exact ⟨v, h1, h2.mono (fun _ f => f) fz⟩
  · obtain ⟨a, vs, h1, h2, h3, h4⟩ := s.ol i b xs e
    refine ⟨a, vs, h1, ?_, h3, h4.mono (fun _ f => f) fz⟩
    rw [upd_ne]; exact h2
    intro z; subst z; exact no ⟨i, .inl ⟨b, xs, e⟩, h1⟩
/-- .. that was not there at the start -/
theorem Stp.updD {ρ ρ' : Env} {σ σ' : L2.St} {H H' : Hp} {F F' : Addr → Prop} {p : Addr} {o : HO} (t : Stp ρ σ H F ρ' σ' H' F') (hn : H p = none) : Stp ρ σ H F ρ' σ' (upd H' p o) F' :=
  ⟨t.inc, fun a h nt no => by rw [upd_ne (fun z => h (by rw [z]; exact hn))]; exact t.keep a h nt no, fun a h => tab_eq (t.tab a h) (upd_ne fun z => tab_some h (by rw [z]; exact hn)), t.own, fun a h => by rw [upd_ne (fun z => h (by rw [z]; exact hn))]; exact t.stay a h, t.new, t.bor⟩
theorem wip_same {ρ ρ2 : Env} {vs : List Nat} (h : ρ2.length = ρ.length) : (RX.wip (RX.wip ρ vs) vs) = RX.wip ρ vs := by
  refine List.ext_getElem? fun i => ?_
  rw [wip_get, wip_get, wip_len]
  split
  · rfl
  · rfl
theorem pts_two {X : Cx} {es : List PySem.Expr} {t : TT} (h : PTs X es t) : PTs X es t := h
theorem own_snd (N : List Str) : ∀ own : List Nat, (own.map fun i => ((N[i]?).getD Str.empty, i)).map (·.2) = own
  | [] => rfl
  | a :: l => by simp only [List.map_cons]; rw [own_snd N l]
theorem bnd_assoc {α β γ : Type} {m : Option (Out α)} {f : α → Env → Option (Out β)} {h : β → Env → Option (Out γ)} : bnd (bnd m f) h = bnd m fun a ρ => bnd (f a ρ) h := by
  cases m with
  | none => rfl
  | some o => cases o <;> rfl
def stpOf (u : Sub) (gc : List D) (c : CF) (g : G) (cs : Es) (e : E) : D → Env → Option (Option D × Env) := fun (d : D) (ρ : Env) => (asgG g d ρ).bind fun ρ => (noEx (evTs u gc c cs ρ)).bind fun (t, ρ) => match t with
          | true => (noEx (bnd (evE u gc c e ρ) fun y ρ => frz y ρ)).map fun (y, ρ) => (some y, ρ)
          | false => some (none, ρ)
theorem lc_turns {own : List Nat} {g : G} {cs : Es} {e : E} {items yall : List D} {ρ1 ρe : Env} {σ : L2.St} {H1 : Hp} {F1 : Addr → Prop} {Q : VK} {Dd : Addr} (hv : (gVars g).all (fun i => own.contains i) = true) (s1 : SR X.K xr ρ1 σ H1 F1) (hz : items.length ≤ line)
    (e1 : lcL own (stpOf u gc c g cs e) items ρ1 = some (yall, ρe)) (c3 : Ct X.K X.mg xr W (relO X.K) ρ1 σ H1 F1 (some (.ok (.new yall) (unw ρ1 ρe own))) Q) (hD : H1 Dd = none) :
    ∃ Pv : Nat → Hp → Prop, Pv 0 (upd H1 Dd (.lst [])) ∧ (∀ i H, Pv i H → ∀ a, F1 a → H a = H1 a) ∧
      (∀ i x H2 H3, i < items.length → Pv i H2 → ((∀ a, H2 a ≠ none → H3 a = H2 a) ∧ ∀ Fc : Addr → Prop, (∀ a, F1 a → Fc a) → (∀ a, Fc a → H2 a ≠ none) →
          ∃ F', (∀ a, Fc a → F' a) ∧ (∀ a, F' a → Fc a ∨ H2 a = none) ∧ (∀ a, F' a → H3 a ≠ none) ∧ (∀ a, F' a → H2 a = none → NT H3 a) ∧ ∃ d, items[i]? = some d ∧ Rp X.K H3 F' x d) →
        tG X.K xr g x (wipe σ own) H3 fun σ2 H4 => wipe σ2 own = wipe σ own ∧ tM X.K X.mg xr WF relB (evTs u gc c cs) σ2 H4 fun b H5 =>
          if b = true then tM X.K X.mg xr WF (relO X.K) (evE u gc c e) σ2 H5 fun y H6 => ∃ acc, H6 Dd = some (.lst acc) ∧ acc.length < sizeLine ∧ Pv (i + 1) (upd H6 Dd (.lst (acc ++ [y]))) else Pv (i + 1) H5) ∧
      ∀ H, Pv items.length H → Q (.ref Dd) H := by
  generalize hst : stpOf u gc c g cs e = stp at e1
  have sw := s1.wip own
  have noD : ¬ Ow (wip ρ1 own) (wipe σ own) Dd := fun o => sw.1.owH o hD
  have nfD : ¬ F1 Dd := fun f => s1.dom Dd f hD
  refine ⟨LcI X.K xr own stp items yall ρ1 ρe σ H1 F1 Dd, ⟨ρ1, F1, [], [], yall, sw.1.updD nfD noD (fun a h z => tab_some h (z ▸ hD)), Stp.refl.updD hD, upd_same, nfD, noD, .nil, Nat.le_refl _, e1, rfl⟩,
    (fun i H' ⟨ρi, Fi, acc, ys, rest, a1, a2, a3, a4, a5, a6, a7, a8, a9⟩ => fun a f => a2.frz sw.1 a f), ?_, ?_⟩
  · rintro i x H2 H3 hi ⟨ρi, Fi, acc, ys, rest, a1, a2, a3, a4, a5, a6, a7, a8, a9⟩ ⟨y1, y2⟩
    obtain ⟨F3, b1, b2, b3, b6, d, b4, b5⟩ := y2 Fi a2.inc a1.dom
    have hd : items.drop i = d :: items.drop (i + 1) := by
      obtain ⟨h1, h2⟩ := List.getElem?_eq_some_iff.mp b4
      rw [List.drop_eq_getElem_cons h1, h2]
    rw [hd] at a8
    simp only [lcL] at a8
    obtain ⟨⟨yo, ρ4⟩, e2, e3⟩ := Option.bind_eq_some_iff.mp a8
    obtain ⟨⟨ys2, ρ5⟩, e4, e5⟩ := Option.map_eq_some_iff.mp e3
    cases e5
    rw [← hst] at e2
    obtain ⟨ρ2, f1, f2⟩ := Option.bind_eq_some_iff.mp e2
    obtain ⟨⟨tb, ρ3⟩, f3, f4⟩ := Option.bind_eq_some_iff.mp f2
    -- the turn's start
    have sg : SR X.K xr (wip ρi own) (wipe σ own) H3 F3 := a1.grow b1 y1 b2 b3 b6
    have tg3 : Stp (wip ρ1 own) (wipe σ own) H1 F1 (wip ρi own) (wipe σ own) H3 F3 := a2.trans (Stp.grow a1 b1 y1 b2)
    have hD2 : H2 Dd ≠ none := by rw [a3]; exact fun z => nomatch z
    have D3 : H3 Dd = some (.lst acc) := (y1 Dd hD2).trans a3
    have nf3 : ¬ F3 Dd := fun f => (b2 Dd f).elim a4 hD2
    have hD3 : H3 Dd ≠ none := by rw [D3]; exact fun z => nomatch z
    refine ⟨wip ρi own, F3, d, ρ2, sg, b5, f1, fun σ2 s2 t2 bu => ⟨wipe_but bu fun i hi => by simpa using List.all_eq_true.mp hv i hi, ρ2, F3, s2, ?_⟩⟩
    have wb := wipe_but bu fun i hi => by simpa using List.all_eq_true.mp hv i hi
    have te : evTs u gc c cs ρ2 = some (.ok tb ρ3) := by
      revert f3
      unfold noEx
      split
      · intro h; cases h; assumption
      · intro h; cases h
    rw [te]
    intro b H4 F4 s4 t4 eb
    have eb' : tb = b := eb
    subst eb'
    -- what a turn's end makes of the invariant
    have fin : ∀ {ρ6 : Env} {H6 : Hp} {F6 : Addr → Prop} {yv : List V} {yd : List D}, SR X.K xr ρ6 σ2 H6 F6 → Stp ρ2 σ2 H3 F3 ρ6 σ2 H6 F6 → RpA X.K H6 F6 yv yd → yv.length ≤ 1 → ρ6 = ρ4 → ocons yo ys2 = yd ++ ys2 →
        H6 Dd = some (.lst acc) ∧ LcI X.K xr own stp items yall ρ1 ρ5 σ H1 F1 Dd (i + 1) (upd H6 Dd (.lst (acc ++ yv))) := by
      intro ρ6 H6 F6 yv yd s6 t6 r6 l6 e6 e7
      subst e6
      have t26 := t2.trans t6
      have no2 : ¬ Ow ρ2 σ2 Dd := fun o => by
        rcases t2.own Dd o with q | q
        · exact a5 q
        · exact hD3 q
      have D6 : H6 Dd = some (.lst acc) := (t6.keep Dd hD3 (.lst D3) no2).trans D3
      have nf6 : ¬ F6 Dd := fun f => by
        rcases t6.new Dd f with q | q | q
        · exact nf3 q
        · exact no2 q
        · exact hD3 q
      have no6 : ¬ Ow ρ6 σ2 Dd := fun o => by
        rcases t6.own Dd o with q | q
        · exact no2 q
        · exact hD3 q
      obtain ⟨s7, t7⟩ := s6.wip own
      rw [wb] at s7 t7
      have no7 : ¬ Ow (wip ρ6 own) (wipe σ own) Dd := fun o => by
        rcases t7.own Dd o with q | q
        · exact no6 q
        · rw [D6] at q; cases q
      have t8 : Stp (wip ρ1 own) (wipe σ own) H1 F1 (wip ρ6 own) (wipe σ own) H6 F6 := (tg3.trans t26).trans t7
      have fz6 : ∀ x, F6 x → upd H6 Dd (.lst (acc ++ yv)) x = H6 x := fun x f => upd_ne fun z => nf6 (z ▸ f)
      have ra : RpA X.K H6 F6 acc ys := ((a6.mono b1 fun a f => y1 a (a1.dom a f)).mono t2.inc (t2.frz sg)).mono t6.inc (t6.frz s2)
      refine ⟨D6, ρ6, F6, acc ++ yv, ys ++ yd, ys2, s7.updD nf6 no7 (fun a h z => by obtain ⟨ps, e1, _⟩ := h; rw [z, D6] at e1; cases e1), t8.updD hD, upd_same, nf6, no7, ((ra.append r6).mono (fun _ f => f) fz6), by rw [List.length_append]; omega, e4, ?_⟩
      rw [← a9, List.append_assoc, ← e7]
    cases tb with
    | false =>
      rw [if_neg Bool.false_ne_true]
      have e8 : some (none, ρ3) = some (yo, ρ4) := f4
      cases e8
      obtain ⟨h1, h2⟩ := fin (yv := []) (yd := []) s4 t4 .nil (by simp) rfl rfl
      rw [List.append_nil] at h2
      have : upd H4 Dd (.lst acc) = H4 := by
        funext z
        by_cases hz : z = Dd
        · subst hz; rw [upd_same, h1]
        · rw [upd_ne hz]
      rw [this] at h2
      exact h2
    | true =>
      rw [if_pos rfl]
      obtain ⟨⟨yd, ρ9⟩, g1, g2⟩ := Option.map_eq_some_iff.mp f4
      cases g2
      have ge : bnd (evE u gc c e ρ3) (fun y ρ => frz y ρ) = some (.ok yd ρ4) := by
        revert g1
        unfold noEx
        split
        · intro h; cases h; assumption
        · intro h; cases h
      obtain ⟨o, ρ7, g3, g4⟩ := bnd_ok_of ge
      refine ⟨ρ3, F4, s4, ?_⟩
      rw [g3]
      intro v H7 F7 s7 t7 r7
      unfold frz at g4
      cases e9 : o.fz ρ7 with
      | none => rw [e9] at g4; cases g4
      | some p =>
        obtain ⟨d', ρ8⟩ := p
        rw [e9] at g4
        cases g4
        obtain ⟨F8, s8, t8, r8, _⟩ := RpO.fz r7 s7 t7 e9
        obtain ⟨h1, h2⟩ := fin (yv := [v]) (yd := [yd]) s8 (t4.trans t8) (.one r8) (by simp) rfl rfl
        refine ⟨acc, h1, ?_, h2⟩
        have : line = sizeLine := line_eq
        omega
  · rintro H2 ⟨ρi, Fi, acc, ys, rest, a1, a2, a3, a4, a5, a6, a7, a8, a9⟩
    rw [List.drop_length] at a8
    simp only [lcL] at a8
    cases a8
    rw [List.append_nil] at a9
    subst a9
    obtain ⟨s2, t2⟩ := s1.unw a1 a2
    refine c3 (.ref Dd) H2 Fi s2 t2 ⟨Dd, acc, rfl, a3, a4, fun ⟨i, o⟩ => ?_, hD, a6⟩
    -- no slot of the end owns it
    by_cases hv' : i ∈ own
    · have lr : ρe.length = ρ1.length := by
        have h1 := a1.len
        rw [wip_len, wipe_length] at h1
        rw [h1, s1.len]
      have : OwnAt ρ1 σ i Dd := by
        obtain ⟨o1, o2⟩ := o
        refine ⟨?_, o2⟩
        have hl : i < ρe.length := by
          rw [lr, s1.len]; exact (List.getElem?_eq_some_iff.mp o2).1
        rcases o1 with ⟨b, xs, q⟩ | ⟨b, xs, q⟩ <;> rw [unw_get, if_pos ⟨hv', hl⟩, List.getElem?_eq_getElem (by omega : i < ρ1.length)] at q
        · exact .inl ⟨b, xs, by rw [List.getElem?_eq_getElem (by omega : i < ρ1.length)]; exact q⟩
        · exact .inr ⟨b, xs, by rw [List.getElem?_eq_getElem (by omega : i < ρ1.length)]; exact q⟩
      exact s1.owH ⟨i, this⟩ hD
    · obtain ⟨o1, o2⟩ := o
      refine a5 ⟨i, ?_, by rw [wipe_get, if_neg fun z => hv' z.1]; exact o2⟩
      rcases o1 with ⟨b, xs, q⟩ | ⟨b, xs, q⟩ <;> rw [unw_get, if_neg fun z => hv' z.1] at q
      · exact .inl ⟨b, xs, by rw [wip_get, if_neg fun z => hv' z.1]; exact q⟩
      · exact .inr ⟨b, xs, by rw [wip_get, if_neg fun z => hv' z.1]; exact q⟩
theorem snd_lc (ok : Ok u gc c k n X xr W) {own : List Nat} {g : G} {it : It} {cs : Es} {e : E} {elt tg iter : PySem.Expr} {ifs : List PySem.Expr} {scope : Scope} {pos : Pos} (hh : k.hot = false)
    (hb : blkC k.N k.sc scope (own.map fun i => ((k.N[i]?).getD Str.empty, i)) = true) (hv : (gVars g).all (fun i => own.contains i) = true) (hns : notSet iter = true)
    (hg : ∀ (s : Shared) (H : Hp) (C : Addr) (cl : List (Str × Addr)) (fp : List Addr), PG (X.blk s H scope (compEnvC scope cl C X.env) fp) tg (tG X.K xr g))
    (hi : PI X tg iter (tM X.K X.mg xr W (relI X.K) (evIt u gc c it)))
    (ht : ∀ (s : Shared) (H : Hp) (C : Addr) (cl : List (Str × Addr)) (fp : List Addr), PTs (X.blk s H scope (compEnvC scope cl C X.env) fp) ifs (tM X.K X.mg xr WF relB (evTs u gc c cs)))
    (he : ∀ (s : Shared) (H : Hp) (C : Addr) (cl : List (Str × Addr)) (fp : List Addr), PE (X.blk s H scope (compEnvC scope cl C X.env) fp) elt (tM X.K X.mg xr WF (relO X.K) (evE u gc c e))) :
    ∃ t : TE, PE X (.ListComp elt [⟨tg, iter, ifs, 0⟩] scope pos) t ∧ (∀ {i : Nat} {y : Str} {py spos : Pos}, X.N[i]? = some y → X.env.scope.names.lookup y = some .local →
        swapsWith (.ListComp elt [⟨tg, iter, ifs, 0⟩] scope pos) (some (.Name y py)) spos.line X.env = pure true → PS X (.Assign [.Name y py] (.ListComp elt [⟨tg, iter, ifs, 0⟩] scope pos) spos) (tAsg t (gName i))) ∧
      ∀ σ H Q, tM X.K X.mg xr W (relO X.K) (evE u gc c (.lc own g it cs e)) σ H Q → t σ H Q := by
  have hN : X.N.Nodup := by rw [ok.N]; exact ok.nd
  have bo : BlkOk X.N X.env.scope scope (own.map fun i => ((k.N[i]?).getD Str.empty, i)) := by rw [ok.N, ok.sc]; exact blkOk_by hb
  have ho : (own.map fun i => ((k.N[i]?).getD Str.empty, i)).map (·.2) = own := own_snd k.N own
  refine ⟨_, pe_lc (ok.calm hh) hN hi bo hg ht he (fold_of hns), fun h1 h2 h3 => ps_setLc (ok.calm hh) hN h1 h2 h3 hi bo hg ht he (fold_of hns), fun σ H Q ⟨ρ, F, s, q⟩ => ?_⟩
  rw [ho]
  simp only [evE] at q
  refine ⟨ρ, F, s, Ct.seq q fun items ρ1 _ J H1 F1 s1 t1 w c1 => ?_⟩
  obtain ⟨hz, c2⟩ := ifc c1
  obtain ⟨⟨yall, ρe⟩, e1, c3⟩ := map1 c2
  intro Dd hD
  obtain ⟨Pv, h0, hG, hs, hd⟩ := lc_turns (W := W) (c := c) hv s1 hz e1 c3 hD
  exact lc_it w Pv h0 (fun i H' _ hP => hG i H' hP) hs hd
theorem snd_lch (ok : Ok u gc c k n X xr W) {own : List Nat} {g : G} {a : E} {cs : Es} {e : E} {elt tg iter : PySem.Expr} {ifs : List PySem.Expr} {scope : Scope} {pos : Pos} (hh : k.xs = true)
    (hb : blkC k.N k.sc scope (own.map fun i => ((k.N[i]?).getD Str.empty, i)) = true) (hv : (gVars g).all (fun i => own.contains i) = true) (hns : notSet iter = true)
    (hg : ∀ (s : Shared) (H : Hp) (C : Addr) (cl : List (Str × Addr)) (fp : List Addr), PG (X.blk s H scope (compEnvC scope cl C X.env) fp) tg (tG X.K xr g))
    (hi : PE X iter (tM X.K X.mg xr W (relO X.K) (evE u gc c a)))
    (ht : ∀ (s : Shared) (H : Hp) (C : Addr) (cl : List (Str × Addr)) (fp : List Addr), PTs (X.blk s H scope (compEnvC scope cl C X.env) fp) ifs (tM X.K X.mg xr WF relB (evTs u gc c cs)))
    (he : ∀ (s : Shared) (H : Hp) (C : Addr) (cl : List (Str × Addr)) (fp : List Addr), PE (X.blk s H scope (compEnvC scope cl C X.env) fp) elt (tM X.K X.mg xr WF (relO X.K) (evE u gc c e))) :
    Snd X xr W (.ListComp elt [⟨tg, iter, ifs, 0⟩] scope pos) (evE u gc c (.lch own g a cs e)) := by
  have hN : X.N.Nodup := by rw [ok.N]; exact ok.nd
  have bo : BlkOk X.N X.env.scope scope (own.map fun i => ((k.N[i]?).getD Str.empty, i)) := by rw [ok.N, ok.sc]; exact blkOk_by hb
  have ho : (own.map fun i => ((k.N[i]?).getD Str.empty, i)).map (·.2) = own := own_snd k.N own
  obtain ⟨p, hp, _⟩ := ok.hotp hh
  refine Snd.plain ((pe_lcH (pos := pos) hp hN hi bo hg ht he (fold_of hns)).wk fun σ H Q ⟨ρ, F, s, q⟩ => ?_) (fun _ => rfl) fun _ _ _ e => nomatch e
  rw [ho]
  simp only [evE] at q
  simp only [bnd_assoc] at q
  refine ⟨ρ, F, s, Ct.seqF q fun d v ρ1 H1 F1 s1 t1 r1 c1 => ?_⟩
  cases d with
  | list items =>
    simp only [bnd_ok] at c1
    obtain ⟨hz, c2⟩ := ifc c1
    obtain ⟨⟨yall, ρe⟩, e1, c3⟩ := map1 c2
    have main : ∀ {a0 : Addr} {xs : List V}, v = .ref a0 → SqL X.K H1 a0 xs → RpA X.K H1 F1 xs items → (∀ H', (∀ x, F1 x → H' x = H1 x) → SqL X.K H' a0 xs) → ∃ a xs, v = .ref a ∧ SqL X.K H1 a xs ∧ ∀ D, H1 D = none → ∃ Pv : Nat → Hp → Prop, Pv 0 (upd H1 D (.lst [])) ∧ (∀ i H, i ≤ xs.length → Pv i H → SqL X.K H a xs) ∧
        (∀ i y H, xs[i]? = some y → Pv i H → tG X.K xr g y (wipe σ own) H fun σ2 H2 => wipe σ2 own = wipe σ own ∧ tM X.K X.mg xr WF relB (evTs u gc c cs) σ2 H2 fun b H3 =>
          if b = true then tM X.K X.mg xr WF (relO X.K) (evE u gc c e) σ2 H3 fun z H4 => ∃ acc, H4 D = some (.lst acc) ∧ acc.length < sizeLine ∧ Pv (i + 1) (upd H4 D (.lst (acc ++ [z]))) else Pv (i + 1) H3) ∧ ∀ H, Pv xs.length H → Q (.ref D) H := fun {a0 xs} ev hq rx keep => by
      refine ⟨a0, xs, ev, hq, fun Dd hD => ?_⟩
      obtain ⟨Pv, h0, hG, hs, hd⟩ := lc_turns (W := W) (c := c) hv s1 hz e1 c3 hD
      refine ⟨Pv, h0, fun i H' _ hP => keep H' (hG i H' hP), fun i y H' hy hP => ?_, by rw [rx.length]; exact hd⟩
      obtain ⟨dd, ed, rd⟩ := rx.get hy
      refine hs i y H' H' (by rw [← rx.length]; exact (List.getElem?_eq_some_iff.mp hy).1) hP ⟨fun _ _ => rfl, fun Fc k1 k2 => ⟨Fc, fun _ f => f, fun _ f => .inl f, k2, fun a f e => (k2 a f e).elim, dd, ed, rd.mono k1 fun x f => hG i H' hP x f⟩⟩
    cases r1 with
    | lst h f rx => exact main rfl (.inl h) rx fun H' k => .inl (Rd.keep (k _ f) h)
    | lstK h rx => exact main rfl (.inr h) rx fun H' _ => .inr h
  | _ => exact c1.not.elim
end
end RX

end
section
set_option Elab.async false
set_option linter.all false
set_option maxRecDepth 100000
set_option maxHeartbeats 4000000
set_option autoImplicit false
/-! all, any, tuple, sum of a generator expression -/
namespace RX
open PySem PySem.Spec PyProof.Rows L2 GxR
section
variable {u : Sub} {gc : List D} {c : CF} {k : Kx} {n : Nat} {X : Cx} {xr : XR} {W : WX}
theorem map_int_inj : ∀ {a b : List Int}, a.map V.int = b.map V.int → a = b
  | [], [], _ => rfl
  | [], _ :: _, h => by cases h
  | _ :: _, [], h => by cases h
  | x :: xs, y :: ys, h => by
    rw [List.map_cons, List.map_cons] at h
    obtain ⟨h1, h2⟩ := List.cons.inj h
    rw [V.int.inj h1, map_int_inj h2]
theorem mem_ints {K : PySem.W.Frag} {H : Hp} {F : Addr → Prop} {y : V} {d : D} : ∀ {ds : List D} {ns : List Int}, intsOf ds = some ns → d ∈ ds → Rp K H F y d → ∃ m, y = .int m
  | [], _, _, hm, _ => by cases hm
  | x :: xs, ns, h, hm, r => by
    cases x <;> simp [intsOf] at h
    rename_i i
    obtain ⟨ms, h1, rfl⟩ := h
    rcases List.mem_cons.mp hm with e | e
    · subst e
      cases r
      exact ⟨_, rfl⟩
    · exact mem_ints h1 e r
theorem gsc_of {X : Cx} {scope : Scope} {own : List (Str × Nat)} (h : gscB scope = true) (hb : BlkOk X.N X.env.scope scope own) : GX.GSc X.N X.env.scope scope own := by
  unfold gscB at h
  simp only [Bool.and_eq_true, Bool.not_eq_true', decide_eq_true_eq, List.all_eq_true, decide_eq_false_iff_not] at h
  exact ⟨hb, h.1.1, h.1.2, h.2⟩
theorem Ok.gblk (ok : Ok u gc c k n X xr W) {scope : Scope} {own : List (Str × Nat)} (hh : k.hot = false) (hgen : k.gen = true) (hb : blkC k.N k.sc scope own = true) (s : Shared) (H : Hp) (genv : PySem.Env) (fp : List Addr) (A : Around)
    (hs : genv.scope = scope) (hA : A.handled = none) (hd : A.depth ≤ X.A.depth + 2) (hu : A.units ≤ X.A.units + 16) : Ok u gc c (k.gblock scope) n (GX.gblk X s H genv fp A) xr WF where
  N := ok.N
  nd := ok.nd
  sc := hs
  kind := (blkOk_by hb).kind
  calm := fun _ => ok.calm hh
  room := fun _ => by
    have r := ok.room hh
    rw [if_pos hgen] at r
    have h1 := r.dp
    have h2 := r.un
    refine ⟨hA, ?_, ?_⟩
    · show A.depth + 3 * (2 * n + lev + 0) + 5 < _
      omega
    · show A.units + 16 * (2 * n + lev + 0) + 200 < _
      omega
  units := by
    have r := ok.room hh
    have h2 := r.un
    show A.units + 65 < cLine
    have : lev = 24 := rfl
    omega
  tk := takesN0
  own := PassesOwn.never
  fn := fun x hx => nomatch hx
  blt := ok.blt
  blts := ok.blts
  noex := fun _ => ok.noex hh
  hotp := fun z => nomatch z
  xsh := fun z => nomatch z
  roomH := fun z => nomatch z
  rev := ok.rev
  mb := ok.mb
  gen := fun z => nomatch z
  sub := ok.sub
  cls := ok.cls
  exc := ok.exc
  cst := ok.cst
  fns := ok.fns
  hfn := ok.hfn
/-- a table grew -/
theorem SR.tbd {K : PySem.W.Frag} {ρ : Env} {σ : L2.St} {H1 H2 : Hp} {F : Addr → Prop} {P : Addr} (s : SR K xr ρ σ H1 F) (hP : TabG H1 P) (t : Tabbed P H1 H2) : SR K xr ρ σ H2 F ∧ Stp ρ σ H1 F ρ σ H2 F := by
  have ne : ∀ a, NT H1 a → a ≠ P := fun a h z => by
    obtain ⟨ps, e, _⟩ := hP
    exact h ps (z ▸ e)
  have eq : ∀ a, NT H1 a → H2 a = H1 a := fun a h => t.2 a (ne a h)
  have stay : ∀ a, H1 a ≠ none → H2 a ≠ none := fun a h => by
    by_cases z : a = P
    · rw [z]; exact tab_some t.1
    · rw [t.2 a z]; exact h
  have tab : ∀ a, TabG H1 a → TabG H2 a := fun a h => by
    by_cases z : a = P
    · rw [z]; exact t.1
    · exact tab_eq h (t.2 a z)
  have fz : ∀ a, F a → H2 a = H1 a := fun a f => eq a (s.ntb a f)
  refine ⟨⟨s.len, fun a f => by rw [fz a f]; exact s.dom a f, fun i d e => ?_, fun i b xs e => ?_, s.od, s.ex, s.ap, fun a f => (s.ntb a f).of (fz a f), fun a h => tab a (s.tb a h)⟩,
    ⟨fun _ f => f, fun a _ nt _ => eq a nt, tab, fun _ o => .inl o, stay, fun _ f => .inl f, fun i xs e => ⟨rfl, xs, e⟩⟩⟩
  · obtain ⟨v, h1, h2⟩ := s.sh i d e
    exact ⟨v, h1, h2.mono (fun _ f => f) fz⟩
  · obtain ⟨a, vs, h1, h2, h3, h4⟩ := s.ol i b xs e
    exact ⟨a, vs, h1, (eq a (.lst h2)).trans h2, h3, h4.mono (fun _ f => f) fz⟩
/-- a turn of a generator's loop -/
theorem turn_ok {own : List Nat} {g : G} {cs : Es} {e : E} {ρi ρ4 : Env} {yo : Option D} {σ : L2.St} {H2 H3 : Hp} {Fi F3 : Addr → Prop} {x : V} {d : D} {PT : V → Hp → Prop} {PF : Hp → Prop} (hv : (gVars g).all (fun i => own.contains i) = true)
    (a1 : SR X.K xr (wip ρi own) (wipe σ own) H2 Fi) (y1 : ∀ a, H2 a ≠ none → H3 a = H2 a) (b1 : ∀ a, Fi a → F3 a) (b2 : ∀ a, F3 a → Fi a ∨ H2 a = none) (b3 : ∀ a, F3 a → H3 a ≠ none) (b6 : ∀ a, F3 a → H2 a = none → NT H3 a) (b5 : Rp X.K H3 F3 x d)
    (e2 : stpOf u gc c g cs e d (wip ρi own) = some (yo, ρ4))
    (hT : ∀ y yd H6 F6, yo = some yd → SR X.K xr (wip ρ4 own) (wipe σ own) H6 F6 → Stp (wip ρi own) (wipe σ own) H2 Fi (wip ρ4 own) (wipe σ own) H6 F6 → Rp X.K H6 F6 y yd → PT y H6)
    (hF : ∀ H6 F6, yo = none → SR X.K xr (wip ρ4 own) (wipe σ own) H6 F6 → Stp (wip ρi own) (wipe σ own) H2 Fi (wip ρ4 own) (wipe σ own) H6 F6 → PF H6) :
    tG X.K xr g x (wipe σ own) H3 fun σ2 H4 => wipe σ2 own = wipe σ own ∧ tM X.K X.mg xr WF relB (evTs u gc c cs) σ2 H4 fun b H5 => if b = true then tM X.K X.mg xr WF (relO X.K) (evE u gc c e) σ2 H5 PT else PF H5 := by
  unfold stpOf at e2
  obtain ⟨ρ2, f1, f2⟩ := Option.bind_eq_some_iff.mp e2
  obtain ⟨⟨tb, ρ3⟩, f3, f4⟩ := Option.bind_eq_some_iff.mp f2
  have sg : SR X.K xr (wip ρi own) (wipe σ own) H3 F3 := a1.grow b1 y1 b2 b3 b6
  have tg3 : Stp (wip ρi own) (wipe σ own) H2 Fi (wip ρi own) (wipe σ own) H3 F3 := Stp.grow a1 b1 y1 b2
  refine ⟨wip ρi own, F3, d, ρ2, sg, b5, f1, fun σ2 s2 t2 bu => ⟨wipe_but bu fun i hi => by simpa using List.all_eq_true.mp hv i hi, ρ2, F3, s2, ?_⟩⟩
  have wb := wipe_but bu fun i hi => by simpa using List.all_eq_true.mp hv i hi
  have te : evTs u gc c cs ρ2 = some (.ok tb ρ3) := by
    revert f3
    unfold noEx
    split
    · intro h; cases h; assumption
    · intro h; cases h
  rw [te]
  intro b H4 F4 s4 t4 eb
  have eb' : tb = b := eb
  subst eb'
  have fin : ∀ {ρ6 : Env} {H6 : Hp} {F6 : Addr → Prop}, SR X.K xr ρ6 σ2 H6 F6 → Stp ρ2 σ2 H3 F3 ρ6 σ2 H6 F6 → SR X.K xr (wip ρ6 own) (wipe σ own) H6 F6 ∧ Stp (wip ρi own) (wipe σ own) H2 Fi (wip ρ6 own) (wipe σ own) H6 F6 := fun {ρ6 H6 F6} s6 t6 => by
    obtain ⟨s7, t7⟩ := s6.wip own
    rw [wb] at s7 t7
    exact ⟨s7, (tg3.trans (t2.trans t6)).trans t7⟩
  cases tb with
  | false =>
    rw [if_neg Bool.false_ne_true]
    have e8 : some (none, ρ3) = some (yo, ρ4) := f4
    cases e8
    obtain ⟨h1, h2⟩ := fin s4 t4
    exact hF H4 F4 rfl h1 h2
  | true =>
    rw [if_pos rfl]
    obtain ⟨⟨yd, ρ9⟩, g1, g2⟩ := Option.map_eq_some_iff.mp f4
    cases g2
    have ge : bnd (evE u gc c e ρ3) (fun y ρ => frz y ρ) = some (.ok yd ρ4) := by
      revert g1
      unfold noEx
      split
      · intro h; cases h; assumption
      · intro h; cases h
    obtain ⟨o, ρ7, g3, g4⟩ := bnd_ok_of ge
    refine ⟨ρ3, F4, s4, ?_⟩
    rw [g3]
    intro v H7 F7 s7 t7 r7
    unfold frz at g4
    cases e9 : o.fz ρ7 with
    | none => rw [e9] at g4; cases g4
    | some p =>
      obtain ⟨d', ρ8⟩ := p
      rw [e9] at g4
      cases g4
      obtain ⟨F8, s8, t8, r8, _⟩ := RpO.fz r7 s7 t7 e9
      obtain ⟨h1, h2⟩ := fin s8 (t4.trans t8)
      exact hT v yd H7 F8 rfl h1 h2 r8
/-- the turns of a generator whose values are all asked for -/
def GlI (u : Sub) (gc : List D) (c : CF) (X : Cx) (xr : XR) (own : List Nat) (g : G) (cs : Es) (e : E) (items yall : List D) (ρ1 ρe : Env) (σ : L2.St) (H1 : Hp) (F1 : Addr → Prop) (i : Nat) (ys : List V) (H : Hp) : Prop :=
  i ≤ items.length ∧ ys.length ≤ i ∧ ∃ (ρ : Env) (F : Addr → Prop) (yd rest : List D), SR X.K xr (wip ρ own) (wipe σ own) H F ∧ Stp (wip ρ1 own) (wipe σ own) H1 F1 (wip ρ own) (wipe σ own) H F ∧
    RpA X.K H F ys yd ∧ lcL own (stpOf u gc c g cs e) (items.drop i) ρ = some (rest, ρe) ∧ yd ++ rest = yall
theorem gl_turns {own : List Nat} {g : G} {cs : Es} {e : E} {items yall : List D} {ρ1 ρe : Env} {σ : L2.St} {H1 H2 : Hp} {F1 : Addr → Prop} {P : Addr} {J : L2.It} {Fn : List V → Hp → Prop} {PT : Nat → List V → V → Hp → Prop} (hv : (gVars g).all (fun i => own.contains i) = true)
    (s1 : SR X.K xr ρ1 σ H1 F1) (w : IsWalk X.K J items H1 F1) (hz : items.length ≤ line) (e1 : lcL own (stpOf u gc c g cs e) items ρ1 = some (yall, ρe)) (hP : TabG H1 P) (t : Tabbed P H1 H2)
    (hFn : ∀ ys H F, SR X.K xr (unw ρ1 ρe own) σ H F → Stp ρ1 σ H1 F1 (unw ρ1 ρe own) σ H F → RpA X.K H F ys yall → Fn ys H)
    (hPT : ∀ i ys y H, GlI u gc c X xr own g cs e items yall ρ1 ρe σ H1 F1 (i + 1) (ys ++ [y]) H → ys.length < sizeLine → (∃ F yd, Rp X.K H F y yd ∧ yd ∈ yall) → PT i ys y H) :
    GlI u gc c X xr own g cs e items yall ρ1 ρe σ H1 F1 0 [] H2 ∧ ∀ i ys H, GlI u gc c X xr own g cs e items yall ρ1 ρe σ H1 F1 i ys H → (J.stop i H ∧ Fn ys H) ∨ (J.go i H ∧ i < items.length ∧ ∀ x H', J.yld i H x H' →
      tG X.K xr g x (wipe σ own) H' fun σ2 H3 => wipe σ2 own = wipe σ own ∧ tM X.K X.mg xr WF relB (evTs u gc c cs) σ2 H3 fun b H4 =>
        if b = true then tM X.K X.mg xr WF (relO X.K) (evE u gc c e) σ2 H4 (PT i ys) else GlI u gc c X xr own g cs e items yall ρ1 ρe σ H1 F1 (i + 1) ys H4) := by
  have sw := s1.wip own
  obtain ⟨s2, t2⟩ := sw.1.tbd hP t
  refine ⟨⟨Nat.zero_le _, Nat.le_refl _, ρ1, F1, [], yall, s2, t2, .nil, e1, rfl⟩, ?_⟩
  rintro i ys H ⟨hi, hl, ρi, Fi, yd, rest, a1, a2, a3, a4, a5⟩
  have hG : ∀ a, F1 a → H a = H1 a := fun a f => a2.frz sw.1 a f
  by_cases hlt : i < items.length
  · refine .inr ⟨w.goes i H hlt hG, hlt, fun x H3 hy => ?_⟩
    obtain ⟨y1, y2⟩ := w.yields i H x H3 hlt hG hy
    obtain ⟨F3, b1, b2, b3, b6, d, b4, b5⟩ := y2 Fi a2.inc a1.dom
    have hd : items.drop i = d :: items.drop (i + 1) := by
      obtain ⟨h1, h2⟩ := List.getElem?_eq_some_iff.mp b4
      rw [List.drop_eq_getElem_cons h1, h2]
    rw [hd] at a4
    simp only [lcL] at a4
    obtain ⟨⟨yo, ρ4⟩, e2, e3⟩ := Option.bind_eq_some_iff.mp a4
    obtain ⟨⟨ys2, ρ5⟩, e4, e5⟩ := Option.map_eq_some_iff.mp e3
    cases e5
    refine turn_ok hv a1 y1 b1 b2 b3 b6 b5 e2 (fun y yd' H6 F6 e6 s6 t6 r6 => ?_) (fun H6 F6 e6 s6 t6 => ?_)
    · subst e6
      have ra : RpA X.K H6 F6 ys yd := a3.mono t6.inc (t6.frz a1)
      refine hPT i ys y H6 ⟨hlt, by rw [List.length_append]; simp; omega, ρ4, F6, yd ++ [yd'], ys2, s6, a2.trans t6, ra.append (.one r6), e4, ?_⟩ ?_ ⟨F6, yd', r6, ?_⟩
      · rw [List.append_assoc]; exact a5
      · have : line = sizeLine := line_eq
        omega
      · rw [← a5]; exact List.mem_append_right _ (List.mem_cons_self)
    · subst e6
      exact ⟨hlt, by omega, ρ4, F6, yd, ys2, s6, a2.trans t6, a3.mono t6.inc (t6.frz a1), e4, a5⟩
  · have hi' : i = items.length := by omega
    subst hi'
    rw [List.drop_length] at a4
    simp only [lcL] at a4
    cases a4
    rw [List.append_nil] at a5
    subst a5
    obtain ⟨s3, t3⟩ := s1.unw a1 a2
    exact .inl ⟨w.stops H hG, hFn ys H Fi s3 t3 a3⟩
/-- the turns of a generator until one is b0 -/
def UnI (u : Sub) (gc : List D) (c : CF) (X : Cx) (xr : XR) (own : List Nat) (g : G) (cs : Es) (e : E) (items : List D) (b0 b : Bool) (ρ1 ρe : Env) (σ : L2.St) (H1 : Hp) (F1 : Addr → Prop) (i : Nat) (H : Hp) : Prop :=
  i ≤ items.length ∧ ∃ (ρ : Env) (F : Addr → Prop), SR X.K xr (wip ρ own) (wipe σ own) H F ∧ Stp (wip ρ1 own) (wipe σ own) H1 F1 (wip ρ own) (wipe σ own) H F ∧
    untL own (stpOf u gc c g cs e) b0 (items.drop i) ρ = some (b, ρe)
theorem un_turns {own : List Nat} {g : G} {cs : Es} {e : E} {items : List D} {b0 b : Bool} {ρ1 ρe : Env} {σ : L2.St} {H1 H2 : Hp} {F1 : Addr → Prop} {P : Addr} {J : L2.It} {Fn : V → Hp → Prop} (hv : (gVars g).all (fun i => own.contains i) = true)
    (s1 : SR X.K xr ρ1 σ H1 F1) (w : IsWalk X.K J items H1 F1) (e1 : untL own (stpOf u gc c g cs e) b0 items ρ1 = some (b, ρe)) (hP : TabG H1 P) (t : Tabbed P H1 H2)
    (hFn : ∀ H F, SR X.K xr (unw ρ1 ρe own) σ H F → Stp ρ1 σ H1 F1 (unw ρ1 ρe own) σ H F → Fn (.bl b) H) :
    UnI u gc c X xr own g cs e items b0 b ρ1 ρe σ H1 F1 0 H2 ∧ ∀ i H, UnI u gc c X xr own g cs e items b0 b ρ1 ρe σ H1 F1 i H → (J.stop i H ∧ Fn (.bl (!b0)) H) ∨ (J.go i H ∧ i < items.length ∧ ∀ x H', J.yld i H x H' →
      tG X.K xr g x (wipe σ own) H' fun σ2 H3 => wipe σ2 own = wipe σ own ∧ tM X.K X.mg xr WF relB (evTs u gc c cs) σ2 H3 fun b' H4 =>
        if b' = true then tM X.K X.mg xr WF (relO X.K) (evE u gc c e) σ2 H4 (fun y H5 => (∃ t : Bool, y = .bl t ∧ (t = b0 → Fn (.bl b0) H5)) ∧ (y = .bl (!b0) → UnI u gc c X xr own g cs e items b0 b ρ1 ρe σ H1 F1 (i + 1) H5))
        else UnI u gc c X xr own g cs e items b0 b ρ1 ρe σ H1 F1 (i + 1) H4) := by
  have sw := s1.wip own
  obtain ⟨s2, t2⟩ := sw.1.tbd hP t
  refine ⟨⟨Nat.zero_le _, ρ1, F1, s2, t2, e1⟩, ?_⟩
  rintro i H ⟨hi, ρi, Fi, a1, a2, a4⟩
  have hG : ∀ a, F1 a → H a = H1 a := fun a f => a2.frz sw.1 a f
  by_cases hlt : i < items.length
  · refine .inr ⟨w.goes i H hlt hG, hlt, fun x H3 hy => ?_⟩
    obtain ⟨y1, y2⟩ := w.yields i H x H3 hlt hG hy
    obtain ⟨F3, b1, b2, b3, b6, d, b4, b5⟩ := y2 Fi a2.inc a1.dom
    have hd : items.drop i = d :: items.drop (i + 1) := by
      obtain ⟨h1, h2⟩ := List.getElem?_eq_some_iff.mp b4
      rw [List.drop_eq_getElem_cons h1, h2]
    rw [hd] at a4
    simp only [untL] at a4
    obtain ⟨⟨yo, ρ4⟩, e2, e3⟩ := Option.bind_eq_some_iff.mp a4
    refine turn_ok hv a1 y1 b1 b2 b3 b6 b5 e2 (fun y yd' H6 F6 e6 s6 t6 r6 => ?_) (fun H6 F6 e6 s6 t6 => ?_)
    · subst e6
      cases yd' with
      | bool bb =>
        cases r6
        have e3' : (if bb = b0 then some (b0, ρ4) else untL own (stpOf u gc c g cs e) b0 (items.drop (i + 1)) ρ4) = some (b, ρe) := e3
        refine ⟨⟨bb, rfl, fun hb => ?_⟩, fun hb => ?_⟩
        · rw [if_pos hb] at e3'
          cases e3'
          obtain ⟨s3, t3⟩ := s1.unw s6 (a2.trans t6)
          exact hFn H6 F6 s3 t3
        · have : bb = !b0 := by cases hb; rfl
          rw [if_neg (by rw [this]; cases b0 <;> simp)] at e3'
          exact ⟨hlt, ρ4, F6, s6, a2.trans t6, e3'⟩
      | _ => cases e3
    · subst e6
      exact ⟨hlt, ρ4, F6, s6, a2.trans t6, e3⟩
  · have hi' : i = items.length := by omega
    subst hi'
    rw [List.drop_length] at a4
    simp only [untL] at a4
    cases a4
    obtain ⟨s3, t3⟩ := s1.unw a1 a2
    exact .inl ⟨w.stops H hG, hFn H Fi s3 t3⟩
theorem gfold_of {e : PySem.Expr} {env : PySem.Env} (h : notSet e = true) (h2 : notLst e = true) : ∀ x, genFold e env x = pure x := by
  intro x
  cases e <;> first | rfl | (cases h2; done) | (cases h; done)
theorem snd_gq (ok : Ok u gc c k n X xr W) {q : GK} {own : List Nat} {g : G} {it : It} {cs : Es} {e : E} {elt tg iter : PySem.Expr} {ifs : List PySem.Expr} {scope : Scope} {p pos gpos : Pos} (hh : k.hot = false) (hgen : k.gen = true)
    (hgl : glB k.sc (gkN q) = true) (hsc : gscB scope = true) (hb : blkC k.N k.sc scope (own.map fun i => ((k.N[i]?).getD Str.empty, i)) = true) (hv : (gVars g).all (fun i => own.contains i) = true) (hns : notSet iter = true) (hnl : notLst iter = true)
    (hg : ∀ Y : Cx, Ok u gc c (k.gblock scope) n Y xr WF → PG Y tg (tG Y.K xr g))
    (hi : PI X tg iter (tM X.K X.mg xr W (relI X.K) (evIt u gc c it)))
    (ht : ∀ Y : Cx, Ok u gc c (k.gblock scope) n Y xr WF → PTs Y ifs (tM Y.K Y.mg xr WF relB (evTs u gc c cs)))
    (he : ∀ Y : Cx, Ok u gc c (k.gblock scope) n Y xr WF → PE Y elt (tM Y.K Y.mg xr WF (relO Y.K) (evE u gc c e))) :
    Snd X xr W (.Call (.Name (gkN q) p) [.GeneratorExp elt [⟨tg, iter, ifs, 0⟩] scope gpos] [] pos) (evE u gc c (.gq q own g it cs e)) := by
  have hN : X.N.Nodup := by rw [ok.N]; exact ok.nd
  have bo : BlkOk X.N X.env.scope scope (own.map fun i => ((k.N[i]?).getD Str.empty, i)) := by rw [ok.N, ok.sc]; exact blkOk_by hb
  have ho : (own.map fun i => ((k.N[i]?).getD Str.empty, i)).map (·.2) = own := own_snd k.N own
  have S := gsc_of hsc bo
  obtain ⟨cc, P, TB, hcode, hP⟩ := ok.gen hgen
  have parts : GX.Parts X scope tg elt ifs (tG X.K xr g) (tM X.K X.mg xr WF relB (evTs u gc c cs)) (tM X.K X.mg xr WF (relO X.K) (evE u gc c e)) := fun s H genv fp A h1 h2 h3 h4 => by
    have o := ok.gblk hh hgen hb s H genv fp A h1 h2 h3 h4
    exact ⟨hg _ o, ht _ o, he _ o⟩
  obtain ⟨g1, g2⟩ := gl_of ok hgl
  have hr := ok.room hh
  have hc := ok.calm hh
  cases q with
  | all =>
    refine Snd.plain ((GX.pe_allG hr hc hN g1 (ok.rev "all" (by decide)) (by rfl) TB hcode S hi parts (gfold_of hns hnl) rfl).wk fun σ H Q ⟨ρ, F, s, q⟩ => ?_) (fun _ => rfl) fun _ _ _ e => nomatch e
    simp only [evE] at q
    refine ⟨ρ, F, s, Ct.seq q fun items ρ1 _ J H1 F1 s1 t1 w c1 => ?_⟩
    rw [ho]
    obtain ⟨hz, c2⟩ := ifc c1
    obtain ⟨⟨d, ρe⟩, e1, c3⟩ := map1 c2
    simp only [gqR] at e1
    obtain ⟨⟨b, ρe'⟩, e2, e3⟩ := Option.map_eq_some_iff.mp e1
    cases e3
    refine ⟨s1.tb P hP, fun H2 t2 => ⟨items.length, fun i H => UnI u gc c X xr own g cs e items false b ρ1 ρe' σ H1 F1 i H, ?_⟩⟩
    exact un_turns (u := u) (gc := gc) (c := c) (b0 := false) hv s1 w e2 (s1.tb P hP) t2 (fun H F s t => c3 (.bl b) H F s t (.bl b))
  | any =>
    refine Snd.plain ((GX.pe_anyG hr hc hN g1 (ok.rev "any" (by decide)) (by rfl) TB hcode S hi parts (gfold_of hns hnl) rfl).wk fun σ H Q ⟨ρ, F, s, q⟩ => ?_) (fun _ => rfl) fun _ _ _ e => nomatch e
    simp only [evE] at q
    refine ⟨ρ, F, s, Ct.seq q fun items ρ1 _ J H1 F1 s1 t1 w c1 => ?_⟩
    rw [ho]
    obtain ⟨hz, c2⟩ := ifc c1
    obtain ⟨⟨d, ρe⟩, e1, c3⟩ := map1 c2
    simp only [gqR] at e1
    obtain ⟨⟨b, ρe'⟩, e2, e3⟩ := Option.map_eq_some_iff.mp e1
    cases e3
    refine ⟨s1.tb P hP, fun H2 t2 => ⟨items.length, fun i H => UnI u gc c X xr own g cs e items true b ρ1 ρe' σ H1 F1 i H, ?_⟩⟩
    exact un_turns (u := u) (gc := gc) (c := c) (b0 := true) hv s1 w e2 (s1.tb P hP) t2 (fun H F s t => c3 (.bl b) H F s t (.bl b))
  | tuple =>
    refine Snd.plain ((GX.pe_tupG hr hc hN g1 (ok.blt .tuple) TB hcode S hi parts (gfold_of hns hnl) rfl).wk fun σ H Q ⟨ρ, F, s, q⟩ => ?_) (fun _ => rfl) fun _ _ _ e => nomatch e
    simp only [evE] at q
    refine ⟨ρ, F, s, Ct.seq q fun items ρ1 _ J H1 F1 s1 t1 w c1 => ?_⟩
    rw [ho]
    obtain ⟨hz, c2⟩ := ifc c1
    obtain ⟨⟨d, ρe⟩, e1, c3⟩ := map1 c2
    simp only [gqR] at e1
    obtain ⟨⟨yall, ρe'⟩, e2, e3⟩ := Option.map_eq_some_iff.mp e1
    cases e3
    refine ⟨s1.tb P hP, fun H2 t2 => ⟨items.length, fun i ys H => GlI u gc c X xr own g cs e items yall ρ1 ρe' σ H1 F1 i ys H, ?_⟩⟩
    exact gl_turns (u := u) (gc := gc) (c := c) hv s1 w hz e2 (s1.tb P hP) t2 (fun ys H F s t r p ho hp ht => by
      obtain ⟨F1, s2, t2, q2⟩ := (Res.tup hp ht s.dom r).use (H0 := H) s fun _ h => h
      exact c3 _ _ F1 s2 (t.trans t2) q2) (fun i ys y H gi hl _ => ⟨hl, fun _ => gi⟩)
  | sum =>
    refine Snd.plain ((GX.pe_sumG hr hc hN g1 (ok.blt .sum) (by rfl) TB hcode S hi parts (gfold_of hns hnl) rfl).wk fun σ H Q ⟨ρ, F, s, q⟩ => ?_) (fun _ => rfl) fun _ _ _ e => nomatch e
    simp only [evE] at q
    refine ⟨ρ, F, s, Ct.seq q fun items ρ1 _ J H1 F1 s1 t1 w c1 => ?_⟩
    rw [ho]
    obtain ⟨hz, c2⟩ := ifc c1
    obtain ⟨⟨d, ρe⟩, e1, c3⟩ := map1 c2
    simp only [gqR] at e1
    obtain ⟨⟨yall, ρe'⟩, e2, e3⟩ := Option.bind_eq_some_iff.mp e1
    obtain ⟨ns, e4, e5⟩ := Option.map_eq_some_iff.mp e3
    cases e5
    refine ⟨s1.tb P hP, fun H2 t2 => ⟨items.length, fun i ys H => GlI u gc c X xr own g cs e items yall ρ1 ρe' σ H1 F1 i ys H, ?_⟩⟩
    refine gl_turns (u := u) (gc := gc) (c := c) hv s1 w hz e2 (s1.tb P hP) t2 (fun ys H F s t r ms hms => ?_) (fun i ys y H gi hl ⟨F, yd, r, hm⟩ => ⟨?_, fun _ => gi⟩)
    · have e6 := r.ints e4
      have : ms = ns := map_int_inj (hms.symm.trans e6)
      subst this
      exact c3 _ H F s t (.int _)
    · exact mem_ints e4 hm r
end
end RX

end
section
set_option Elab.async false
set_option linter.all false
set_option maxRecDepth 100000
set_option maxHeartbeats 4000000
set_option autoImplicit false
namespace RX
open PySem PySem.Spec PyProof.Rows L2

theorem opEq_of {a b : Operator} (h : opEq a b = true) : a = b := of_decide_eq_true h
theorem cmEq_of {a b : CmpOp} (h : cmEq a b = true) : a = b := of_decide_eq_true h
section
variable {u : Sub} {gc : List D} {c : CF} {n : Nat} {xr : XR}
theorem ts_one {X : Cx} {W : WX} {x : PySem.Expr} {e : E} (h : PT X x (tM X.K X.mg xr W relB (tst (evE u gc c e)))) : PTs X [x] (tM X.K X.mg xr W relB (evTs u gc c (.cons e .nil))) := by
  refine (pts_one h).wk fun σ H Q ⟨ρ, F, s, q⟩ => ⟨ρ, F, s, ?_⟩
  have e1 : evTs u gc c (.cons e .nil) ρ = tst (evE u gc c e) ρ := by
    unfold tst
    simp only [evTs]
    cases tstO (evE u gc c e ρ) with
    | none => rfl
    | some o =>
      cases o with
      | ex x ρ1 => rfl
      | ok t ρ1 => cases t <;> rfl
  rw [← e1]; exact q
mutual
theorem sE : ∀ (e : E) (k : Kx) (X : Cx) (W : WX) (x : PySem.Expr), Ok u gc c k n X xr W → chkE e k x = true → Snd X xr W x (evE u gc c e)
  | .v i, k, X, W, x, ok, h => by
    simp only [chkE] at h
    split at h
    · exact snd_v ok h
    · cases h
  | .gi j, k, X, W, x, ok, h => by
    simp only [chkE] at h
    split at h
    · rw [Bool.and_eq_true, decide_eq_true_eq] at h
      exact snd_g ok h.1 h.2
    · cases h
  | .k d, k, X, W, x, ok, h => by
    simp only [chkE] at h
    split at h
    · exact snd_k h
    · cases h
  | .bin o a b, k, X, W, x, ok, h => by
    simp only [chkE] at h
    split at h
    · simp only [Bool.and_eq_true] at h
      rw [← opEq_of h.1.1]
      exact snd_bin (sE a k X W _ ok h.1.2) (sE b k X W _ ok h.2)
    · cases h
  | .neg a, k, X, W, x, ok, h => by
    simp only [chkE] at h
    split at h
    · exact snd_neg (sE a k X W _ ok h)
    · cases h
  | .cmp o a b, k, X, W, x, ok, h => by
    simp only [chkE] at h
    split at h
    · simp only [Bool.and_eq_true] at h
      rw [← cmEq_of h.1.1.1]
      exact snd_cmp ok.units (sE a k X W _ ok h.1.1.2) (sE b k X W _ ok h.1.2) h.2
    · cases h
  | .ch o o' a b d, k, X, W, x, ok, h => by
    simp only [chkE] at h
    split at h
    · simp only [Bool.and_eq_true] at h
      rw [← cmEq_of h.1.1.1.1.1, ← cmEq_of h.1.1.1.1.2]
      exact snd_ch ok.units (sE a k X W _ ok h.1.1.1.2) (sE b k X W _ ok h.1.1.2) (sE d k X W _ ok h.1.2) h.2
    · cases h
  | .ch3 o o' o2 a b d e, k, X, W, x, ok, h => by
    simp only [chkE] at h
    split at h
    · simp only [Bool.and_eq_true] at h
      obtain ⟨⟨⟨⟨⟨⟨⟨h1, h2⟩, h3⟩, h4⟩, h5⟩, h6⟩, h7⟩, h8⟩ := h
      rw [← cmEq_of h1, ← cmEq_of h2, ← cmEq_of h3]
      exact snd_ch3 ok.units (sE a k X W _ ok h4) (sE b k X W _ ok h5) (sE d k X W _ ok h6) (sE e k X W _ ok h7) h8
    · cases h
  | .no a, k, X, W, x, ok, h => by
    simp only [chkE] at h
    split at h
    · exact snd_no (sE a k X W _ ok h)
    · cases h
  | .an a b, k, X, W, x, ok, h => by
    simp only [chkE] at h
    split at h
    · rw [Bool.and_eq_true] at h
      rename_i pos
      have hb := sE b k X W _ ok h.2
      exact snd_an1 (pos' := pos) (sE a k X W _ ok h.1) (pe_one hb.1) (pw_and1 hb.2.1)
    · rw [Bool.and_eq_true] at h
      rename_i pos
      have hb := sE b k X W _ ok h.2
      exact snd_an1 (pos' := pos) (sE a k X W _ ok h.1) hb.1 (hb.2.2 _ _ _ rfl)
    · cases h
  | .orr a b, k, X, W, x, ok, h => by
    simp only [chkE] at h
    split at h
    · rw [Bool.and_eq_true] at h
      rename_i pos
      have hb := sE b k X W _ ok h.2
      exact snd_or1 (pos' := pos) (sE a k X W _ ok h.1) (pe_one hb.1) (pw_or1 hb.2.1)
    · rw [Bool.and_eq_true] at h
      rename_i pos
      have hb := sE b k X W _ ok h.2
      exact snd_or1 (pos' := pos) (sE a k X W _ ok h.1) hb.1 (hb.2.2 _ _ _ rfl)
    · cases h
  | .ife d a b, k, X, W, x, ok, h => by
    simp only [chkE] at h
    split at h
    · simp only [Bool.and_eq_true] at h
      exact snd_ife (sE d k X W _ ok h.1.1) (sE a k X W _ ok h.1.2) (sE b k X W _ ok h.2)
    · cases h
  | .tup es, k, X, W, x, ok, h => by
    simp only [chkE] at h
    split at h
    · exact snd_tup (sEs es k X W _ ok h)
    · cases h
  | .lst es, k, X, W, x, ok, h => by
    simp only [chkE] at h
    split at h
    · exact snd_lst (sEs es k X W _ ok h)
    · cases h
  | .ix a i, k, X, W, x, ok, h => by
    simp only [chkE] at h
    split at h
    · simp only [Bool.and_eq_true] at h
      exact snd_ix (sE a k X W _ ok h.1.1) (sE i k X W _ ok h.1.2) h.2
    · cases h
  | .sl a lo hi, k, X, W, x, ok, h => by
    simp only [chkE] at h
    split at h
    · simp only [Bool.and_eq_true] at h
      exact snd_sl (sE a k X W _ ok h.1.1) (sP lo k X W _ ok h.1.2) (sP hi k X W _ ok h.2)
    · cases h
  | .call f as, k, X, W, x, ok, h => by
    simp only [chkE] at h
    split at h
    · simp only [Bool.and_eq_true, Bool.not_eq_true', decide_eq_true_eq] at h
      exact snd_call ok h.1.1.1 h.1.1.2 h.1.2 (as_star h.2) (sAs as k X W _ ok h.2)
    · cases h
  | .b1 bb a, k, X, W, x, ok, h => by
    simp only [chkE] at h
    split at h
    · simp only [Bool.and_eq_true, decide_eq_true_eq] at h
      obtain ⟨⟨⟨⟨h1, h2⟩, h3⟩, h4⟩, h5⟩ := h
      subst h2
      exact snd_b1 ok h1 h3 (sE a k X W _ ok h4) h5
    · cases h
  | .b2 bb a d, k, X, W, x, ok, h => by
    simp only [chkE] at h
    split at h
    · simp only [Bool.and_eq_true, Bool.not_eq_true', decide_eq_true_eq] at h
      obtain ⟨⟨⟨⟨⟨⟨h1, h2⟩, h3⟩, h4⟩, h5⟩, h6⟩, h7⟩ := h
      subst h2
      exact snd_b2 ok h1 h3 (sE a k X W _ ok h4) (sE d k X W _ ok h5) h6 h7
    · cases h
  | .isi a t, k, X, W, x, ok, h => by
    simp only [chkE] at h
    split at h
    · simp only [Bool.and_eq_true, decide_eq_true_eq] at h
      obtain ⟨⟨⟨⟨⟨h1, h2⟩, h3⟩, h4⟩, h5⟩, h6⟩ := h
      subst h1 h3
      exact snd_isi ok h2 h4 (sE a k X W _ ok h5) h6
    · cases h
  | .isx i cl, k, X, W, x, ok, h => by
    simp only [chkE] at h
    split at h
    · simp only [Bool.and_eq_true, decide_eq_true_eq] at h
      obtain ⟨⟨⟨⟨⟨h0, h1⟩, h2⟩, h3⟩, h4⟩, h5⟩ := h
      subst h1 h4
      exact snd_isx ok h0 h2 h3 h5
    · cases h
  | .lch own g a cs e, k, X, W, x, ok, h => by
    simp only [chkE] at h
    split at h
    · simp only [Bool.and_eq_true, decide_eq_true_eq] at h
      obtain ⟨⟨⟨⟨⟨⟨⟨⟨h0, h1⟩, h2⟩, h3⟩, h4⟩, h5⟩, h6⟩, h7⟩, h8⟩ := h
      subst h0
      exact snd_lch ok h1 h2 h4 h5 (fun s H C cl fp => sG g _ (ok.blk h2 s H C cl fp) h3) (sE a k X W _ ok h6).1
        (fun s H C cl fp => sTs cs _ _ _ _ (ok.blk h2 s H C cl fp) h7) (fun s H C cl fp => (sE e _ _ _ _ (ok.blk h2 s H C cl fp) h8).1)
    · cases h
  | .lrev a, k, X, W, x, ok, h => by
    simp only [chkE] at h
    split at h
    · simp only [Bool.and_eq_true, Bool.not_eq_true', decide_eq_true_eq] at h
      obtain ⟨⟨⟨⟨⟨⟨h0, h1⟩, h2⟩, h3⟩, h4⟩, h5⟩, h6⟩ := h
      subst h1 h3
      exact snd_lrev ok h0 h2 h4 (sE a k X W _ ok h5) h6
    · cases h
  | .rv a, k, X, W, x, ok, h => by
    simp only [chkE] at h
    split at h
    · simp only [Bool.and_eq_true, decide_eq_true_eq] at h
      obtain ⟨h1, h2⟩ := h
      subst h1
      exact snd_rv (sE a k X W _ ok h2)
    · cases h
  | .lr1 a, k, X, W, x, ok, h => by
    simp only [chkE] at h
    split at h
    · simp only [Bool.and_eq_true, Bool.not_eq_true', decide_eq_true_eq] at h
      obtain ⟨⟨⟨⟨⟨⟨h0, h1⟩, h2⟩, h3⟩, h4⟩, h5⟩, h6⟩ := h
      subst h1 h3
      exact snd_lr1 ok h0 h2 h4 (sE a k X W _ ok h5) h6
    · cases h
  | .lr2 a b, k, X, W, x, ok, h => by
    simp only [chkE] at h
    split at h
    · simp only [Bool.and_eq_true, Bool.not_eq_true', decide_eq_true_eq] at h
      obtain ⟨⟨⟨⟨⟨⟨⟨⟨h0, h1⟩, h2⟩, h3⟩, h4⟩, h5⟩, h6⟩, h7⟩, h8⟩ := h
      subst h1 h3
      exact snd_lr2 ok h0 h2 h4 (sE a k X W _ ok h5) (sE b k X W _ ok h6) h7 h8
    · cases h
  | .lr3 a b d, k, X, W, x, ok, h => by
    simp only [chkE] at h
    split at h
    · simp only [Bool.and_eq_true, Bool.not_eq_true', decide_eq_true_eq] at h
      obtain ⟨⟨⟨⟨⟨⟨⟨⟨⟨⟨h0, h1⟩, h2⟩, h3⟩, h4⟩, h5⟩, h6⟩, h7⟩, h8⟩, h9⟩, h10⟩ := h
      subst h1 h3
      exact snd_lr3 ok h0 h2 h4 (sE a k X W _ ok h5) (sE b k X W _ ok h6) (sE d k X W _ ok h7) h8 h9 h10
    · cases h
  | .gcd a b, k, X, W, x, ok, h => by
    simp only [chkE] at h
    split at h
    · simp only [Bool.and_eq_true, decide_eq_true_eq] at h
      obtain ⟨⟨⟨⟨⟨⟨h1, h2⟩, h3⟩, h4⟩, h5⟩, h6⟩, h7⟩ := h
      subst h1
      exact snd_gcd ok h2 h3 (sE a k X W _ ok h4) (sE b k X W _ ok h5) h6 h7
    · cases h
  | .isq a, k, X, W, x, ok, h => by
    simp only [chkE] at h
    split at h
    · simp only [Bool.and_eq_true, decide_eq_true_eq] at h
      obtain ⟨⟨⟨⟨h1, h2⟩, h3⟩, h4⟩, h5⟩ := h
      subst h1
      exact snd_isq ok h2 h3 (sE a k X W _ ok h4) h5
    · cases h
  | .cnt a b, k, X, W, x, ok, h => by
    simp only [chkE] at h
    split at h
    · simp only [Bool.and_eq_true, decide_eq_true_eq] at h
      obtain ⟨⟨⟨⟨⟨h0, h1⟩, h2⟩, h3⟩, h4⟩, h5⟩ := h
      subst h0
      exact snd_cnt ok h1 h5 (sE a k X W _ ok h2) (sE b k X W _ ok h3) h4
    · cases h
  | .cntT a b, k, X, W, x, ok, h => by
    simp only [chkE] at h
    split at h
    · simp only [Bool.and_eq_true, decide_eq_true_eq] at h
      obtain ⟨⟨⟨⟨⟨⟨h0, h1⟩, h2⟩, h3⟩, h4⟩, h5⟩, h6⟩ := h
      subst h0
      exact snd_cntT ok h6 h1 h5 (sE a k X W _ ok h2) (sE b k X W _ ok h3) h4
    · cases h
  | .idxT a b, k, X, W, x, ok, h => by
    simp only [chkE] at h
    split at h
    · simp only [Bool.and_eq_true, decide_eq_true_eq] at h
      obtain ⟨⟨⟨⟨⟨⟨h0, h1⟩, h2⟩, h3⟩, h4⟩, h5⟩, h6⟩ := h
      subst h0
      exact snd_idxT ok h6 h1 h5 (sE a k X W _ ok h2) (sE b k X W _ ok h3) h4
    · cases h
  | .ldc a, k, X, W, x, ok, h => by
    simp only [chkE] at h
    split at h
    · simp only [Bool.and_eq_true, Bool.not_eq_true', decide_eq_true_eq] at h
      obtain ⟨⟨⟨⟨⟨⟨h0, h1⟩, h2⟩, h3⟩, h4⟩, h5⟩, h6⟩ := h
      subst h1 h3
      exact snd_ldc ok h0 h2 h4 (sE a k X W _ ok h5) h6
    · cases h
  | .idx a b, k, X, W, x, ok, h => by
    simp only [chkE] at h
    split at h
    · simp only [Bool.and_eq_true, decide_eq_true_eq] at h
      obtain ⟨⟨⟨⟨⟨h0, h1⟩, h2⟩, h3⟩, h4⟩, h5⟩ := h
      subst h0
      exact snd_idx ok h1 h5 (sE a k X W _ ok h2) (sE b k X W _ ok h3) h4
    · cases h
  | .lc own g it cs e, k, X, W, x, ok, h => by
    simp only [chkE] at h
    split at h
    · simp only [Bool.and_eq_true, Bool.not_eq_true', decide_eq_true_eq] at h
      obtain ⟨⟨⟨⟨⟨⟨⟨⟨h0, h1⟩, h2⟩, h3⟩, h4⟩, h5⟩, h6⟩, h7⟩, h8⟩ := h
      subst h0
      obtain ⟨t, p1, _, p2⟩ := snd_lc ok h1 h2 h4 h5 (fun s H C cl fp => sG g _ (ok.blk h2 s H C cl fp) h3) (sIt it k X W _ _ ok h6)
        (fun s H C cl fp => sTs cs _ _ _ _ (ok.blk h2 s H C cl fp) h7) (fun s H C cl fp => (sE e _ _ _ _ (ok.blk h2 s H C cl fp) h8).1)
      exact Snd.plain (p1.wk p2) (fun _ => rfl) fun _ _ _ e => nomatch e
    · cases h
  | .gq q own g it cs e, k, X, W, x, ok, h => by
    simp only [chkE] at h
    split at h
    · simp only [Bool.and_eq_true, Bool.not_eq_true', decide_eq_true_eq] at h
      obtain ⟨⟨⟨⟨⟨⟨⟨⟨⟨⟨⟨⟨⟨h0, h1⟩, h2⟩, h3⟩, h4⟩, h5⟩, h6⟩, h7⟩, h8⟩, h9⟩, h10⟩, h11⟩, h12⟩, h13⟩ := h
      subst h0 h3
      exact snd_gq ok h1 h2 h4 h5 h6 h8 h9 h10 (fun Y o => sG g _ o h7) (sIt it k X W _ _ ok h11) (fun Y o => sTs cs _ Y _ _ o h12) (fun Y o => (sE e _ Y _ _ o h13).1)
    · cases h
  | .app i a, k, X, W, x, ok, h => by
    simp only [chkE] at h
    split at h
    · simp only [Bool.and_eq_true, decide_eq_true_eq] at h
      obtain ⟨⟨⟨⟨h1, h2⟩, h3⟩, h4⟩, h5⟩ := h
      subst h2
      exact snd_app ok h1 h5 (sE a k X W _ ok h3) h4
    · cases h
  | .pop i, k, X, W, x, ok, h => by
    simp only [chkE] at h
    split at h
    · simp only [Bool.and_eq_true, decide_eq_true_eq] at h
      obtain ⟨⟨h1, h2⟩, h3⟩ := h
      subst h2
      exact snd_pop ok h1 h3
    · cases h
theorem sP : ∀ (p : P) (k : Kx) (X : Cx) (W : WX) (x : Option PySem.Expr), Ok u gc c k n X xr W → chkP p k x = true → PO X x (tM X.K X.mg xr W relP (evP u gc c p))
  | .no, k, X, W, x, ok, h => by
    cases x with
    | none => exact po_no
    | some x => simp [chkP] at h
  | .so e, k, X, W, x, ok, h => by
    simp only [chkP] at h
    split at h
    · exact po_so (sE e k X W _ ok h).1
    · cases h
theorem sEs : ∀ (es : Es) (k : Kx) (X : Cx) (W : WX) (xs : List PySem.Expr), Ok u gc c k n X xr W → chkEs es k xs = true → PA X xs (tM X.K X.mg xr W (relL X.K) (evEs u gc c es))
  | .nil, k, X, W, xs, ok, h => by
    cases xs with
    | nil => exact pa_nilE
    | cons x xs => simp [chkEs] at h
  | .cons e es, k, X, W, xs, ok, h => by
    simp only [chkEs] at h
    split at h
    · simp only [Bool.and_eq_true] at h
      exact pa_consE h.1.2 (sE e k X W _ ok h.1.1).1 (sEs es k X W _ ok h.2)
    · cases h
theorem sTs : ∀ (es : Es) (k : Kx) (X : Cx) (W : WX) (xs : List PySem.Expr), Ok u gc c k n X xr W → chkTs es k xs = true → PTs X xs (tM X.K X.mg xr W relB (evTs u gc c es))
  | .nil, k, X, W, xs, ok, h => by
    cases xs with
    | nil =>
      refine pts_nil.wk fun σ H Q ⟨ρ, F, s, q⟩ => ?_
      simp only [evTs] at q
      exact q true H F s .refl rfl
    | cons x xs => simp [chkTs] at h
  | .cons e es, k, X, W, xs, ok, h => by
    simp only [chkTs] at h
    split at h
    · exact ts_one (sE e k X W _ ok h).2.1
    · cases h
theorem sAs : ∀ (as : As) (k : Kx) (X : Cx) (W : WX) (xs : List PySem.Expr), Ok u gc c k n X xr W → chkAs as k xs = true → PA X xs (tM X.K X.mg xr W (relA X.K) (evAs u gc c as))
  | .nil, k, X, W, xs, ok, h => by
    cases xs with
    | nil => exact pa_nilA
    | cons x xs => simp [chkAs] at h
  | .ex e es, k, X, W, xs, ok, h => by
    simp only [chkAs] at h
    split at h
    · simp only [Bool.and_eq_true] at h
      exact pa_exA h.1.2 (sE e k X W _ ok h.1.1).1 (sAs es k X W _ ok h.2)
    · cases h
  | .xv i es, k, X, W, xs, ok, h => by
    simp only [chkAs] at h
    split at h
    · rw [Bool.and_eq_true] at h
      exact pa_xvA ok h.1 (sAs es k X W _ ok h.2)
    · cases h
  | .bo i es, k, X, W, xs, ok, h => by
    simp only [chkAs] at h
    split at h
    · rw [Bool.and_eq_true] at h
      exact pa_boA ok h.1 (sAs es k X W _ ok h.2)
    · cases h
theorem sIt : ∀ (it : It) (k : Kx) (X : Cx) (W : WX) (tg x : PySem.Expr), Ok u gc c k n X xr W → chkIt it k tg x = true → PI X tg x (tM X.K X.mg xr W (relI X.K) (evIt u gc c it))
  | .rc a b d, k, X, W, tg, x, ok, h => by
    simp only [chkIt] at h
    split at h
    · simp only [Bool.and_eq_true, decide_eq_true_eq] at h
      obtain ⟨⟨⟨⟨⟨⟨⟨h1, h2⟩, h3⟩, h4⟩, h5⟩, h6⟩, h7⟩, h8⟩ := h
      subst h1
      exact sI_rc ok h2 (sE a k X W _ ok h3).1 (sE b k X W _ ok h4).1 (sE d k X W _ ok h5).1 h6 h7 h8
    · cases h
  | .r1 a, k, X, W, tg, x, ok, h => by
    simp only [chkIt] at h
    split at h
    · simp only [Bool.and_eq_true, decide_eq_true_eq] at h
      obtain ⟨⟨⟨h1, h2⟩, h3⟩, h4⟩ := h
      subst h1
      exact sI_r1 ok h2 (sE a k X W _ ok h3).1 h4
    · cases h
  | .r2 a b, k, X, W, tg, x, ok, h => by
    simp only [chkIt] at h
    split at h
    · simp only [Bool.and_eq_true, decide_eq_true_eq] at h
      obtain ⟨⟨⟨⟨⟨h1, h2⟩, h3⟩, h4⟩, h5⟩, h6⟩ := h
      subst h1
      exact sI_r2 ok h2 (sE a k X W _ ok h3).1 (sE b k X W _ ok h4).1 h5 h6
    · cases h
  | .seq e, k, X, W, tg, x, ok, h => by
    simp only [chkIt] at h
    exact sI_seq (sE e k X W _ ok h).1
  | .enu e, k, X, W, tg, x, ok, h => by
    simp only [chkIt] at h
    split at h
    · simp only [Bool.and_eq_true, decide_eq_true_eq] at h
      obtain ⟨⟨⟨h1, h2⟩, h3⟩, h4⟩ := h
      subst h1
      exact sI_enu ok h2 (sE e k X W _ ok h3).1 h4
    · cases h
  | .zip a b, k, X, W, tg, x, ok, h => by
    simp only [chkIt] at h
    split at h
    · simp only [Bool.and_eq_true, decide_eq_true_eq] at h
      obtain ⟨⟨⟨⟨⟨h1, h2⟩, h3⟩, h4⟩, h5⟩, h6⟩ := h
      subst h1
      exact sI_zip ok h2 (sE a k X W _ ok h3).1 (sE b k X W _ ok h4).1 h5 h6
    · cases h
  | .rev e, k, X, W, tg, x, ok, h => by
    simp only [chkIt] at h
    split at h
    · simp only [Bool.and_eq_true, decide_eq_true_eq] at h
      obtain ⟨⟨⟨h1, h2⟩, h3⟩, h4⟩ := h
      subst h1
      exact sI_rev ok h2 (sE e k X W _ ok h3).1 h4
    · cases h
end
end
end RX

end
section
set_option Elab.async false
set_option linter.all false
set_option maxRecDepth 100000
set_option maxHeartbeats 4000000
set_option autoImplicit false
namespace RX
open PySem PySem.Spec PyProof.Rows L2

/-! ### statements -/
def CtS (K : PySem.W.Frag) (mg : Str → Option Value) (xr : XR) (W : WX) (ρ : Env) (σ : L2.St) (H : Hp) (F : Addr → Prop) (r : Option SOut) (Dn : Ends) : Prop :=
  match r with
  | none => False
  | some (.nx ρ') => ∀ σ' H' F', SR K xr ρ' σ' H' F' → Stp ρ σ H F ρ' σ' H' F' → Dn.nx σ' H'
  | some (.bk ρ') => ∀ σ' H' F', SR K xr ρ' σ' H' F' → Stp ρ σ H F ρ' σ' H' F' → Dn.bk σ' H'
  | some (.ct ρ') => ∀ σ' H' F', SR K xr ρ' σ' H' F' → Stp ρ σ H F ρ' σ' H' F' → Dn.ct σ' H'
  | some (.rt d ρ') => ∀ σ' H' F' v, SR K xr ρ' σ' H' F' → Stp ρ σ H F ρ' σ' H' F' → Rp K H' F' v d → Dn.rt v H'
  | some (.ro xs ρ') => ∀ σ' H' F' v, SR K xr ρ' σ' H' F' → Stp ρ σ H F ρ' σ' H' F' → RpO K ρ' σ' H' F' H (.new xs) v → Dn.rt v H'
  | some (.ex x ρ') => ∀ σ' H' F' C, SR K xr ρ' σ' H' F' → Stp ρ σ H F ρ' σ' H' F' → mg x = some (.ref C) → W (.ref C) none σ' H'
def tS (K : PySem.W.Frag) (mg : Str → Option Value) (xr : XR) (W : WX) (m : Env → Option SOut) : TS := fun Dn σ H => ∃ ρ F, SR K xr ρ σ H F ∧ CtS K mg xr W ρ σ H F (m ρ) Dn
section
variable {K : PySem.W.Frag} {mg : Str → Option Value} {xr : XR} {W : WX} {ρ ρ1 : Env} {σ σ1 : L2.St} {H H1 : Hp} {F F1 : Addr → Prop} {Dn : Ends}
theorem CtS.rebase {r : Option SOut} (c : CtS K mg xr W ρ σ H F r Dn) (st : Stp ρ σ H F ρ1 σ1 H1 F1) : CtS K mg xr W ρ1 σ1 H1 F1 r Dn := by
  unfold CtS at *
  split
  · exact c
  · exact fun σ' H' F' s t => c σ' H' F' s (st.trans t)
  · exact fun σ' H' F' s t => c σ' H' F' s (st.trans t)
  · exact fun σ' H' F' s t => c σ' H' F' s (st.trans t)
  · exact fun σ' H' F' v s t q => c σ' H' F' v s (st.trans t) q
  · exact fun σ' H' F' v s t q => c σ' H' F' v s (st.trans t) (q.h0 st.stay)
  · exact fun σ' H' F' C s t e => c σ' H' F' C s (st.trans t) e
theorem CtS.not (c : CtS K mg xr W ρ σ H F none Dn) : False := c
theorem CtS.seq {α β : Type} {relA : Rel α β} {r : Option (Out α)} {f : α → Env → Option SOut} {G : β → Hp → Prop} (c : CtS K mg xr W ρ σ H F (bnS r f) Dn)
    (k : ∀ a ρ1, r = some (.ok a ρ1) → ∀ b H1 F1, SR K xr ρ1 σ H1 F1 → Stp ρ σ H F ρ1 σ H1 F1 → relA ρ1 σ H1 F1 H a b → CtS K mg xr W ρ1 σ H1 F1 (f a ρ1) Dn → G b H1) : Ct K mg xr W relA ρ σ H F r G := by
  cases r with
  | none => exact c
  | some o =>
    cases o with
    | ok a ρ1 => exact fun b H1 F1 s t q => k a ρ1 rfl b H1 F1 s t q (CtS.rebase (r := f a ρ1) c t)
    | ex x ρ1 => exact fun H1 F1 C s t e => (show ∀ σ' H' F' C, SR K xr ρ1 σ' H' F' → Stp ρ σ H F ρ1 σ' H' F' → mg x = some (.ref C) → W (.ref C) none σ' H' from c) σ H1 F1 C s t e
theorem CtS.seqF {r : Option (Out Opd)} {f : D → Env → Option SOut} {G : V → Hp → Prop} (c : CtS K mg xr W ρ σ H F (bnS r fun o ρ1 => bnS (frz o ρ1) f) Dn)
    (k : ∀ d v ρ1 H1 F1, SR K xr ρ1 σ H1 F1 → Stp ρ σ H F ρ1 σ H1 F1 → Rp K H1 F1 v d → CtS K mg xr W ρ1 σ H1 F1 (f d ρ1) Dn → G v H1) : Ct K mg xr W (relO K) ρ σ H F r G := by
  cases r with
  | none => exact c
  | some o =>
    cases o with
    | ex x ρ1 => exact fun H1 F1 C s t e => (show ∀ σ' H' F' C, SR K xr ρ1 σ' H' F' → Stp ρ σ H F ρ1 σ' H' F' → mg x = some (.ref C) → W (.ref C) none σ' H' from c) σ H1 F1 C s t e
    | ok o ρ1 =>
      intro v H1 F1 s t q
      have c' : CtS K mg xr W ρ σ H F (bnS (frz o ρ1) f) Dn := c
      unfold frz at c'
      cases e : o.fz ρ1 with
      | none => rw [e] at c'; exact c'.elim
      | some p =>
        obtain ⟨d, ρ2⟩ := p
        rw [e] at c'
        obtain ⟨F2, s2, t2, r2, _⟩ := RpO.fz q s t e
        exact k d v ρ2 H1 F2 s2 t2 r2 (CtS.rebase (r := f d ρ2) c' t2)
theorem mapS {γ : Type} {o : Option γ} {g : γ → SOut} (c : CtS K mg xr W ρ σ H F (o.map g) Dn) : ∃ z, o = some z ∧ CtS K mg xr W ρ σ H F (some (g z)) Dn := by
  cases o with
  | none => exact c.not.elim
  | some z => exact ⟨z, rfl, c⟩
theorem bindS {γ : Type} {o : Option γ} {g : γ → Option SOut} (c : CtS K mg xr W ρ σ H F (o.bind g) Dn) : ∃ z, o = some z ∧ CtS K mg xr W ρ σ H F (g z) Dn := by
  cases o with
  | none => exact c.not.elim
  | some z => exact ⟨z, rfl, c⟩
theorem setSlot_of {i : Nat} {z : Slot} {ρ' : Env} (e : setSlot i z ρ = some ρ') : ∃ y, ρ[i]? = some y ∧ ρ' = ρ.set i z ∧ True := by
  unfold setSlot at e
  split at e
  · rename_i h
    cases e
    exact ⟨_, List.getElem?_eq_getElem h, rfl, trivial⟩
  · cases e
theorem set_ol {i : Nat} {y : Slot} {xs : List D} {a : Addr} {ws : List V} {ρ0 : Env} {σ0 : L2.St} {H0 : Hp} {F0 : Addr → Prop} (s : SR K xr ρ σ H F) (t : Stp ρ0 σ0 H0 F0 ρ σ H F) (e : ρ[i]? = some y) (h : H a = some (.lst ws)) (nf : ¬ F a) (no : ¬ Ow ρ σ a) (h0 : H0 a = none) (r : RpA K H F ws xs) :
    SR K xr (ρ.set i (.ol false xs)) (σ.set i (some (.ref a))) H F ∧ Stp ρ0 σ0 H0 F0 (ρ.set i (.ol false xs)) (σ.set i (some (.ref a))) H F := by
  obtain ⟨ok, ow⟩ := set_slot (z := .ol false xs) (v := .ref a) s e (.inr (.inl ⟨xs, a, ws, rfl, rfl, h, nf, r, no⟩))
  refine ⟨ok, ⟨t.inc, t.keep, t.tab, fun b o => ?_, t.stay, t.new, fun j ys q => ?_⟩⟩
  · rcases ow b o with q | q
    · exact t.own b q
    · cases q; exact .inr h0
  · rcases getS q with ⟨e1, e2, _⟩ | ⟨e1, e2⟩
    · cases e2
    · rw [List.getElem?_set_ne e1]; exact t.bor j ys e2
/-- a slot is emptied -/
theorem clr {i : Nat} {ρ0 : Env} {σ0 : L2.St} {H0 : Hp} {F0 : Addr → Prop} (s : SR K xr ρ σ H F) (t : Stp ρ0 σ0 H0 F0 ρ σ H F) : SR K xr (ρ.set i .no) (σ.set i none) H F ∧ Stp ρ0 σ0 H0 F0 (ρ.set i .no) (σ.set i none) H F := by
  have at_ : ∀ {j : Nat} {z : Slot}, (ρ.set i .no)[j]? = some z → z ≠ .no → ρ[j]? = some z ∧ (σ.set i none)[j]? = σ[j]? := fun {j z} h hn => by
    rcases getS h with ⟨e1, e2, _⟩ | ⟨e1, e2⟩
    · exact (hn e2.symm).elim
    · exact ⟨e2, List.getElem?_set_ne e1⟩
  have ow : ∀ j a, OwnAt (ρ.set i .no) (σ.set i none) j a → OwnAt ρ σ j a := fun j a ⟨o, e⟩ => by
    rcases o with ⟨b, xs, o⟩ | ⟨b, xs, o⟩
    · obtain ⟨h1, h2⟩ := at_ o (fun z => nomatch z)
      exact ⟨.inl ⟨b, xs, h1⟩, h2 ▸ e⟩
    · obtain ⟨h1, h2⟩ := at_ o (fun z => nomatch z)
      exact ⟨.inr ⟨b, xs, h1⟩, h2 ▸ e⟩
  refine ⟨⟨by simp [s.len], s.dom, fun j d e => ?_, fun j b xs e => ?_, fun j b kvs e => ?_, fun j x e => ?_, fun j l a o1 o2 => s.ap j l a (ow j a o1) (ow l a o2), s.ntb, s.tb⟩,
    ⟨t.inc, t.keep, t.tab, fun a ⟨j, o⟩ => t.own a ⟨j, ow j a o⟩, t.stay, t.new, fun j xs e => ?_⟩⟩
  · obtain ⟨h1, h2⟩ := at_ e (fun z => nomatch z)
    rw [h2]; exact s.sh j d h1
  · obtain ⟨h1, h2⟩ := at_ e (fun z => nomatch z)
    rw [h2]; exact s.ol j b xs h1
  · obtain ⟨h1, h2⟩ := at_ e (fun z => nomatch z)
    exact s.od j b kvs h1
  · obtain ⟨h1, h2⟩ := at_ e (fun z => nomatch z)
    rw [h2]; exact s.ex j x h1
  · obtain ⟨h1, h2⟩ := at_ e (fun z => nomatch z)
    rw [h2]; exact t.bor j xs h1
end
/-- in a def's own frame -/
structure OkS (u : Sub) (gc : List D) (c : CF) (k : Kx) (n : Nat) (X : Cx) (xr : XR) (W : WX) : Prop where
  ok : Ok u gc c k n X xr W
  stk : X.stack = X.env :: X.outer
  frm : X.env.frame = some X.env.locals
section
variable {u : Sub} {gc : List D} {c : CF} {k : Kx} {n : Nat} {X : Cx} {xr : XR} {W : WX}
theorem blockFn (ok : Ok u gc c k n X xr W) : X.env.blockKind = .function := by
  unfold Env.blockKind
  rw [ok.sc, ok.kind]; rfl
/-- a name's store from any reading that the evaluator's implies -/
theorem asg_of {st : Stmt} {i : Nat} {t : TE} {e : E} (h : PS X st (tAsg t (gName i))) (w : ∀ σ H Q, tM X.K X.mg xr W (relO X.K) (evE u gc c e) σ H Q → t σ H Q) :
    PS X st (tS X.K X.mg xr W (exS u gc c (.asg i e))) ∧ PS X st (tS X.K X.mg xr W (exS u gc c (.asgO i e))) := by
  constructor
  · refine h.wk fun Dn σ H ⟨ρ, F, s, q⟩ => w σ H _ ⟨ρ, F, s, ?_⟩
    simp only [exS] at q
    refine CtS.seqF q fun d v ρ1 H1 F1 s1 t1 r1 c1 => ?_
    obtain ⟨ρ2, e2, c2⟩ := mapS c1
    obtain ⟨y, e3, rfl, _⟩ := setSlot_of e2
    obtain ⟨s2, t2⟩ := set_sh s1 e3 r1
    exact c2 _ _ F1 s2 t2
  · refine h.wk fun Dn σ H ⟨ρ, F, s, q⟩ => w σ H _ ⟨ρ, F, s, ?_⟩
    simp only [exS] at q
    cases hr : evE u gc c e ρ with
    | none => rw [hr] at q; exact q.not.elim
    | some o =>
      rw [hr] at q
      cases o with
      | ex x ρ1 => exact fun H1 F1 C s1 t1 e1 => (show ∀ σ' H' F' C, SR X.K xr ρ1 σ' H' F' → Stp ρ σ H F ρ1 σ' H' F' → X.mg x = some (.ref C) → W (.ref C) none σ' H' from q) σ H1 F1 C s1 t1 e1
      | ok o ρ1 =>
        rw [bnS_ok] at q
        split at q
        · intro v H1 F1 s1 t1 r1
          obtain ⟨ρ2, e2, c2⟩ := mapS q
          obtain ⟨y, e3, rfl, _⟩ := setSlot_of e2
          obtain ⟨a, ws, rfl, g1, g2, g3, g4, g5⟩ := r1
          obtain ⟨s2, t2⟩ := set_ol s1 t1 e3 g1 g2 g3 g4 g5
          exact c2 _ _ F1 s2 t2
        · exact q.not.elim
theorem swB_of (ok : Ok u gc c k n X xr W) {x : Str} {px : Pos} {v : PySem.Expr} {l : Nat} (hl : isLc v = false ∨ ∃ a b s p, v = .ListComp a b s p) : swapsWith v (some (.Name x px)) l X.env = pure (swB k x px v) := by
  have hb := blockFn ok
  have hk : X.env.kindOf x = k.sc.names.lookup x := by show X.env.scope.names.lookup x = _; rw [ok.sc]
  rcases hl with hl | ⟨a, b, s, p, rfl⟩
  · cases v <;> first | rfl | cases hl
  · unfold swapsWith swB
    simp only [hb, hk]
    rfl
theorem sAsg (o : OkS u gc c k n X xr W) {i : Nat} {x : Str} {px pos : Pos} {e : E} {v : PySem.Expr} (h1 : stoB k i x = true) (h2 : chkE e k v = true) (h3 : (!isLc v || isL1 v) = true) (h4 : notLch e = true) :
    PS X (.Assign [.Name x px] v pos) (tS X.K X.mg xr W (exS u gc c (.asg i e))) ∧ PS X (.Assign [.Name x px] v pos) (tS X.K X.mg xr W (exS u gc c (.asgO i e))) := by
  have ok := o.ok
  obtain ⟨g1, g2, g3, g4⟩ := sto_of ok h1
  have hl : isLc v = false ∨ ∃ a b s p, v = .ListComp a b s p := by
    rw [Bool.or_eq_true] at h3
    rcases h3 with h3 | h3
    · exact .inl (by simpa using h3)
    · cases v <;> first | exact .inr ⟨_, _, _, _, rfl⟩ | cases h3
  have hs := swB_of ok (px := px) (l := pos.line) (x := x) hl
  cases hb : swB k x px v with
  | false =>
    rw [hb] at hs
    exact asg_of (ps_set g1 g2 g3 (sE e k X W v ok h2).1 hs g4) fun σ H Q q => q
  | true =>
    rw [hb] at hs
    rcases hl with hl | ⟨a, b, sc, p, rfl⟩
    · have : swB k x px v = false := by cases v <;> first | rfl | cases hl
      rw [this] at hb; cases hb
    · -- a list comprehension, stored by its block
      have hloc : X.env.scope.names.lookup x = some .local := by
        unfold swB at hb
        simp only [Bool.and_eq_true] at hb
        rw [ok.sc]
        exact beq_iff_eq.mp hb.1.1
      cases e <;> simp only [chkE, Bool.false_eq_true] at h2
      case lch => cases h4
      rename_i own g it cs e
      split at h2
      · simp only [Bool.and_eq_true, Bool.not_eq_true', decide_eq_true_eq] at h2
        rename_i heq
        cases heq
        obtain ⟨⟨⟨⟨⟨⟨⟨⟨k0, k1⟩, k2⟩, k3⟩, k4⟩, k5⟩, k6⟩, k7⟩, k8⟩ := h2
        subst k0
        obtain ⟨t, _, p1, p2⟩ := snd_lc (pos := p) ok k1 k2 k4 k5 (fun s H C cl fp => sG g _ (ok.blk k2 s H C cl fp) k3) (sIt it k X W _ _ ok k6)
          (fun s H C cl fp => sTs cs _ _ _ _ (ok.blk k2 s H C cl fp) k7) (fun s H C cl fp => (sE e _ _ _ _ (ok.blk k2 s H C cl fp) k8).1)
        exact asg_of (p1 g2 hloc hs) p2
      · cases h2
end
end RX

end
section
set_option Elab.async false
set_option linter.all false
set_option maxRecDepth 100000
set_option maxHeartbeats 4000000
set_option autoImplicit false
namespace RX
open PySem PySem.Spec PyProof.Rows L2
section
variable {u : Sub} {gc : List D} {c : CF} {k : Kx} {n : Nat} {X : Cx} {xr : XR} {W : WX}
/-! ### x op= e, of ints -/
theorem iop_int (o : Operator) (ho : isOrr o = true) : PIp X o (fun x y H Q => ∃ i j m, x = .int i ∧ y = .int j ∧ binI o i j = some m ∧ Q (.int m) H) := by
  intro pins s σ H x y v u Q I rx ry h
  obtain ⟨i, j, m, rfl, rfl, e, q⟩ := h
  cases o <;> simp only [binI] at e
  case Add => cases e; exact iop_add pins s σ H _ _ v u Q I rx ry ⟨i, j, rfl, rfl, q⟩
  case Sub => cases e; exact iop_sub pins s σ H _ _ v u Q I rx ry ⟨i, j, rfl, rfl, q⟩
  case Mult =>
    split at e <;> cases e
    rename_i h
    exact opI (C := IntMulOk) (g := fun i j => i * j) (fun _ _ _ _ _ _ _ hc q => imul_int q hc) pins s σ H _ _ v u Q I rx ry ⟨i, j, rfl, rfl, okMul_ok h, q⟩
  case MatMult => cases e
  case Div => cases e
  case FloorDiv =>
    split at e <;> cases e
    rename_i h
    rcases okDiv_ok (i := i) h with h | h
    · exact opI (C := CDivN) (g := fun i j => i.fdiv j) (fun _ _ _ _ _ _ _ hc q => ifloordiv_int hc.1 q (.inl (PyProof.noPylong_small hc.2))) pins s σ H _ _ v u Q I rx ry ⟨i, j, rfl, rfl, h, q⟩
    · refine iop_fdivW pins s σ H _ _ v u Q I rx ry ⟨i, j, rfl, rfl, h, ?_⟩
      show Q (.int (i / j)) H
      rw [← Int.fdiv_eq_ediv_of_nonneg i (by have := h.1; omega)]; exact q
  case Mod =>
    split at e <;> cases e
    rename_i h
    exact opI (C := fun _ j => j ≠ 0) (g := fun i j => i.fmod j) (fun _ _ _ _ _ _ _ hc q => imod_int hc q) pins s σ H _ _ v u Q I rx ry ⟨i, j, rfl, rfl, by simpa using h, q⟩
  case Pow => cases ho
  case LShift =>
    split at e <;> cases e
    rename_i h
    exact iop_shl pins s σ H _ _ v u Q I rx ry ⟨i, j, rfl, rfl, okPow_ok h, q⟩
  case RShift =>
    split at e <;> cases e
    rename_i h
    exact iop_shr pins s σ H _ _ v u Q I rx ry ⟨i, j, rfl, rfl, of_decide_eq_true h, q⟩
  case BitOr => cases e; exact iop_or pins s σ H _ _ v u Q I rx ry ⟨i, j, rfl, rfl, q⟩
  case BitXor => cases e; exact iop_xor pins s σ H _ _ v u Q I rx ry ⟨i, j, rfl, rfl, q⟩
  case BitAnd => cases e; exact iop_and pins s σ H _ _ v u Q I rx ry ⟨i, j, rfl, rfl, q⟩
theorem sAug (o : OkS u gc c k n X xr W) {i : Nat} {x : Str} {px pos : Pos} {op : Operator} {e : E} {v : PySem.Expr} (h1 : stoB k i x = true) (h2 : isOrr op = true) (h3 : chkE e k v = true) :
    PS X (.AugAssign (.Name x px) op v pos) (tS X.K X.mg xr W (exS u gc c (.aug i op e))) := by
  have ok := o.ok
  obtain ⟨g1, g2, g3, g4⟩ := sto_of ok h1
  refine (ps_aug g1 g2 g3 (sE e k X W v ok h3).1 (iop_int op h2) g4).wk fun Dn σ H ⟨ρ, F, s, q⟩ => ?_
  simp only [exS] at q
  split at q
  · rename_i m e1
    obtain ⟨w, hw, r⟩ := s.sh _ _ e1
    cases r
    refine ⟨_, hw, ρ, F, s, CtS.seq q fun o1 ρ1 _ v1 H1 F1 s1 t1 r1 c1 => ?_⟩
    split at c1
    · rename_i m2 e2
      obtain ⟨z, e3, c2⟩ := bindS c1
      obtain ⟨ρ2, e4, c3⟩ := mapS c2
      obtain ⟨y, e5, rfl, _⟩ := setSlot_of e4
      obtain ⟨s2, t2⟩ := set_sh (d := .int z) s1 e5 (.int z)
      exact ⟨m, m2, z, rfl, (r1.rd s1 e2).int, e3, c3 _ _ F1 s2 t2⟩
    · exact c1.not.elim
  · exact q.not.elim
/-! ### targets -/
theorem swSole {tg v : PySem.Expr} {l : Nat} {env : PySem.Env} (h : ∀ x p, tg ≠ .Name x p) : swapsWithSole [tg] v l env = pure false := by
  show swapsWith v (some tg) l env = pure false
  cases v <;> first
    | rfl
    | (cases tg <;> first | rfl | exact absurd rfl (h _ _))
theorem sAsgG (o : OkS u gc c k n X xr W) {g : G} {ts : List PySem.Expr} {kt : Nat} {pt pos : Pos} {e : E} {v : PySem.Expr} (h1 : chkG k g (.Tuple ts kt pt) = true) (h2 : chkE e k v = true) (h3 : isTup v = false) :
    PS X (.Assign [.Tuple ts kt pt] v pos) (tS X.K X.mg xr W (exS u gc c (.asgG g e))) := by
  have ok := o.ok
  have hw : swappedStores [.Tuple ts kt pt] v X.env = pure none := by cases v <;> first | rfl | cases h3
  refine (ps_asg (sE e k X W v ok h2).1 (sG g _ ok h1) (swSole fun _ _ z => nomatch z) hw).wk fun Dn σ H ⟨ρ, F, s, q⟩ => ?_
  simp only [exS] at q
  refine ⟨ρ, F, s, CtS.seqF q fun d w ρ1 H1 F1 s1 t1 r1 c1 => ?_⟩
  obtain ⟨ρ2, e2, c2⟩ := mapS c1
  exact ⟨ρ1, F1, d, ρ2, s1, r1, e2, fun σ2 s2 t2 _ => c2 σ2 H1 F1 s2 t2⟩
theorem ite_pure {α : Type} {c c' : Prop} [Decidable c] [Decidable c'] {a : Sem (Option α)} {r : Option α} (hc : c ↔ c') (h : ¬ c → a = pure r) : (if c then pure none else a) = pure (if c' then none else r) := by
  by_cases q : c
  · rw [if_pos q, if_pos (hc.mp q)]
  · rw [if_neg q, if_neg fun z => q (hc.mpr z)]; exact h q
theorem swN_ok {env : PySem.Env} {ts vs : List PySem.Expr} {k k2 : Nat} {p p2 : Pos} (hb : env.blockKind = .function) (hc : vs.all (foldedForSure 8) = true ∨ vs.all (constantsAlone 8) = false) :
    swappedStores [.Tuple ts k p] (.Tuple vs k2 p2) env = pure (swN env.scope ts vs) := by
  have e : (ScopeKind.function != ScopeKind.function) = false := by decide
  unfold swappedStores swN
  simp only [hb, Env.kindOf]
  rw [e, Bool.or_false]
  refine ite_pure Iff.rfl fun _ => ite_pure Iff.rfl fun _ => ite_pure Iff.rfl fun _ => ite_pure Iff.rfl fun h1 => ?_
  rcases hc with hc | hc
  · exact absurd hc h1
  · rw [if_neg (by rw [hc]; exact Bool.false_ne_true)]
    rfl
theorem gNames_len : ∀ {gs : Gs} {is : List Nat}, gNames gs = some is → ∀ {ds : List D} {ρ ρ' : Env}, asgGs gs ds ρ = some ρ' → ds.length = is.length
  | .nil, is, e, ds, ρ, ρ', h => by
    cases e
    cases ds with
    | nil => rfl
    | cons => simp [asgGs] at h
  | .cons g gs, is, e, ds, ρ, ρ', h => by
    cases g with
    | t _ => simp [gNames] at e
    | n i =>
      simp only [gNames] at e
      obtain ⟨js, e1, rfl⟩ := Option.map_eq_some_iff.mp e
      cases ds with
      | nil => simp [asgGs] at h
      | cons d ds =>
        simp only [asgGs] at h
        obtain ⟨ρ1, h1, h2⟩ := Option.bind_eq_some_iff.mp h
        simp [gNames_len e1 h2]
/-- a row of plain names -/
def setL : List Nat → List V → L2.St → L2.St
  | i :: is, v :: vs, σ => setL is vs (σ.set i (some v))
  | _, _, σ => σ
theorem names_set {K : PySem.W.Frag} {xr : XR} : ∀ {gs : Gs} {is : List Nat} {ds : List D} {vs : List V} {ρ ρ' : Env} {σ : L2.St} {H : Hp} {F : Addr → Prop}, gNames gs = some is → SR K xr ρ σ H F → RpA K H F vs ds → asgGs gs ds ρ = some ρ' →
    vs.length = is.length ∧ SR K xr ρ' (setL is vs σ) H F ∧ Stp ρ σ H F ρ' (setL is vs σ) H F
  | .nil, is, ds, vs, ρ, ρ', σ, H, F, e, s, r, h => by
    cases e
    cases r with
    | nil => simp only [asgGs] at h; cases h; exact ⟨rfl, s, .refl⟩
    | cons => simp [asgGs] at h
  | .cons g gs, is, ds, vs, ρ, ρ', σ, H, F, e, s, r, h => by
    cases g with
    | t _ => simp [gNames] at e
    | n i =>
      simp only [gNames] at e
      obtain ⟨js, e1, rfl⟩ := Option.map_eq_some_iff.mp e
      cases r with
      | nil => simp [asgGs] at h
      | cons r1 r2 =>
        simp only [asgGs] at h
        obtain ⟨ρ1, h1, h2⟩ := Option.bind_eq_some_iff.mp h
        simp only [asgG] at h1
        unfold setSlot at h1
        split at h1
        · rename_i q1; cases h1
          obtain ⟨s1, t1⟩ := set_sh s (List.getElem?_eq_getElem q1) r1
          obtain ⟨e2, s2, t2⟩ := names_set e1 s1 r2 h2
          exact ⟨congrArg (· + 1) e2, s2, t1.trans t2⟩
        · cases h1
theorem evEs_len {u : Sub} {gc : List D} {c : CF} : ∀ {es : Es} {k : Kx} {vs : List PySem.Expr} {ρ ρ1 : Env} {ds : List D}, chkEs es k vs = true → evEs u gc c es ρ = some (.ok ds ρ1) → ds.length = vs.length
  | .nil, k, vs, ρ, ρ1, ds, h1, h2 => by
    simp only [evEs] at h2
    cases h2
    cases vs with
    | nil => rfl
    | cons => simp [chkEs] at h1
  | .cons e es, k, vs, ρ, ρ1, ds, h1, h2 => by
    cases vs with
    | nil => simp [chkEs] at h1
    | cons v vs =>
      simp only [chkEs, Bool.and_eq_true] at h1
      simp only [evEs] at h2
      obtain ⟨x, ρ2, _, h2⟩ := bnd_ok_of h2
      obtain ⟨y, ρ3, _, h2⟩ := bnd_ok_of h2
      obtain ⟨z, ρ4, h3, h2⟩ := bnd_ok_of h2
      cases h2
      simp [evEs_len h1.2 h3]
theorem Ct.wk {K : PySem.W.Frag} {mg : Str → Option Value} {xr : XR} {W : WX} {ρ : Env} {σ : L2.St} {H : Hp} {F : Addr → Prop} {α β : Type} {rel : Rel α β} {r : Option (Out α)} {Q Q' : β → Hp → Prop} (c : Ct K mg xr W rel ρ σ H F r Q') (w : ∀ b H', Q' b H' → Q b H') : Ct K mg xr W rel ρ σ H F r Q := by
  unfold Ct at *
  split
  · exact c
  · exact fun b H' F' s t q => w b H' (c b H' F' s t q)
  · exact c
theorem gs_nth (ok : Ok u gc c k n X xr W) : ∀ {gs : Gs} {is : List Nat} {ts : List PySem.Expr} {l i : Nat} {x : Str} {px : Pos}, gNames gs = some is → chkGs k gs ts = true → is[l]? = some i → ts[l]? = some (.Name x px) → X.N[i]? = some x
  | .nil, is, ts, l, i, x, px, hg, h, e1, e2 => by cases hg; cases e1
  | .cons g gs, is, ts, l, i, x, px, hg, h, e1, e2 => by
    cases g with
    | t _ => simp [gNames] at hg
    | n i' =>
      simp only [gNames] at hg
      obtain ⟨js, e3, rfl⟩ := Option.map_eq_some_iff.mp hg
      cases ts with
      | nil => cases e2
      | cons t ts =>
        simp only [chkGs, Bool.and_eq_true] at h
        cases l with
        | zero =>
          cases e1; cases e2
          have h1 := h.1
          simp only [chkG] at h1
          exact (sto_of ok h1).2.1
        | succ l => exact gs_nth ok e3 h.2 e1 e2
theorem sPar (o : OkS u gc c k n X xr W) {gs : Gs} {es : Es} {ts vs : List PySem.Expr} {kt k2 : Nat} {pt p2 pos : Pos} (h0 : k.hot = false) (h1 : chkGs k gs ts = true) (h2 : ts.all notStar = true) (h3 : chkEs es k vs = true)
    (h4 : vs.all (foldedForSure 8) = true ∨ vs.all (constantsAlone 8) = false) (h5 : vs.length ≤ 100)
    (h6 : (match swN k.sc ts vs with
        | none => true
        | some names => swOk k gs ts vs names) = true) :
    PS X (.Assign [.Tuple ts kt pt] (.Tuple vs k2 p2) pos) (tS X.K X.mg xr W (exS u gc c (.par gs es))) := by
  have ok := o.ok
  have hw := swN_ok (k := kt) (k2 := k2) (p := pt) (p2 := p2) (ts := ts) (blockFn ok) h4
  rw [ok.sc] at hw
  have pa := sEs es k X W vs ok h3
  have hsole : swapsWithSole [.Tuple ts kt pt] (.Tuple vs k2 p2) pos.line X.env = pure false := swSole fun _ _ z => nomatch z
  cases hn : swN k.sc ts vs with
  | none =>
    rw [hn] at hw
    have hl := asg_len (env := X.env) h2
    refine (ps_asg (pe_tupMT pa) (pg_tup (ok.calm h0) (sGs gs ts ok h1 h2) hl.1 hl.2) hsole hw).wk fun Dn σ H ⟨ρ, F, s, q⟩ => ?_
    simp only [exS] at q
    refine ⟨ρ, F, s, CtS.seq q fun ds ρ1 hz ws H1 F1 s1 t1 r1 c1 => ?_⟩
    obtain ⟨ρ2, e2, c2⟩ := mapS c1
    have r1' : RpA X.K H1 F1 ws ds := r1
    have hlen : ws.length = ts.length := by rw [r1'.length]; exact gs_len h1 e2
    have hvs : ts.length ≤ 100 := by
      rw [← hlen, r1'.length, evEs_len h3 hz]; exact h5
    refine ⟨by rw [hlen, sizeLine_eq]; omega, fun p ho hp ht => ⟨p, ws, rfl, .inl (ht.rd upd_same), hlen, ?_⟩⟩
    obtain ⟨F2, s2, t2, r2⟩ := (Res.tup hp ht s1.dom r1').use (H0 := H1) s1 (fun _ h => h)
    have r2' : RpA X.K (upd H1 p ho) F2 ws ds := r1'.mono t2.inc (t2.frz s1)
    exact ⟨ρ1, F2, ds, ρ2, s2, r2', e2, fun σ2 s3 t3 _ => c2 σ2 _ F2 s3 (t2.trans t3)⟩
  | some names =>
    rw [hn] at hw h6
    have h6' : swOk k gs ts vs names = true := h6
    have step : ∀ {is : List Nat} {ρ : Env} {σ : L2.St} {H : Hp} {F : Addr → Prop} {Dn : Ends}, gNames gs = some is → SR X.K xr ρ σ H F → CtS X.K X.mg xr W ρ σ H F (exS u gc c (.par gs es) ρ) Dn →
        Ct X.K X.mg xr W (relL X.K) ρ σ H F (evEs u gc c es ρ) fun ws H1 => ws.length = is.length ∧ Dn.nx (setL is ws σ) H1 := fun {is ρ σ H F Dn} hg s q => by
      simp only [exS] at q
      refine CtS.seq q fun ds ρ1 hz ws H1 F1 s1 t1 r1 c1 => ?_
      obtain ⟨ρ2, e2, c2⟩ := mapS c1
      obtain ⟨e3, s2, t2⟩ := names_set hg s1 r1 e2
      exact ⟨e3, c2 _ _ F1 s2 t2⟩
    unfold swOk at h6'
    split at h6'
    · rename_i i j x px y py hg
      simp only [Bool.and_eq_true, decide_eq_true_eq] at h6'
      obtain ⟨⟨⟨g1, g2⟩, g3⟩, g4⟩ := h6'
      subst g2
      have n1 := gs_nth ok (l := 0) hg h1 rfl rfl
      have n2 := gs_nth ok (l := 1) hg h1 rfl rfl
      rw [← ok.sc] at g3 g4
      refine (ps_par (ok.calm h0) (by rw [ok.N]; exact ok.nd) n1 n2 g1 (beq_iff_eq.mp g3) (beq_iff_eq.mp g4) pa hw hsole).wk fun Dn σ H ⟨ρ, F, s, q⟩ => ⟨ρ, F, s, (step hg s q).wk fun ws H1 ⟨e1, q1⟩ => ?_⟩
      match ws, e1, q1 with
      | [v, w], _, q1 => exact ⟨v, w, rfl, q1⟩
    · rename_i i j l x px y py z pz _ _ _ hg
      simp only [Bool.and_eq_true, decide_eq_true_eq] at h6'
      obtain ⟨⟨⟨⟨⟨⟨g1, g2⟩, g3⟩, g4⟩, g5⟩, g6⟩, g7⟩ := h6'
      subst g4
      have n1 := gs_nth ok (l := 0) hg h1 rfl rfl
      have n2 := gs_nth ok (l := 1) hg h1 rfl rfl
      have n3 := gs_nth ok (l := 2) hg h1 rfl rfl
      rw [← ok.sc] at g5 g6 g7
      refine (ps_par3 (ok.calm h0) (by rw [ok.N]; exact ok.nd) n1 n2 n3 g1 g2 g3 (beq_iff_eq.mp g5) (beq_iff_eq.mp g6) (beq_iff_eq.mp g7) pa hw hsole).wk fun Dn σ H ⟨ρ, F, s, q⟩ => ⟨ρ, F, s, (step hg s q).wk fun ws H1 ⟨e1, q1⟩ => ?_⟩
      match ws, e1, q1 with
      | [v, w, z], _, q1 => exact ⟨v, w, z, rfl, q1⟩
    · cases h6'
/-! ### a tuple store, some of the values lists of the frame's own -/
inductive OsR (K : PySem.W.Frag) (ρ : Env) (σ : L2.St) (H : Hp) (F : Addr → Prop) : Hp → List Opd → List V → Prop
  | nil {H0 : Hp} : OsR K ρ σ H F H0 [] []
  | val {H0 H1 : Hp} {d : D} {v : V} {zs : List Opd} {vs : List V} (hs : ∀ b, H0 b ≠ none → H1 b ≠ none) (r : Rp K H F v d) (t : OsR K ρ σ H F H1 zs vs) : OsR K ρ σ H F H0 (.val d :: zs) (v :: vs)
  | new {H0 H1 : Hp} {xs : List D} {a : Addr} {zs : List Opd} {vs : List V} (hs : ∀ b, H0 b ≠ none → H1 b ≠ none) (ha : H1 a ≠ none) (r : RpO K ρ σ H F H0 (.new xs) (.ref a)) (t : OsR K ρ σ H F H1 zs vs) : OsR K ρ σ H F H0 (.new xs :: zs) (.ref a :: vs)
def relOs (K : PySem.W.Frag) : Rel (List Opd) (List V) := fun ρ σ H F H0 zs vs => OsR K ρ σ H F H0 zs vs
theorem pa_os (ok : Ok u gc c k n X xr W) : ∀ {ts : List (Nat × Bool)} {es : Es} {vs : List PySem.Expr}, chkEs es k vs = true → PA X vs (tM X.K X.mg xr W (relOs X.K) (evOs u gc c ts es))
  | ts, .nil, [], h => pa_nil.wk fun σ H Q ⟨ρ, F, s, q⟩ => by
    cases ts with
    | nil => simp only [evOs] at q; exact q _ _ F s .refl .nil
    | cons t ts => obtain ⟨_, b⟩ := t; cases b <;> (simp only [evOs] at q; exact q.elim)
  | ts, .nil, v :: vs, h => by simp [chkEs] at h
  | ts, .cons e es, [], h => by simp [chkEs] at h
  | ts, .cons e es, v :: vs, h => by
    simp only [chkEs, Bool.and_eq_true] at h
    refine (pa_cons (sE e k X W v ok h.1.1).1 (pa_os ok (ts := ts.tail) (es := es) h.2) (star_cons h.1.2)).wk fun σ H Q ⟨ρ, F, s, q⟩ => ?_
    cases ts with
    | nil => simp only [evOs] at q; exact q.elim
    | cons t ts =>
      obtain ⟨i, b⟩ := t
      refine ⟨ρ, F, s, ?_⟩
      cases b with
      | false =>
        simp only [evOs] at q
        cases hr : evE u gc c e ρ with
        | none => rw [hr] at q; exact q.elim
        | some o =>
          rw [hr] at q
          cases o with
          | ex x ρ1 => exact q
          | ok o ρ1 =>
            rw [bnd_ok] at q
            intro w H1 F1 s1 t1 r1
            unfold frz at q
            cases e1 : o.fz ρ1 with
            | none => rw [e1] at q; exact q.elim
            | some p =>
              obtain ⟨d, ρ2⟩ := p
              rw [e1] at q
              obtain ⟨F2, s2, t2, r2, _⟩ := RpO.fz r1 s1 t1 e1
              rw [bnd_ok] at q
              refine ⟨ρ2, F2, s2, ?_⟩
              cases hz : evOs u gc c ts es ρ2 with
              | none => rw [hz] at q; exact q.elim
              | some z =>
                show Ct _ _ _ _ _ _ _ _ _ (evOs u gc c ts es ρ2) _
                rw [hz] at q ⊢
                cases z with
                | ex x ρ3 => exact fun H3 F3 C s3 t3 e3 => q H3 F3 C s3 (t2.trans t3) e3
                | ok zs ρ3 =>
                  intro ws H3 F3 s3 t3 r3
                  exact q (w :: ws) H3 F3 s3 (t2.trans t3) (.val t2.stay (t3.rp s2 r2) r3)
      | true =>
        simp only [evOs] at q
        cases hr : evE u gc c e ρ with
        | none => rw [hr] at q; exact q.elim
        | some o =>
          rw [hr] at q
          cases o with
          | ex x ρ1 => exact q
          | ok o ρ1 =>
            rw [bnd_ok] at q
            intro w H1 F1 s1 t1 r1
            split at q
            · rename_i xs
              refine ⟨ρ1, F1, s1, ?_⟩
              cases hz : evOs u gc c ts es ρ1 with
              | none => rw [hz] at q; exact q.elim
              | some z =>
                show Ct _ _ _ _ _ _ _ _ _ (evOs u gc c ts es ρ1) _
                rw [hz] at q ⊢
                cases z with
                | ex x ρ3 => exact fun H3 F3 C s3 t3 e3 => q H3 F3 C s3 (t1.trans t3) e3
                | ok zs ρ3 =>
                  intro ws H3 F3 s3 t3 r3
                  have r1' : RpO X.K ρ1 σ H1 F1 H (.new xs) w := r1
                  have r4 := RpO.carry r1' s1 t3
                  obtain ⟨a, us, rfl, g1, _⟩ := r1'
                  exact q (.ref a :: ws) H3 F3 s3 (t1.trans t3) (.new t1.stay (by rw [g1]; exact fun z => nomatch z) r4 r3)
            · exact q.elim
theorem evOs_len {u : Sub} {gc : List D} {c : CF} {k : Kx} : ∀ {ts : List (Nat × Bool)} {es : Es} {vs : List PySem.Expr} {ρ ρ1 : Env} {zs : List Opd}, chkEs es k vs = true → evOs u gc c ts es ρ = some (.ok zs ρ1) → zs.length = vs.length
  | [], .nil, vs, ρ, ρ1, zs, h1, h2 => by
    simp only [evOs] at h2
    cases h2
    cases vs with
    | nil => rfl
    | cons => simp [chkEs] at h1
  | [], .cons e es, vs, ρ, ρ1, zs, h1, h2 => by simp [evOs] at h2
  | (i, b) :: ts, .nil, vs, ρ, ρ1, zs, h1, h2 => by cases b <;> simp [evOs] at h2
  | (i, b) :: ts, .cons e es, vs, ρ, ρ1, zs, h1, h2 => by
    cases vs with
    | nil => simp [chkEs] at h1
    | cons v vs =>
      simp only [chkEs, Bool.and_eq_true] at h1
      cases b with
      | false =>
        simp only [evOs] at h2
        obtain ⟨x, ρ2, _, h2⟩ := bnd_ok_of h2
        obtain ⟨y, ρ3, _, h2⟩ := bnd_ok_of h2
        obtain ⟨z, ρ4, h3, h2⟩ := bnd_ok_of h2
        cases h2
        simp [evOs_len h1.2 h3]
      | true =>
        simp only [evOs] at h2
        obtain ⟨x, ρ2, _, h2⟩ := bnd_ok_of h2
        split at h2
        · obtain ⟨z, ρ4, h3, h2⟩ := bnd_ok_of h2
          cases h2
          simp [evOs_len h1.2 h3]
        · cases h2
theorem OsR.length {K : PySem.W.Frag} {ρ : Env} {σ : L2.St} {H : Hp} {F : Addr → Prop} : ∀ {H0 : Hp} {zs : List Opd} {vs : List V}, OsR K ρ σ H F H0 zs vs → zs.length = vs.length
  | _, _, _, .nil => rfl
  | _, _, _, .val _ _ t => congrArg (· + 1) t.length
  | _, _, _, .new _ _ _ t => congrArg (· + 1) t.length
/-- the rest, once a slot is set -/
theorem OsR.set {K : PySem.W.Frag} {ρ ρ' : Env} {σ σ' : L2.St} {H : Hp} {F : Addr → Prop} : ∀ {H0 : Hp} {zs : List Opd} {vs : List V}, OsR K ρ σ H F H0 zs vs → (∀ a, H0 a = none → ¬ Ow ρ σ a → ¬ Ow ρ' σ' a) → OsR K ρ' σ' H F H0 zs vs
  | _, _, _, .nil, _ => .nil
  | _, _, _, .val hs r t, h => .val hs r (t.set fun a ha no => h a (Classical.byContradiction fun n => hs a n ha) no)
  | _, _, _, .new hs ha r t, h => by
    refine .new hs ha ?_ (t.set fun a ha no => h a (Classical.byContradiction fun n => hs a n ha) no)
    obtain ⟨a', ws, e, g1, g2, g3, g4, g5⟩ := r
    exact ⟨a', ws, e, g1, g2, h a' g4 g3, g4, g5⟩
theorem OsR.mono {K : PySem.W.Frag} {ρ : Env} {σ : L2.St} {H H' : Hp} {F F' : Addr → Prop} (hF : ∀ a, F a → F' a) (hH : ∀ a, H a ≠ none → H' a = H a) (dom : ∀ a, F a → H a ≠ none) (new : ∀ a, F' a → F a ∨ H a = none) : ∀ {H0 : Hp} {zs : List Opd} {vs : List V}, OsR K ρ σ H F H0 zs vs → OsR K ρ σ H' F' H0 zs vs
  | _, _, _, .nil => .nil
  | _, _, _, .val hs r t => .val hs (r.mono hF fun a f => hH a (dom a f)) (t.mono hF hH dom new)
  | _, _, _, .new hs ha r t => by
    obtain ⟨a', ws, e, g1, g2, g3, g4, g5⟩ := r
    have hn : H a' ≠ none := by rw [g1]; exact fun z => nomatch z
    exact .new hs ha ⟨a', ws, e, (hH a' hn).trans g1, fun f => (new a' f).elim g2 hn, g3, g4, g5.mono hF fun a f => hH a (dom a f)⟩ (t.mono hF hH dom new)
theorem ow_sh {ρ : Env} {σ : L2.St} {i : Nat} {d : D} {w : Option V} {a : Addr} (h : Ow (ρ.set i (.sh d)) (σ.set i w) a) : Ow ρ σ a := by
  obtain ⟨j, o, e⟩ := h
  rcases o.set with ⟨_, ⟨_, _, z⟩ | ⟨_, _, z⟩⟩ | ⟨hn, z⟩
  · cases z
  · cases z
  · rw [List.getElem?_set_ne hn] at e
    exact ⟨j, z, e⟩
theorem names_setO {K : PySem.W.Frag} {xr : XR} : ∀ {ts : List (Nat × Bool)} {zs : List Opd} {vs : List V} {ρ ρ' ρ0 : Env} {σ σ0 : L2.St} {H H0 Hs : Hp} {F F0 : Addr → Prop}, SR K xr ρ σ H F → Stp ρ0 σ0 H0 F0 ρ σ H F → (∀ b, H0 b ≠ none → Hs b ≠ none) → OsR K ρ σ H F Hs zs vs → setOs ts zs ρ = some ρ' →
    vs.length = ts.length ∧ SR K xr ρ' (setL (ts.map (·.1)) vs σ) H F ∧ Stp ρ0 σ0 H0 F0 ρ' (setL (ts.map (·.1)) vs σ) H F
  | [], [], vs, ρ, ρ', ρ0, σ, σ0, H, H0, Hs, F, F0, s, t, hh, r, h => by
    cases r
    simp only [setOs] at h
    cases h
    exact ⟨rfl, s, t⟩
  | [], z :: zs, vs, ρ, ρ', ρ0, σ, σ0, H, H0, Hs, F, F0, s, t, hh, r, h => by simp [setOs] at h
  | (i, b) :: ts, [], vs, ρ, ρ', ρ0, σ, σ0, H, H0, Hs, F, F0, s, t, hh, r, h => by simp [setOs] at h
  | (i, b) :: ts, z :: zs, vs, ρ, ρ', ρ0, σ, σ0, H, H0, Hs, F, F0, s, t, hh, r, h => by
    cases r with
    | val hs r1 r2 =>
      simp only [setOs] at h
      obtain ⟨ρ1, h1, h2⟩ := Option.bind_eq_some_iff.mp h
      obtain ⟨y, e3, rfl, _⟩ := setSlot_of h1
      obtain ⟨s1, t1⟩ := set_sh s e3 r1
      obtain ⟨e4, s2, t2⟩ := names_setO s1 (t.trans t1) (fun b hb => hs b (hh b hb)) (r2.set fun a _ no o => no (ow_sh o)) h2
      exact ⟨congrArg (· + 1) e4, s2, t2⟩
    | new hs ha r1 r2 =>
      rename_i H1' xs a vs'
      simp only [setOs] at h
      obtain ⟨ρ1, h1, h2⟩ := Option.bind_eq_some_iff.mp h
      obtain ⟨y, e3, rfl, _⟩ := setSlot_of h1
      obtain ⟨a', ws, e5, g1, g2, g3, g4, g5⟩ := r1
      cases e5
      obtain ⟨s1, t1⟩ := set_ol s t e3 g1 g2 g3 (Classical.byContradiction fun n => hh a n g4) g5
      obtain ⟨ok1, ow1⟩ := set_slot (z := .ol false xs) (v := .ref a) s e3 (.inr (.inl ⟨xs, a, ws, rfl, rfl, g1, g2, g5, g3⟩))
      obtain ⟨e4, s2, t2⟩ := names_setO s1 t1 (fun b hb => hs b (hh b hb)) (r2.set fun b hb no o => by
        rcases ow1 b o with q | q
        · exact no q
        · cases q; exact ha hb) h2
      exact ⟨congrArg (· + 1) e4, s2, t2⟩
theorem gNames_gsOf : ∀ ts : List (Nat × Bool), gNames (gsOf ts) = some (ts.map (·.1))
  | [] => rfl
  | (i, b) :: ts => by simp [gsOf, gNames, gNames_gsOf ts]
/-- a row of plain names, set by values alone -/
def tNames (is : List Nat) : TGs := fun vs σ H Q => vs.length = is.length ∧ Q (setL is vs σ) H
theorem pgs_names (ok : Ok u gc c k n X xr W) : ∀ (ts : List (Nat × Bool)) (es : List PySem.Expr), chkGs k (gsOf ts) es = true → es.all notStar = true → PGs X es (tNames (ts.map (·.1)))
  | [], [], _, _ => ⟨fun pins s σ H vs us Q I r ⟨h1, h2⟩ => by
    have : vs = [] := List.eq_nil_of_length_eq_zero h1
    subst this
    exact pgs_nil.run pins s σ H [] us Q I r ⟨rfl, h2⟩⟩
  | [], e :: es, h, _ => by simp [gsOf, chkGs] at h
  | t :: ts, [], h, _ => by obtain ⟨i, b⟩ := t; simp [gsOf, chkGs] at h
  | (i, b) :: ts, e :: es, h, hn => by
    simp only [gsOf, chkGs, Bool.and_eq_true] at h
    have hn' : notStar e = true ∧ es.all notStar = true := by simpa using hn
    have h1 := h.1
    cases e <;> simp only [chkG, Bool.false_eq_true] at h1
    obtain ⟨g1, g2, g3, g4⟩ := sto_of ok h1
    have main := pgs_cons (pg_name g1 g2 g3 g4) (pgs_names ok ts es h.2 hn'.2) (by rw [asg_cons hn'.1]; rfl)
    refine ⟨fun pins s σ H vs us Q I r ⟨e1, q⟩ => main.run pins s σ H vs us Q I r ?_⟩
    cases vs with
    | nil => cases e1
    | cons v vs => exact ⟨v, vs, rfl, by simpa using e1, q⟩
theorem gs_lenN {k : Kx} : ∀ {ts : List (Nat × Bool)} {es : List PySem.Expr}, chkGs k (gsOf ts) es = true → es.length = ts.length
  | [], [], _ => rfl
  | [], e :: es, h => by simp [gsOf, chkGs] at h
  | t :: ts, [], h => by obtain ⟨i, b⟩ := t; simp [gsOf, chkGs] at h
  | (i, b) :: ts, e :: es, h => by
    simp only [gsOf, chkGs, Bool.and_eq_true] at h
    simp [gs_lenN h.2]
theorem sParO (o : OkS u gc c k n X xr W) {tg : List (Nat × Bool)} {es : Es} {ts vs : List PySem.Expr} {kt k2 : Nat} {pt p2 pos : Pos} (h0 : k.hot = false) (h1 : chkGs k (gsOf tg) ts = true) (h2 : ts.all notStar = true) (h3 : chkEs es k vs = true)
    (h4 : vs.all (foldedForSure 8) = true ∨ vs.all (constantsAlone 8) = false) (h5 : vs.length ≤ 100)
    (h6 : (match swN k.sc ts vs with
        | none => true
        | some names => swOk k (gsOf tg) ts vs names) = true) :
    PS X (.Assign [.Tuple ts kt pt] (.Tuple vs k2 p2) pos) (tS X.K X.mg xr W (exS u gc c (.parO tg es))) := by
  have ok := o.ok
  have hw := swN_ok (k := kt) (k2 := k2) (p := pt) (p2 := p2) (ts := ts) (blockFn ok) h4
  rw [ok.sc] at hw
  have pa := pa_os ok (ts := tg) h3
  have hsole : swapsWithSole [.Tuple ts kt pt] (.Tuple vs k2 p2) pos.line X.env = pure false := swSole fun _ _ z => nomatch z
  have hgn := gNames_gsOf tg
  have step : ∀ {ρ : Env} {σ : L2.St} {H : Hp} {F : Addr → Prop} {Dn : Ends}, SR X.K xr ρ σ H F → CtS X.K X.mg xr W ρ σ H F (exS u gc c (.parO tg es) ρ) Dn →
      Ct X.K X.mg xr W (relOs X.K) ρ σ H F (evOs u gc c tg es ρ) fun ws H1 => (ws.length = tg.length ∧ ws.length ≤ 100) ∧ ∀ H2, (∀ a, H1 a ≠ none → H2 a = H1 a) → Dn.nx (setL (tg.map (·.1)) ws σ) H2 := fun {ρ σ H F Dn} s q => by
    simp only [exS] at q
    cases hr : evOs u gc c tg es ρ with
    | none => rw [hr] at q; exact q.not.elim
    | some z =>
      rw [hr] at q
      cases z with
      | ex x ρ1 => exact fun H1 F1 C s1 t1 e1 => (show ∀ σ' H' F' C, SR X.K xr ρ1 σ' H' F' → Stp ρ σ H F ρ1 σ' H' F' → X.mg x = some (.ref C) → W (.ref C) none σ' H' from q) σ H1 F1 C s1 t1 e1
      | ok zs ρ1 =>
        rw [bnS_ok] at q
        intro ws H1 F1 s1 t1 r1
        obtain ⟨ρ2, e2, c2⟩ := mapS q
        have r1' : OsR X.K ρ1 σ H1 F1 H zs ws := r1
        obtain ⟨e3, s2, t2⟩ := names_setO s1 t1 (fun _ h => h) r1' e2
        refine ⟨⟨e3, by rw [← r1'.length, evOs_len h3 hr]; exact h5⟩, fun H2 h12 => ?_⟩
        have s3 : SR X.K xr ρ1 σ H2 F1 := s1.grow (fun _ h => h) h12 (fun _ h => .inl h) (fun a f => by rw [h12 a (s1.dom a f)]; exact s1.dom a f) fun a f e => (s1.dom a f e).elim
        have t3 : Stp ρ σ H F ρ1 σ H2 F1 := t1.trans (Stp.grow s1 (fun _ h => h) h12 fun _ h => .inl h)
        obtain ⟨_, s4, t4⟩ := names_setO s3 t3 (fun _ h => h) (r1'.mono (fun _ h => h) h12 s1.dom fun _ h => .inl h) e2
        exact c2 _ _ F1 s4 t4
  cases hn : swN k.sc ts vs with
  | none =>
    rw [hn] at hw
    have hl := asg_len (env := X.env) h2
    refine (ps_asg (pe_tupMT pa) (pg_tup (ok.calm h0) (pgs_names ok tg ts h1 h2) hl.1 hl.2) hsole hw).wk fun Dn σ H ⟨ρ, F, s, q⟩ => ⟨ρ, F, s, (step s q).wk fun ws H1 ⟨⟨e3, e4⟩, q3⟩ => ?_⟩
    have hlen : ts.length = tg.length := gs_lenN h1
    exact ⟨by rw [sizeLine_eq]; omega, fun p ho hp ht => ⟨p, ws, rfl, .inl (ht.rd upd_same), e3.trans hlen.symm, e3.trans (by simp), q3 _ (upd_keep hp)⟩⟩
  | some names =>
    rw [hn] at hw h6
    have h6' : swOk k (gsOf tg) ts vs names = true := h6
    unfold swOk at h6'
    rw [hgn] at h6'
    split at h6'
    · rename_i i j x px y py _ _ hg
      simp only [Bool.and_eq_true, decide_eq_true_eq] at h6'
      obtain ⟨⟨⟨g1, g2⟩, g3⟩, g4⟩ := h6'
      subst g2
      have hg' : gNames (gsOf tg) = some [i, j] := hgn.trans hg
      have n1 := gs_nth ok (l := 0) hg' h1 rfl rfl
      have n2 := gs_nth ok (l := 1) hg' h1 rfl rfl
      rw [← ok.sc] at g3 g4
      have hm : tg.map (·.1) = [i, j] := Option.some.inj hg
      have hl : tg.length = 2 := by have := congrArg List.length hm; simpa using this
      refine (ps_par (ok.calm h0) (by rw [ok.N]; exact ok.nd) n1 n2 g1 (beq_iff_eq.mp g3) (beq_iff_eq.mp g4) pa hw hsole).wk fun Dn σ H ⟨ρ, F, s, q⟩ => ⟨ρ, F, s, (step s q).wk fun ws H1 ⟨⟨e1, _⟩, q1⟩ => ?_⟩
      rw [hl] at e1
      rw [hm] at q1
      match ws, e1, q1 with
      | [v, w], _, q1 => exact ⟨v, w, rfl, q1 H1 fun _ _ => rfl⟩
    · rename_i i j l x px y py z pz _ _ _ hg
      simp only [Bool.and_eq_true, decide_eq_true_eq] at h6'
      obtain ⟨⟨⟨⟨⟨⟨g1, g2⟩, g3⟩, g4⟩, g5⟩, g6⟩, g7⟩ := h6'
      subst g4
      have hg' : gNames (gsOf tg) = some [i, j, l] := hgn.trans hg
      have n1 := gs_nth ok (l := 0) hg' h1 rfl rfl
      have n2 := gs_nth ok (l := 1) hg' h1 rfl rfl
      have n3 := gs_nth ok (l := 2) hg' h1 rfl rfl
      rw [← ok.sc] at g5 g6 g7
      have hm : tg.map (·.1) = [i, j, l] := Option.some.inj hg
      have hl : tg.length = 3 := by have := congrArg List.length hm; simpa using this
      refine (ps_par3 (ok.calm h0) (by rw [ok.N]; exact ok.nd) n1 n2 n3 g1 g2 g3 (beq_iff_eq.mp g5) (beq_iff_eq.mp g6) (beq_iff_eq.mp g7) pa hw hsole).wk fun Dn σ H ⟨ρ, F, s, q⟩ => ⟨ρ, F, s, (step s q).wk fun ws H1 ⟨⟨e1, _⟩, q1⟩ => ?_⟩
      rw [hl] at e1
      rw [hm] at q1
      match ws, e1, q1 with
      | [v, w, z], _, q1 => exact ⟨v, w, z, rfl, q1 H1 fun _ _ => rfl⟩
    · cases h6'
end
end RX

end
section
set_option Elab.async false
set_option linter.all false
set_option maxRecDepth 100000
set_option maxHeartbeats 4000000
set_option autoImplicit false
namespace RX
open PySem PySem.Spec PyProof.Rows L2
section
variable {K : PySem.W.Frag} {mg : Str → Option Value} {xr : XR} {W : WX} {ρ ρ1 : Env} {σ σ1 : L2.St} {H H1 : Hp} {F F1 : Addr → Prop} {Dn : Ends}
/-- the ends of an outcome, each told from the start -/
theorem CtS.wk {Dn' : Ends} {W' : WX} {r : Option SOut} (c : CtS K mg xr W ρ σ H F r Dn) (nx : ∀ σ' H', Dn.nx σ' H' → Dn'.nx σ' H') (rt : ∀ v H', Dn.rt v H' → Dn'.rt v H') (bk : ∀ σ' H', Dn.bk σ' H' → Dn'.bk σ' H') (ct : ∀ σ' H', Dn.ct σ' H' → Dn'.ct σ' H')
    (ex : ∀ C σ' H', W (.ref C) none σ' H' → W' (.ref C) none σ' H') : CtS K mg xr W' ρ σ H F r Dn' := by
  unfold CtS at *
  split
  · exact c
  · exact fun σ' H' F' s t => nx _ _ (c σ' H' F' s t)
  · exact fun σ' H' F' s t => bk _ _ (c σ' H' F' s t)
  · exact fun σ' H' F' s t => ct _ _ (c σ' H' F' s t)
  · exact fun σ' H' F' v s t q => rt _ _ (c σ' H' F' v s t q)
  · exact fun σ' H' F' v s t q => rt _ _ (c σ' H' F' v s t q)
  · exact fun σ' H' F' C s t e => ex _ _ _ (c σ' H' F' C s t e)
end
section
variable {u : Sub} {gc : List D} {c : CF} {k : Kx} {n : Nat} {X : Cx} {xr : XR} {W : WX}
/-! ### a[i] = e -/
theorem sSt (o : OkS u gc c k n X xr W) {a : Nat} {x : Str} {px p2 pos : Pos} {i e : E} {y v : PySem.Expr} (h1 : isVar k a x = true) (h2 : chkE i k y = true) (h3 : notSl y = true) (h4 : chkE e k v = true) :
    PS X (.Assign [.Subscript (.Name x px) y p2] v pos) (tS X.K X.mg xr W (exS u gc c (.st a i e))) := by
  have ok := o.ok
  obtain ⟨g1, g2, g3, g4⟩ := vis_of ok h1
  have hw : swappedStores [.Subscript (.Name x px) y p2] v X.env = pure none := by cases v <;> rfl
  have hsub : PG X (.Subscript (.Name x px) y p2) (gSub (tVar a) (tM X.K X.mg xr W (relO X.K) (evE u gc c i)) rSetL) :=
    pg_sub (pe_var g1 g2 g3 g4) (sE i k X W y ok h2).1 set_list (by intro _; cases y <;> first | rfl | cases h3)
  refine (ps_asg (sE e k X W v ok h4).1 hsub (swSole fun _ _ z => nomatch z) hw).wk fun Dn σ H ⟨ρ, F, s, q⟩ => ?_
  simp only [exS] at q
  refine ⟨ρ, F, s, CtS.seqF q fun d w ρ1 H1 F1 s1 t1 r1 c1 => ?_⟩
  split at c1
  · rename_i b0 xs0 e0
    obtain ⟨a0, vs0, f1, f2, f3, f4⟩ := s1.ol _ _ _ e0
    refine ⟨_, f1, ρ1, F1, s1, CtS.seq c1 fun o2 ρ2 hz2 v2 H2 F2 s2 t2 r2 c2 => ?_⟩
    split at c2
    · rename_i b1 xs1 kk e1 e2
      obtain ⟨j, e3, c3⟩ := mapS c2
      obtain ⟨a1, vs1, f1', f2', f3', f4'⟩ := s2.ol _ _ _ e1
      rw [f1] at f1'; cases f1'
      obtain ⟨s3, t3⟩ := put_own (ys := xs1.set j d) s2 e1 f1 (RpA.set (t2.rp s1 r1) j f4')
      exact ⟨a0, vs1, kk, j, rfl, (RpO.rd r2 s2 e2).int, f2', by rw [f4'.length]; exact e3, c3 _ _ F2 s3 t3⟩
    · exact c2.not.elim
  · exact c1.not.elim
theorem sEx (ok : Ok u gc c k n X xr W) {e : E} {v : PySem.Expr} {pos : Pos} (h1 : chkE e k v = true) (h2 : (!isLc v) = true) : PS X (.Expr v pos) (tS X.K X.mg xr W (exS u gc c (.ex e))) := by
  have hs : swapsWith v none pos.line X.env = pure false := by cases v <;> first | rfl | cases h2
  refine (ps_expr (sE e k X W v ok h1).1 hs).wk fun Dn σ H ⟨ρ, F, s, q⟩ => ⟨ρ, F, s, ?_⟩
  simp only [exS] at q
  exact CtS.seq q fun o1 ρ1 hz v1 H1 F1 s1 t1 r1 c1 => c1 _ _ F1 s1 .refl
theorem sRet (ok : Ok u gc c k n X xr W) {e : E} {v : PySem.Expr} {pos : Pos} (h1 : chkE e k v = true) : PS X (.Return (some v) pos) (tS X.K X.mg xr W (exS u gc c (.ret e))) := by
  refine (ps_ret (sE e k X W v ok h1).1).wk fun Dn σ H ⟨ρ, F, s, q⟩ => ⟨ρ, F, s, ?_⟩
  simp only [exS] at q
  exact CtS.seqF q fun d v1 ρ1 H1 F1 s1 t1 r1 c1 => c1 _ _ F1 _ s1 .refl r1
theorem sRetO (ok : Ok u gc c k n X xr W) {e : E} {v : PySem.Expr} {pos : Pos} (h1 : chkE e k v = true) : PS X (.Return (some v) pos) (tS X.K X.mg xr W (exS u gc c (.retO e))) := by
  refine (ps_ret (sE e k X W v ok h1).1).wk fun Dn σ H ⟨ρ, F, s, q⟩ => ⟨ρ, F, s, ?_⟩
  simp only [exS] at q
  cases hr : evE u gc c e ρ with
  | none => rw [hr] at q; exact q.elim
  | some o =>
    rw [hr] at q
    cases o with
    | ex x ρ1 => exact fun H1 F1 C s1 t1 e1 => (show ∀ σ' H' F' C, SR X.K xr ρ1 σ' H' F' → Stp ρ σ H F ρ1 σ' H' F' → X.mg x = some (.ref C) → W (.ref C) none σ' H' from q) σ H1 F1 C s1 t1 e1
    | ok o ρ1 =>
      rw [bnS_ok] at q
      split at q
      · exact fun v1 H1 F1 s1 t1 r1 => q _ _ F1 _ s1 t1 r1
      · exact q.not.elim
theorem sRetN {pos : Pos} : PS X (.Return none pos) (tS X.K X.mg xr W (exS u gc c .retN)) := by
  refine ps_retN.wk fun Dn σ H ⟨ρ, F, s, q⟩ => ?_
  simp only [exS] at q
  exact q _ _ F _ s .refl .non
theorem sIfs (ok : Ok u gc c k n X xr W) {t : E} {a b : Ss} {x : PySem.Expr} {y z : List Stmt} {pos : Pos} (h1 : chkE t k x = true) (ha : PSs X y (tS X.K X.mg xr W (exSs u gc c a))) (hb : PSs X z (tS X.K X.mg xr W (exSs u gc c b))) :
    PS X (.If x y z pos) (tS X.K X.mg xr W (exS u gc c (.ifs t a b))) := by
  refine (ps_if (sE t k X W x ok h1).2.1 ha hb).wk fun Dn σ H ⟨ρ, F, s, q⟩ => ⟨ρ, F, s, ?_⟩
  simp only [exS] at q
  refine CtS.seq (r := tst (evE u gc c t) ρ) q fun b1 ρ1 hz b2 H1 F1 s1 t1 r1 c1 => ?_
  cases (r1 : b1 = b2)
  cases b1 with
  | true => exact ⟨ρ1, F1, s1, c1⟩
  | false => exact ⟨ρ1, F1, s1, c1⟩
theorem sFor (o : OkS u gc c k n X xr W) {g : G} {it : It} {b : Ss} {tg x : PySem.Expr} {y : List Stmt} {pos : Pos} (h0 : k.hot = false) (h1 : chkG k g tg = true) (h2 : chkIt it k tg x = true) (h3 : notSet x = true) (hb : PSs X y (tS X.K X.mg xr W (exSs u gc c b))) :
    PS X (.For tg x y [] pos) (tS X.K X.mg xr W (exS u gc c (.forr g it b))) := by
  have ok := o.ok
  have hs : ∀ z, foldedSetIterable x X.env z = pure z := by cases x <;> first | (intro _; rfl) | cases h3
  refine (ps_for ok.own (ok.calm h0) (sIt it k X W tg x ok h2) (sG g tg ok h1) hb hs).wk fun Dn σ H ⟨ρ, F, s, q⟩ => ⟨ρ, F, s, ?_⟩
  simp only [exS] at q
  refine CtS.seq q fun xs ρ1 hz J H1 F1 s1 t1 r1 c1 => ?_
  have w : IsWalk X.K J xs H1 F1 := r1
  refine for_it w (fun i σ' H' => ∃ ρ' F', SR X.K xr ρ' σ' H' F' ∧ Stp ρ1 σ H1 F1 ρ' σ' H' F' ∧ CtS X.K X.mg xr W ρ' σ' H' F' (forL (fun d ρ => (asgG g d ρ).bind fun ρ => exSs u gc c b ρ) (xs.drop i) ρ') Dn)
    ⟨ρ1, F1, s1, .refl, by simpa using c1⟩ (fun i σ' H' _ ⟨ρ', F', s', t', _⟩ => t'.frz s1) ?_ ?_
  · rintro i v σ' H' H2 hi ⟨ρ', F', s', t', c'⟩ ⟨hk, hy⟩
    obtain ⟨F2, i1, i2, i3, i4, d, ed, rd⟩ := hy F' t'.inc s'.dom
    have s2 : SR X.K xr ρ' σ' H2 F2 := s'.grow i1 hk i2 i3 i4
    have t2 : Stp ρ' σ' H' F' ρ' σ' H2 F2 := Stp.grow s' i1 hk i2
    rw [List.drop_eq_getElem_cons hi] at c'
    have ed' : xs[i] = d := by rw [List.getElem?_eq_getElem hi] at ed; exact Option.some.inj ed
    rw [ed'] at c'
    simp only [forL] at c'
    cases hg : asgG g d ρ' with
    | none => rw [hg] at c'; exact c'.elim
    | some ρ3 =>
      rw [hg] at c'
      refine ⟨ρ', F2, d, ρ3, s2, rd, hg, fun σ3 s3 t3 _ => ⟨ρ3, F2, s3, ?_⟩⟩
      have tt := t2.trans t3
      have c2 : CtS X.K X.mg xr W ρ' σ' H' F' (match exSs u gc c b ρ3 with
        | some (.nx ρ) => forL (fun d ρ => (asgG g d ρ).bind fun ρ => exSs u gc c b ρ) (xs.drop (i + 1)) ρ
        | some (.ct ρ) => forL (fun d ρ => (asgG g d ρ).bind fun ρ => exSs u gc c b ρ) (xs.drop (i + 1)) ρ
        | some (.bk ρ) => some (.nx ρ)
        | r => r) Dn := c'
      cases hr : exSs u gc c b ρ3 with
      | none => rw [hr] at c2; exact c2.elim
      | some r =>
        rw [hr] at c2
        cases r with
        | nx ρ4 => exact fun σ4 H4 F4 s4 t4 => ⟨ρ4, F4, s4, t'.trans (tt.trans t4), c2.rebase (tt.trans t4)⟩
        | ct ρ4 => exact fun σ4 H4 F4 s4 t4 => ⟨ρ4, F4, s4, t'.trans (tt.trans t4), c2.rebase (tt.trans t4)⟩
        | bk ρ4 => exact fun σ4 H4 F4 s4 t4 => (show ∀ σ' H' F', _ → _ → Dn.nx σ' H' from c2) σ4 H4 F4 s4 (tt.trans t4)
        | rt d4 ρ4 => exact fun σ4 H4 F4 v4 s4 t4 r4 => (show ∀ σ' H' F' v, _ → _ → _ → Dn.rt v H' from c2) σ4 H4 F4 v4 s4 (tt.trans t4) r4
        | ro d4 ρ4 => exact fun σ4 H4 F4 v4 s4 t4 r4 => CtS.rebase (r := some (.ro d4 ρ4)) c2 tt σ4 H4 F4 v4 s4 t4 r4
        | ex x4 ρ4 => exact fun σ4 H4 F4 C s4 t4 e4 => (show ∀ σ' H' F' C, _ → _ → _ → W (.ref C) none σ' H' from c2) σ4 H4 F4 C s4 (tt.trans t4) e4
  · rintro σ' H' ⟨ρ', F', s', t', c'⟩
    rw [List.drop_length] at c'
    exact c' _ _ F' s' .refl
/-! ### while -/
def whN (t : Env → Option (Out Bool)) (b : Env → Option SOut) : Nat → Env → Option SOut
  | 0, _ => none
  | m + 1, ρ => match stW t b ρ with
    | some (.inl s) => some s
    | some (.inr ρ) => whN t b m ρ
    | none => none
theorem whL_whN (t : Env → Option (Out Bool)) (b : Env → Option SOut) : ∀ (ρ : Env) (r : SOut), whL t b ρ = some r → ∃ m, whN t b m ρ = some r := by
  refine whL.partial_correctness t b (fun ρ r => ∃ m, whN t b m ρ = some r) ?_
  intro wh ih ρ r h
  cases e : stW t b ρ with
  | none => rw [e] at h; cases h
  | some z =>
    rw [e] at h
    cases z with
    | inl s => exact ⟨1, by simp only [whN, e]; exact h⟩
    | inr ρ' =>
      obtain ⟨m, hm⟩ := ih ρ' r h
      exact ⟨m + 1, by simp only [whN, e]; exact hm⟩
theorem sWhl (ok : Ok u gc c k n X xr W) {t : E} {b : Ss} {x : PySem.Expr} {y : List Stmt} {pos : Pos} (h1 : chkE t k x = true) (hb : PSs X y (tS X.K X.mg xr W (exSs u gc c b))) :
    PS X (.While x y [] pos) (tS X.K X.mg xr W (exS u gc c (.whl t b))) := by
  refine (ps_while ok.own (sE t k X W x ok h1).2.1 hb).wk fun Dn σ H ⟨ρ, F, s, q⟩ => ?_
  simp only [exS] at q
  cases hr : whL (fun ρ => evT u gc c t ρ) (fun ρ => exSs u gc c b ρ) ρ with
  | none => rw [hr] at q; exact q.elim
  | some r =>
    rw [hr] at q
    obtain ⟨m0, e0⟩ := whL_whN _ _ _ _ hr
    refine ⟨fun m σ' H' => ∃ ρ' F', SR X.K xr ρ' σ' H' F' ∧ Stp ρ σ H F ρ' σ' H' F' ∧ CtS X.K X.mg xr W ρ' σ' H' F' (whN (fun ρ => evT u gc c t ρ) (fun ρ => exSs u gc c b ρ) m ρ') Dn, ⟨m0, ρ, F, s, .refl, by rw [e0]; exact q⟩, ?_⟩
    rintro m σ' H' ⟨ρ', F', s', t', c'⟩
    cases m with
    | zero => exact c'.elim
    | succ m =>
      simp only [whN, stW] at c'
      refine ⟨ρ', F', s', ?_⟩
      show Ct X.K X.mg xr W relB ρ' σ' H' F' (evT u gc c t ρ') _
      cases ht : evT u gc c t ρ' with
      | none => rw [ht] at c'; exact c'.elim
      | some z =>
        rw [ht] at c'
        cases z with
        | ex x1 ρ1 => exact fun H1 F1 C s1 t1 e1 => (show ∀ σ' H' F' C, _ → _ → _ → W (.ref C) none σ' H' from c') σ' H1 F1 C s1 t1 e1
        | ok b1 ρ1 =>
          intro b2 H1 F1 s1 t1 r1
          cases (r1 : b1 = b2)
          cases b1 with
          | false =>
            rw [if_neg Bool.false_ne_true]
            exact (show ∀ σ' H' F', _ → _ → Dn.nx σ' H' from c') σ' H1 F1 s1 t1
          | true =>
            rw [if_pos rfl]
            refine ⟨fun σ2 H2 => ∃ ρ2 F2, SR X.K xr ρ2 σ2 H2 F2 ∧ Stp ρ σ H F ρ2 σ2 H2 F2 ∧ CtS X.K X.mg xr W ρ2 σ2 H2 F2 (whN (fun ρ => evT u gc c t ρ) (fun ρ => exSs u gc c b ρ) m ρ2) Dn, fun σ2 H2 h => ⟨m, Nat.lt_succ_self m, h⟩, ρ1, F1, s1, ?_⟩
            dsimp only at c'
            cases hr2 : exSs u gc c b ρ1 with
            | none => rw [hr2] at c'; exact c'.elim
            | some r2 =>
              rw [hr2] at c'
              cases r2 with
              | nx ρ4 => exact fun σ4 H4 F4 s4 t4 => ⟨ρ4, F4, s4, t'.trans (t1.trans t4), CtS.rebase (r := whN _ _ m ρ4) c' (t1.trans t4)⟩
              | ct ρ4 => exact fun σ4 H4 F4 s4 t4 => ⟨ρ4, F4, s4, t'.trans (t1.trans t4), CtS.rebase (r := whN _ _ m ρ4) c' (t1.trans t4)⟩
              | bk ρ4 => exact fun σ4 H4 F4 s4 t4 => (show ∀ σ' H' F', _ → _ → Dn.nx σ' H' from c') σ4 H4 F4 s4 (t1.trans t4)
              | rt d4 ρ4 => exact fun σ4 H4 F4 v4 s4 t4 r4 => (show ∀ σ' H' F' v, _ → _ → _ → Dn.rt v H' from c') σ4 H4 F4 v4 s4 (t1.trans t4) r4
              | ro d4 ρ4 => exact fun σ4 H4 F4 v4 s4 t4 r4 => CtS.rebase (r := some (.ro d4 ρ4)) c' t1 σ4 H4 F4 v4 s4 t4 r4
              | ex x4 ρ4 => exact fun σ4 H4 F4 C s4 t4 e4 => (show ∀ σ' H' F' C, _ → _ → _ → W (.ref C) none σ' H' from c') σ4 H4 F4 C s4 (t1.trans t4) e4
/-! ### exceptions -/
theorem sRais (ok : Ok u gc c k n X xr W) {x m : Str} {j : Nat} {p p2 p3 pos : Pos} (h0 : k.hot = false) (h1 : glB k.sc x = true) (h2 : k.excs.contains x = true) :
    PS X (.Raise (some (.Call (.Name x p) [.Constant (.str m) j p2] [] p3)) none pos) (tS X.K X.mg xr W (exS u gc c (.rais x))) := by
  obtain ⟨g1, g2⟩ := gl_of ok h1
  obtain ⟨C, e1, e2, e3, e4, e5⟩ := ok.exc x (by simpa using h2)
  refine (L2N.ps_raise (ok.calm h0) ok.tk (L2N.pmk_own PySem.F.excBase_ValueError e2 e1 e3 (raises_own e4 e5) g1 g2)).wk fun Dn σ H ⟨ρ, F, s, q⟩ => ?_
  simp only [exS] at q
  exact q _ _ F C s .refl e1
theorem SR.hot {K : PySem.W.Frag} {xr xr' : XR} {ρ : Env} {σ : L2.St} {H : Hp} {F : Addr → Prop} (s : SR K xr ρ σ H F) (h : ∀ (i : Nat) (x : Str), ρ[i]? = some (Slot.ex x) → ∀ a, xr a x → xr' a x) (ht : xr'.tb = xr.tb) : SR K xr' ρ σ H F :=
  ⟨s.len, s.dom, s.sh, s.ol, s.od, fun i x e => let ⟨a, e1, e2⟩ := s.ex i x e; ⟨a, e1, h i x e a e2⟩, s.ap, s.ntb, by rw [ht]; exact s.tb⟩
theorem clrX_of {i : Nat} {ρ ρ' : Env} (h : clrX i ρ = some ρ') : ρ' = ρ.set i .no ∧ ∀ (j : Nat) (x : Str), ρ'[j]? ≠ some (Slot.ex x) := by
  unfold clrX at h
  split at h
  · rename_i ha
    cases h
    refine ⟨rfl, fun j x e => ?_⟩
    have := List.all_eq_true.mp ha _ (List.mem_of_getElem? e)
    cases this
  · cases h
theorem sTri (o : OkS u gc c k n X xr W) {b h : Ss} {x nm : Str} {i : Nat} {y ws : List Stmt} {w : Stmt} {p p' pos : Pos} (h0 : k.hot = false) (h1 : glB k.sc x = true) (h2 : k.cls.contains x = true) (h3 : k.N[i]? = some nm) (h4 : k.sc.names.lookup nm = some .local)
    (hb : ∀ (W' : WX) (X' : Cx), OkS u gc c k n X' xr W' → X'.K = X.K → X'.mg = X.mg → PSs X' y (tS X'.K X'.mg xr W' (exSs u gc c b)))
    (hh : ∀ (W' : WX) (xr' : XR) (X' : Cx), OkS u gc c { k with hot := true, xs := true } n X' xr' W' → X'.K = X.K → X'.mg = X.mg → PSs X' (w :: ws) (tS X'.K X'.mg xr' W' (exSs u gc c h))) :
    PS X (.Try y [.ExceptHandler (some (.Name x p)) (some nm) (w :: ws) p'] [] [] pos) (tS X.K X.mg xr W (exS u gc c (.tri b x i h))) := by
  have ok := o.ok
  obtain ⟨g1, g2⟩ := gl_of ok h1
  obtain ⟨cv, hcv⟩ := ok.cls x (by simpa using h2)
  obtain ⟨v0, hv0, hc0⟩ := id hcv
  have hN : X.N.Nodup := by rw [ok.N]; exact ok.nd
  have hi : X.N[i]? = some nm := by rw [ok.N]; exact h3
  have hln : X.env.kindOf nm = some .local := by show X.env.scope.names.lookup nm = _; rw [ok.sc]; exact h4
  have uq : ∀ {cw}, ClsAt X x cw → cw = cv := fun {cw} ⟨_, _, q⟩ => by
    rcases q with q | ⟨q, q2, _⟩ <;> rcases hc0 with q' | ⟨q', q2', _⟩
    · rw [q] at q'; exact Option.some.inj q'
    · rw [q] at q'; cases q'
    · rw [q] at q'; cases q'
    · rw [q2] at q2'; exact Option.some.inj q2'
  have hot : ∀ {ρ : Env} {σ : L2.St} {H : Hp} {F : Addr → Prop}, SR X.K xr ρ σ H F → ∀ (j : Nat) (z : Str), ρ[j]? ≠ some (Slot.ex z) := fun {ρ σ H F} s j z e => let ⟨a, _, q⟩ := s.ex j z e; ok.noex h0 a z q
  have hxs : k.xs = true → False := fun z => by
    have := ok.xsh z
    rw [h0] at this; cases this
  have body : ∀ (W' : WX) (pn : List (Addr × Obj)) (xe : Value → Shared → Prop), L2N.Takes (X.tr pn xe) W' → PassesOwn (model X.prog X.w) X.A X.env xe → PSs (X.tr pn xe) y (tS X.K X.mg xr W' (exSs u gc c b)) := fun W' pn xe tk po =>
    hb W' (X.tr pn xe) ⟨{ N := ok.N, nd := ok.nd, sc := ok.sc, kind := ok.kind, calm := ok.calm, room := ok.room, units := ok.units, tk := tk, own := po, fn := ok.fn, blt := ok.blt, rev := ok.rev, mb := ok.mb, gen := ok.gen, blts := ok.blts, noex := ok.noex, xsh := ok.xsh, hotp := fun z => (hxs z).elim, roomH := ok.roomH, sub := ok.sub, cls := ok.cls, exc := ok.exc, cst := ok.cst, fns := ok.fns, hfn := ok.hfn }, o.stk, o.frm⟩ rfl rfl
  have suite : ∀ (a : Addr) (oe : Obj) (cls : Value) (d : Option Addr) (pn : List (Addr × Obj)), L2N.Zn cls d oe → (∃ vs, oe.data = .fields vs) → PSs (X.suite a ((a, oe) :: pn)) (w :: ws)
      (tS X.K X.mg ⟨fun b y => b = a ∧ d = none ∧ ∃ C, cls = .ref C ∧ X.mg y = some (.ref C), xr.tb⟩ WF (exSs u gc c h)) := fun a oe cls d pn hz hf =>
    hh _ _ (X.suite a ((a, oe) :: pn)) ⟨{ N := ok.N, nd := ok.nd, sc := ok.sc, kind := ok.kind, calm := (fun z => nomatch z), room := (fun z => nomatch z), units := ok.units, tk := takesN0, own := PassesOwn.never, fn := ok.fn, blt := ok.blt, rev := ok.rev, mb := ok.mb, gen := ok.gen, blts := ok.blts, noex := (fun z => nomatch z), xsh := (fun _ => rfl), hotp := fun _ => ⟨(a, oe), ⟨⟨rfl, hf.elim fun vs e => ⟨vs, e, hz.2.2 vs e⟩⟩, List.mem_cons_self⟩, fun b y ⟨e1, e2, C, e3, e4⟩ => ⟨e1, C, by subst e2 e3; exact hz, hf, e4⟩⟩, roomH := (fun _ => let r := (ok.room h0).mono (Nat.le_add_right _ _); ⟨r.dp, r.un⟩), sub := ok.sub, cls := ok.cls, exc := ok.exc, cst := ok.cst, fns := ok.fns, hfn := ok.hfn }, o.stk, o.frm⟩ rfl rfl
  refine (L2N.ps_try_as o.stk o.frm hN hi hln ⟨g1, g2, hc0⟩ ok.tk body suite).wk fun Dn σ H ⟨ρ, F, s, q⟩ => ⟨ρ, F, s, ?_⟩
  simp only [exS] at q
  cases hr : exSs u gc c b ρ with
  | none => rw [hr] at q; exact q.elim
  | some r =>
    rw [hr] at q
    cases r with
    | nx ρ1 => exact q
    | bk ρ1 => exact q
    | ct ρ1 => exact q
    | rt d ρ1 => exact q
    | ro d ρ1 => exact q
    | ex z ρ1 =>
      intro σ1 H1 F1 C s1 t1 e1
      obtain ⟨bb, e2, q2⟩ := bindS q
      obtain ⟨C', cw, e3, e4, e5, _, _⟩ := ok.sub z x bb e2
      rw [e1] at e3; cases e3
      have := uq e4
      subst this
      refine ⟨bb, e5, fun eb a na => ?_, fun eb => ?_⟩
      · subst eb
        obtain ⟨ρ2, e6, q3⟩ := bindS q2
        obtain ⟨y0, e7, rfl, _⟩ := setSlot_of e6
        have s1' : SR X.K ⟨fun b y => b = a ∧ none = (none : Option Addr) ∧ ∃ C', Value.ref C = .ref C' ∧ X.mg y = some (.ref C'), xr.tb⟩ ρ1 σ1 H1 F1 := s1.hot (fun j z e => (hot s1 j z e).elim) rfl
        have s2 := (set_slot (z := .ex z) (v := .ref a) s1' e7 (.inr (.inr ⟨z, a, rfl, rfl, rfl, rfl, C, rfl, e1⟩))).1
        have t2 : Stp ρ1 σ1 H1 F1 (ρ1.set i (.ex z)) (σ1.set i (some (.ref a))) H1 F1 := by
          refine ⟨fun _ f => f, fun _ _ _ _ => rfl, fun _ h => h, fun b ob => ?_, fun _ f => f, fun _ f => .inl f, fun j xs e => ?_⟩
          · obtain ⟨j, ob, eb⟩ := ob
            rcases ob.set with ⟨e8, ⟨_, _, z⟩ | ⟨_, _, z⟩⟩ | ⟨e8, ob⟩
            · cases z
            · cases z
            · rw [List.getElem?_set_ne e8] at eb
              exact .inl ⟨j, ob, eb⟩
          · rcases getS e with ⟨_, z, _⟩ | ⟨e8, e9⟩
            · cases z
            · exact ⟨List.getElem?_set_ne e8, xs, e9⟩
        have back : ∀ {ρ3 ρ4 : Env} {σ3 : L2.St} {H3 : Hp} {F3 : Addr → Prop}, clrX i ρ3 = some ρ4 → SR X.K ⟨fun b y => b = a ∧ none = (none : Option Addr) ∧ ∃ C', Value.ref C = .ref C' ∧ X.mg y = some (.ref C'), xr.tb⟩ ρ3 σ3 H3 F3 → Stp (ρ1.set i (.ex z)) (σ1.set i (some (.ref a))) H1 F1 ρ3 σ3 H3 F3 →
            SR X.K xr ρ4 (σ3.set i none) H3 F3 ∧ Stp ρ σ H F ρ4 (σ3.set i none) H3 F3 := fun {ρ3 ρ4 σ3 H3 F3} e s3 t3 => by
          obtain ⟨rfl, ne⟩ := clrX_of e
          obtain ⟨s4, t4⟩ := clr (i := i) s3 (t1.trans (t2.trans t3))
          exact ⟨s4.hot (fun j z e => (ne j z e).elim) rfl, t4⟩
        refine ⟨_, F1, s2, ?_⟩
        cases hr3 : exSs u gc c h (ρ1.set i (.ex z)) with
        | none => rw [hr3] at q3; exact q3.elim
        | some r3 =>
          rw [hr3] at q3
          cases r3 with
          | nx ρ3 =>
            obtain ⟨ρ4, e8, q4⟩ := mapS q3
            exact fun σ3 H3 F3 s3 t3 => let ⟨s4, t4⟩ := back e8 s3 t3; (show ∀ σ' H' F', _ → _ → Dn.nx σ' H' from q4) _ _ F3 s4 t4
          | bk ρ3 =>
            obtain ⟨ρ4, e8, q4⟩ := mapS q3
            exact fun σ3 H3 F3 s3 t3 => let ⟨s4, t4⟩ := back e8 s3 t3; (show ∀ σ' H' F', _ → _ → Dn.bk σ' H' from q4) _ _ F3 s4 t4
          | ct ρ3 =>
            obtain ⟨ρ4, e8, q4⟩ := mapS q3
            exact fun σ3 H3 F3 s3 t3 => let ⟨s4, t4⟩ := back e8 s3 t3; (show ∀ σ' H' F', _ → _ → Dn.ct σ' H' from q4) _ _ F3 s4 t4
          | rt d ρ3 =>
            obtain ⟨ρ4, e8, q4⟩ := mapS q3
            exact fun σ3 H3 F3 v s3 t3 r3 => let ⟨s4, t4⟩ := back e8 s3 t3; (show ∀ σ' H' F' v, _ → _ → _ → Dn.rt v H' from q4) _ _ F3 v s4 t4 r3
          | ro d ρ3 => exact q3.elim
          | ex z3 ρ3 => exact q3.elim
      · subst eb
        exact (show ∀ σ' H' F' C, _ → _ → _ → W (.ref C) none σ' H' from q2) _ _ F1 C s1 t1 e1
end
end RX

end
section
set_option Elab.async false
set_option linter.all false
set_option maxRecDepth 100000
set_option maxHeartbeats 4000000
set_option autoImplicit false
namespace RX
open PySem PySem.Spec PyProof.Rows L2
section
variable {u : Sub} {gc : List D} {c : CF} {n : Nat}
mutual
theorem sS : ∀ (s : S) (k : Kx) (X : Cx) (xr : XR) (W : WX) (st : Stmt), OkS u gc c k n X xr W → chkS s k st = true → PS X st (tS X.K X.mg xr W (exS u gc c s))
  | .asg i e, k, X, xr, W, st, o, h => by
    simp only [chkS] at h
    split at h
    · simp only [Bool.and_eq_true] at h
      exact (sAsg o h.1.1.1 h.1.1.2 h.1.2 h.2).1
    · cases h
  | .asgO i e, k, X, xr, W, st, o, h => by
    simp only [chkS] at h
    split at h
    · simp only [Bool.and_eq_true] at h
      exact (sAsg o h.1.1.1 h.1.1.2 h.1.2 h.2).2
    · cases h
  | .asgG g e, k, X, xr, W, st, o, h => by
    simp only [chkS] at h
    split at h
    · simp only [Bool.and_eq_true, Bool.not_eq_true'] at h
      exact sAsgG o h.1.1 h.1.2 h.2
    · cases h
  | .par gs es, k, X, xr, W, st, o, h => by
    simp only [chkS] at h
    split at h
    · simp only [Bool.and_eq_true, Bool.not_eq_true', decide_eq_true_eq, Bool.or_eq_true] at h
      obtain ⟨⟨⟨⟨⟨⟨h0, h1⟩, h2⟩, h3⟩, h4⟩, h5⟩, h6⟩ := h
      exact sPar o h0 h1 h2 h3 h4 h5 h6
    · cases h
  | .parO tg es, k, X, xr, W, st, o, h => by
    simp only [chkS] at h
    split at h
    · simp only [Bool.and_eq_true, Bool.not_eq_true', decide_eq_true_eq, Bool.or_eq_true] at h
      obtain ⟨⟨⟨⟨⟨⟨h0, h1⟩, h2⟩, h3⟩, h4⟩, h5⟩, h6⟩ := h
      exact sParO o h0 h1 h2 h3 h4 h5 h6
    · cases h
  | .st a i e, k, X, xr, W, st, o, h => by
    simp only [chkS] at h
    split at h
    · simp only [Bool.and_eq_true] at h
      exact sSt o h.1.1.1 h.1.1.2 h.1.2 h.2
    · cases h
  | .aug i op e, k, X, xr, W, st, o, h => by
    simp only [chkS] at h
    split at h
    · simp only [Bool.and_eq_true] at h
      obtain ⟨⟨⟨h1, h2⟩, h3⟩, h4⟩ := h
      have := opEq_of h2
      subst this
      exact sAug o h1 h3 h4
    · cases h
  | .ex e, k, X, xr, W, st, o, h => by
    simp only [chkS] at h
    split at h
    · simp only [Bool.and_eq_true] at h
      exact sEx o.ok h.1 h.2
    · cases h
  | .ret e, k, X, xr, W, st, o, h => by
    simp only [chkS] at h
    split at h
    · exact sRet o.ok h
    · cases h
  | .retO e, k, X, xr, W, st, o, h => by
    simp only [chkS] at h
    split at h
    · exact sRetO o.ok h
    · cases h
  | .retN, k, X, xr, W, st, o, h => by
    simp only [chkS] at h
    split at h
    · exact sRetN
    · cases h
  | .ifs t a b, k, X, xr, W, st, o, h => by
    simp only [chkS] at h
    split at h
    · simp only [Bool.and_eq_true] at h
      exact sIfs o.ok h.1.1 (sSs a k X xr W _ o h.1.2) (sSs b k X xr W _ o h.2)
    · cases h
  | .forr g it b, k, X, xr, W, st, o, h => by
    simp only [chkS] at h
    split at h
    · simp only [Bool.and_eq_true, Bool.not_eq_true'] at h
      obtain ⟨⟨⟨⟨h0, h1⟩, h2⟩, h3⟩, h4⟩ := h
      exact sFor o h0 h1 h2 h3 (sSs b k X xr W _ o h4)
    · cases h
  | .whl t b, k, X, xr, W, st, o, h => by
    simp only [chkS] at h
    split at h
    · simp only [Bool.and_eq_true] at h
      exact sWhl o.ok h.1 (sSs b k X xr W _ o h.2)
    · cases h
  | .brk, k, X, xr, W, st, o, h => by
    simp only [chkS] at h
    split at h
    · refine ps_break.wk fun Dn σ H ⟨ρ, F, s, q⟩ => ?_
      simp only [exS] at q
      exact q _ _ F s .refl
    · cases h
  | .cnt, k, X, xr, W, st, o, h => by
    simp only [chkS] at h
    split at h
    · refine ps_continue.wk fun Dn σ H ⟨ρ, F, s, q⟩ => ?_
      simp only [exS] at q
      exact q _ _ F s .refl
    · cases h
  | .pass, k, X, xr, W, st, o, h => by
    simp only [chkS] at h
    split at h
    · refine ps_pass.wk fun Dn σ H ⟨ρ, F, s, q⟩ => ?_
      simp only [exS] at q
      exact q _ _ F s .refl
    · cases h
  | .rais x, k, X, xr, W, st, o, h => by
    simp only [chkS] at h
    split at h
    · simp only [Bool.and_eq_true, Bool.not_eq_true', decide_eq_true_eq] at h
      obtain ⟨⟨⟨h0, h1⟩, h2⟩, h3⟩ := h
      subst h1
      exact sRais o.ok h0 h2 h3
    · cases h
  | .tri b x i hd, k, X, xr, W, st, o, h => by
    simp only [chkS] at h
    split at h
    · simp only [Bool.and_eq_true, Bool.not_eq_true', decide_eq_true_eq] at h
      obtain ⟨⟨⟨⟨⟨⟨⟨h0, h1⟩, h2⟩, h3⟩, h4⟩, h5⟩, h6⟩, h7⟩ := h
      subst h1
      exact sTri o h0 h2 h3 h4 (beq_iff_eq.mp h5) (fun W' X' o' _ _ => sSs b k X' xr W' _ o' h6) fun W' xr' X' o' _ _ => sSs hd _ X' xr' W' _ o' h7
    · cases h
theorem sSs : ∀ (r : Ss) (k : Kx) (X : Cx) (xr : XR) (W : WX) (sts : List Stmt), OkS u gc c k n X xr W → chkSs r k sts = true → PSs X sts (tS X.K X.mg xr W (exSs u gc c r))
  | .nil, k, X, xr, W, sts, o, h => by
    simp only [chkSs] at h
    cases sts with
    | cons => cases h
    | nil =>
      refine pss_nil.wk fun Dn σ H ⟨ρ, F, s, q⟩ => ?_
      simp only [exSs] at q
      exact q _ _ F s .refl
  | .cons s r, k, X, xr, W, sts, o, h => by
    simp only [chkSs] at h
    split at h
    · simp only [Bool.and_eq_true] at h
      refine (pss_cons (sS s k X xr W _ o h.1) (sSs r k X xr W _ o h.2)).wk fun Dn σ H ⟨ρ, F, s1, q⟩ => ⟨ρ, F, s1, ?_⟩
      simp only [exSs] at q
      cases hr : exS u gc c s ρ with
      | none => rw [hr] at q; exact q.elim
      | some z =>
        rw [hr] at q
        cases z with
        | nx ρ1 => exact fun σ1 H1 F1 s2 t2 => ⟨ρ1, F1, s2, CtS.rebase (r := exSs u gc c r ρ1) q t2⟩
        | bk ρ1 => exact q
        | ct ρ1 => exact q
        | rt d ρ1 => exact q
        | ro d ρ1 => exact q
        | ex x ρ1 => exact q
    · cases h
end
end
end RX

end
section
set_option Elab.async false
set_option linter.all false
set_option maxRecDepth 100000
set_option maxHeartbeats 4000000
set_option autoImplicit false
namespace RX
open PySem PySem.Spec PyProof.Rows L2

/-! ### a def of the text -/
structure Row where
  name : Str
  st : Stmt
  N : List Str
  ps : List Str
  fn : Fn
def scB (N P : List Str) (sc : Scope) : Bool :=
  decide (sc.kind = .function) && !sc.isCoroutine && !sc.isGenerator && decide N.Nodup && decide (N.take P.length = P) && P.all (fun x => decide (sc.names.lookup x = some .local) || decide (sc.names.lookup x = some .cell)) && sc.names.all (fun y => !decide (y.2 = .free))
theorem scope_by {N P : List Str} {sc : Scope} (h : scB N P sc = true) : FnScope N P sc := by
  unfold scB at h
  simp only [Bool.and_eq_true, Bool.not_eq_true', decide_eq_true_eq, List.all_eq_true, Bool.or_eq_true, decide_eq_false_iff_not] at h
  obtain ⟨⟨⟨⟨⟨⟨h1, h2⟩, h3⟩, h4⟩, h5⟩, h6⟩, h7⟩ := h
  exact ⟨h1, h2, h3, h4, h5, h6, h7⟩
/-- the names that all defs share -/
structure Names where
  fns : List Str
  csts : List Str
  excs : List Str
  cls : List Str
  hots : List Nat
  mb : List Str
  gens : List Nat
def kxOf (nm : Names) (b gn : Bool) (r : Row) : Kx where
  N := r.N
  sc := defScope r.st
  cells := (defScope r.st).names.filterMap fun y => if y.2 = .cell then some y.1 else none
  hot := b
  xs := b
  gen := gn && !b
  hots := nm.hots
  fns := nm.fns
  csts := nm.csts
  excs := nm.excs
  cls := nm.cls
  mb := nm.mb
def rowB (nm : Names) (b gn : Bool) (r : Row) : Bool := scB r.N r.ps (defScope r.st) && decide (r.fn.np = r.ps.length) && decide (r.fn.ns = r.N.length) && chkSs r.fn.body (kxOf nm b gn r) (defBody r.st)
def rowsB (nm : Names) (rows : List Row) : Bool := (List.range rows.length).all fun i => match rows[i]? with
  | some r => rowB nm (nm.hots.contains i) (nm.gens.contains i) r
  | none => true
theorem rowsB_at {nm : Names} {rows : List Row} (h : rowsB nm rows = true) {i : Nat} {r : Row} (e : rows[i]? = some r) : rowB nm (nm.hots.contains i) (nm.gens.contains i) r = true := by
  have := List.all_eq_true.mp h i (List.mem_range.mpr (List.getElem?_eq_some_iff.mp e).1)
  rw [e] at this; exact this
def ClsMg (mg : Str → Option Value) (x : Str) (cv : Value) : Prop := ∃ v, ClsV v cv ∧ (mg x = some cv ∨ (mg x = none ∧ bootBuiltins x = some cv ∧ x ≠ "__name__"))
/-- what the top has written -/
structure Facts (K : PySem.W.Frag) (mg : Str → Option Value) (u : Sub) (gc : List D) (rows : List Row) (nm : Names) : Prop where
  blt : ∀ b, mg (biN b) = none
  rev : ∀ x ∈ moreL, mg x = none
  mb : ∀ x id, x ∈ nm.mb → mbId x = some id → mg x = some (.builtin id)
  blts : mg "range" = none ∧ mg "isinstance" = none ∧ ∀ t, mg (tyS t) = none
  sub : ∀ y x b, u y x = some b → ∃ C cv, mg y = some (.ref C) ∧ ClsMg mg x cv ∧ PySem.W.exmOne K (.ref C) cv = some b ∧ PySem.W.kitOne K (.ref C) cv = some b ∧ ExcC K C
  cls : ∀ x ∈ nm.cls, ∃ cv, ClsMg mg x cv
  exc : ∀ x ∈ nm.excs, ∃ C, mg x = some (.ref C) ∧ PySem.W.excIn K C [.type "ValueError", .type "Exception", .type "BaseException", .type "object"] "ValueError.__new__" = true ∧ PySem.W.keepIn K (.ref C) = true ∧
    PySem.W.subIn K (.ref C) (.type "BaseException") = some true ∧ PySem.W.typeIn K (.ref C) = some (.type "type")
  cst : ∀ (j : Nat) (x : Str) (d : D), nm.csts[j]? = some x → gc[j]? = some d → ∃ v u, mg x = some u ∧ RelV v u ∧ ∀ H F, Rp K H F v d
  defs : ∀ r ∈ rows, ∃ f fd, mg r.name = some (.ref f) ∧ PySem.W.keepIn K (.ref f) = true ∧ Fun K r.name r.name r.st f fd ∧ ∀ (s : Shared) (us : List Value), us.length = r.ps.length → BindsTo s fd ⟨us, []⟩ (r.ps.zip us)
section
variable {K : PySem.W.Frag} {mg : Str → Option Value} {xr : XR} {H H' : Hp} {F F' : Addr → Prop}
theorem ArR.length : ∀ {vs : List V} {as : List CArg}, ArR K xr H F vs as → vs.length = as.length
  | _, _, .nil => rfl
  | _, _, .av _ r => congrArg (· + 1) r.length
  | _, _, .ax _ r => congrArg (· + 1) r.length
  | _, _, .al _ _ _ r => congrArg (· + 1) r.length
/-- what an entry's slot is -/
def ArS (K : PySem.W.Frag) (xr : XR) (H : Hp) (F : Addr → Prop) (L : List Addr) (s : Slot) (v : V) : Prop :=
  (∃ d, s = .sh d ∧ Rp K H F v d) ∨ (∃ a ws xs, s = .ol true xs ∧ v = .ref a ∧ a ∈ L ∧ H a = some (.lst ws) ∧ ¬ F a ∧ RpA K H F ws xs) ∨ ∃ a c, s = .ex c ∧ v = .ref a ∧ xr a c
theorem ArS.more {L L' : List Addr} {s : Slot} {v : V} (h : ArS K xr H F L s v) (hL : ∀ a ∈ L, a ∈ L') : ArS K xr H F L' s v := by
  rcases h with h | ⟨a, ws, xs, h1, h2, h3, h4⟩ | h
  · exact .inl h
  · exact .inr (.inl ⟨a, ws, xs, h1, h2, hL a h3, h4⟩)
  · exact .inr (.inr h)
theorem lent_sub {v : V} {c : CArg} {vs : List V} {as : List CArg} : ∀ a ∈ lent vs as, a ∈ lent (v :: vs) (c :: as) := fun a h => by
  cases v <;> cases c <;> simp [lent, h]
theorem ArR.at : ∀ {vs : List V} {as : List CArg} {i : Nat} {s : Slot}, ArR K xr H F vs as → (as.map slotOf)[i]? = some s → ∃ v, vs[i]? = some v ∧ ArS K xr H F (lent vs as) s v
  | _, _, 0, s, .av r _, h => by cases h; exact ⟨_, rfl, .inl ⟨_, rfl, r⟩⟩
  | _, _, 0, s, .ax r _, h => by cases h; exact ⟨_, rfl, .inr (.inr ⟨_, _, rfl, rfl, r⟩)⟩
  | _, _, 0, s, .al h1 h2 h3 _, h => by cases h; exact ⟨_, rfl, .inr (.inl ⟨_, _, _, rfl, rfl, by simp [lent], h1, h2, h3⟩)⟩
  | _, _, i + 1, s, .av _ r, h => by
    obtain ⟨w, e, q⟩ := ArR.at (i := i) r (by simpa using h)
    exact ⟨w, by simpa using e, q.more lent_sub⟩
  | _, _, i + 1, s, .ax _ r, h => by
    obtain ⟨w, e, q⟩ := ArR.at (i := i) r (by simpa using h)
    exact ⟨w, by simpa using e, q.more lent_sub⟩
  | _, _, i + 1, s, .al _ _ _ r, h => by
    obtain ⟨w, e, q⟩ := ArR.at (i := i) r (by simpa using h)
    exact ⟨w, by simpa using e, q.more lent_sub⟩
theorem ArS.own {L : List Addr} {xs : List D} {b : Bool} {v : V} (h : ArS K xr H F L (.ol b xs) v) : b = true ∧ ∃ a ws, v = .ref a ∧ a ∈ L ∧ H a = some (.lst ws) ∧ ¬ F a ∧ RpA K H F ws xs := by
  rcases h with ⟨d, h, _⟩ | ⟨a, ws, xs, h1, h2⟩ | ⟨a, c, h, _⟩
  · cases h
  · cases h1; exact ⟨rfl, a, ws, h2⟩
  · cases h
/-- two own slots of the entry are two lists -/
theorem ArR.apart : ∀ {vs : List V} {as : List CArg} {i j : Nat} {a : Addr} {xs ys : List D}, ArR K xr H F vs as → (lent vs as).Nodup → (as.map slotOf)[i]? = some (.ol true xs) → (as.map slotOf)[j]? = some (.ol true ys) → vs[i]? = some (.ref a) → vs[j]? = some (.ref a) → i = j
  | _, _, 0, 0, _, _, _, _, _, _, _, _, _ => rfl
  | _, _, i + 1, j + 1, a, xs, ys, .av (v := v) (vs := ws) (as := bs) _ r, n, h1, h2, e1, e2 => by
    have n' : (lent ws bs).Nodup := by cases v <;> simpa [lent] using n
    exact congrArg (· + 1) (ArR.apart r n' (by simpa using h1) (by simpa using h2) (by simpa using e1) (by simpa using e2))
  | _, _, i + 1, j + 1, a, xs, ys, .ax _ r, n, h1, h2, e1, e2 => by
    exact congrArg (· + 1) (ArR.apart r (by simpa [lent] using n) (by simpa using h1) (by simpa using h2) (by simpa using e1) (by simpa using e2))
  | _, _, i + 1, j + 1, a, xs, ys, .al _ _ _ r, n, h1, h2, e1, e2 => by
    exact congrArg (· + 1) (ArR.apart r (by simp [lent] at n; exact n.2) (by simpa using h1) (by simpa using h2) (by simpa using e1) (by simpa using e2))
  | _, _, 0, j + 1, a, xs, ys, .av _ r, n, h1, h2, e1, e2 => by simp [slotOf] at h1
  | _, _, i + 1, 0, a, xs, ys, .av _ r, n, h1, h2, e1, e2 => by simp [slotOf] at h2
  | _, _, 0, j + 1, a, xs, ys, .ax _ r, n, h1, h2, e1, e2 => by simp [slotOf] at h1
  | _, _, i + 1, 0, a, xs, ys, .ax _ r, n, h1, h2, e1, e2 => by simp [slotOf] at h2
  | _, _, 0, j + 1, a, xs, ys, .al (vs := ws) _ _ _ r, n, h1, h2, e1, e2 => by
    obtain ⟨v, e3, q⟩ := ArR.at (i := j) r (by simpa using h2)
    obtain ⟨_, b, _, q, hm, _⟩ := q.own
    subst q
    cases e1
    have e2' : ws[j]? = some (V.ref a) := by simpa using e2
    rw [e2'] at e3
    cases e3
    simp [lent] at n
    exact (n.1 hm).elim
  | _, _, i + 1, 0, a, xs, ys, .al (vs := ws) _ _ _ r, n, h1, h2, e1, e2 => by
    obtain ⟨v, e3, q⟩ := ArR.at (i := i) r (by simpa using h1)
    obtain ⟨_, b, _, q, hm, _⟩ := q.own
    subst q
    cases e2
    have e1' : ws[i]? = some (V.ref a) := by simpa using e1
    rw [e1'] at e3
    cases e3
    simp [lent] at n
    exact (n.1 hm).elim
theorem enter_at {fn : Fn} {as : List CArg} {i : Nat} {s : Slot} (h : (enter fn as)[i]? = some s) : (as.map slotOf)[i]? = some s ∨ (s = .no) := by
  unfold enter at h
  by_cases hi : i < as.length
  · rw [List.getElem?_append_left (by simpa using hi)] at h; exact .inl h
  · rw [List.getElem?_append_right (by simpa using hi), List.getElem?_replicate] at h
    split at h <;> cases h
    exact .inr rfl
theorem start_at {N : List Str} {vs : List V} {i : Nat} {v : V} (h : vs[i]? = some v) : (L2.start N vs)[i]? = some (some v) := by
  unfold L2.start
  have hi : i < vs.length := (List.getElem?_eq_some_iff.mp h).1
  rw [List.getElem?_append_left (by simpa using hi), List.getElem?_map, h]; rfl
theorem start_own {N : List Str} {fn : Fn} {vs : List V} {as : List CArg} (r : ArR K xr H F vs as) {i : Nat} {b : Bool} {xs : List D} (o : (enter fn as)[i]? = some (.ol b xs)) : (as.map slotOf)[i]? = some (.ol true xs) ∧ b = true ∧ ∃ a ws, vs[i]? = some (.ref a) ∧ a ∈ lent vs as ∧ H a = some (.lst ws) ∧ ¬ F a ∧ RpA K H F ws xs := by
  rcases enter_at o with o | o
  · obtain ⟨v, e1, q⟩ := r.at o
    obtain ⟨rfl, a, ws, rfl, q2⟩ := q.own
    exact ⟨o, rfl, a, ws, e1, q2⟩
  · cases o
theorem start_nod {fn : Fn} {vs : List V} {as : List CArg} (r : ArR K xr H F vs as) {i : Nat} {b : Bool} {xs : List (D × D)} (o : (enter fn as)[i]? = some (.od b xs)) : False := by
  rcases enter_at o with o | o
  · obtain ⟨v, e1, q⟩ := r.at o
    rcases q with ⟨d', q, r'⟩ | ⟨a, ws, _, q, _⟩ | ⟨a, c, q, _⟩ <;> cases q
  · cases o
theorem sr_start {N : List Str} {fn : Fn} {vs : List V} {as : List CArg} (hn : fn.ns = N.length) (dom : ∀ a, F a → H a ≠ none) (ntb : ∀ a, F a → NT H a) (tb : ∀ a ∈ xr.tb, GxR.TabG H a) (r : ArR K xr H F vs as) (nd : (lent vs as).Nodup) : SR K xr (enter fn as) (L2.start N vs) H F where
  len := by
    have := r.length
    unfold enter L2.start
    simp [hn, this]
  dom := dom
  ntb := ntb
  tb := tb
  sh i d e := by
    rcases enter_at e with e | e
    · obtain ⟨v, e1, q⟩ := r.at e
      rcases q with ⟨d', q, r'⟩ | ⟨_, _, _, q, _⟩ | ⟨a, c, q, _⟩
      · cases q; exact ⟨v, start_at e1, r'⟩
      · cases q
      · cases q
    · cases e
  ol i b xs e := by
    obtain ⟨_, _, a, ws, e1, _, h1, h2, h3⟩ := start_own (N := N) r e
    exact ⟨a, ws, start_at e1, h1, h2, h3⟩
  od i b kvs e := start_nod r e
  ex i c e := by
    rcases enter_at e with e | e
    · obtain ⟨v, e1, q⟩ := r.at e
      rcases q with ⟨d', q, r'⟩ | ⟨_, _, _, q, _⟩ | ⟨a, c, q, rfl, hx⟩
      · cases q
      · cases q
      · cases q; exact ⟨a, start_at e1, hx⟩
    · cases e
  ap i j a o1 o2 := by
    have own : ∀ {i}, OwnAt (enter fn as) (L2.start N vs) i a → ∃ xs, (as.map slotOf)[i]? = some (.ol true xs) ∧ vs[i]? = some (.ref a) := fun {i} ⟨o, e⟩ => by
      rcases o with ⟨b, xs, o⟩ | ⟨b, xs, o⟩
      · obtain ⟨h1, _, a', ws, e1, _⟩ := start_own (N := N) r o
        rw [start_at e1] at e
        cases e
        exact ⟨xs, h1, e1⟩
      · exact (start_nod r o).elim
    obtain ⟨xs, h1, h2⟩ := own o1
    obtain ⟨ys, h3, h4⟩ := own o2
    exact r.apart nd h1 h3 h2 h4
theorem ow_start {N : List Str} {fn : Fn} {vs : List V} {as : List CArg} (r : ArR K xr H F vs as) {a : Addr} (o : Ow (enter fn as) (L2.start N vs) a) : a ∈ lent vs as := by
  obtain ⟨i, o, e⟩ := o
  rcases o with ⟨b, xs, o⟩ | ⟨b, xs, o⟩
  · obtain ⟨h1, _, a', ws, e1, hm, _⟩ := start_own (N := N) r o
    rw [start_at e1] at e
    cases e
    exact hm
  · exact (start_nod r o).elim
theorem outs_ok : ∀ {vs : List V} {as : List CArg} {ρs : Env} {os : List (List D)}, ArR K xr H F vs as → outsL as ρs = some os →
    (∀ (j : Nat) (xs : List D), ρs[j]? = some (.ol true xs) → ∀ v, vs[j]? = some v → ∃ a ws, v = .ref a ∧ H' a = some (.lst ws) ∧ ¬ F' a ∧ RpA K H' F' ws xs) →
    OutR K H' F' (lent vs as) os ∧ ∀ a ∈ lent vs as, ¬ F' a
  | _, _, ρs, os, .nil, h, _ => by
    simp only [outsL] at h
    cases h
    exact ⟨.nil, fun a z => nomatch z⟩
  | _, _, ρs, os, .av (v := v) _ r, h, k => by
    cases ρs with
    | nil => simp [outsL] at h
    | cons s ρs =>
      simp only [outsL] at h
      have := outs_ok r h (fun j xs e v e2 => k (j + 1) xs e v e2)
      cases v <;> simpa [lent] using this
  | _, _, ρs, os, .ax _ r, h, k => by
    cases ρs with
    | nil => simp [outsL] at h
    | cons s ρs =>
      simp only [outsL] at h
      have := outs_ok r h (fun j xs e v e2 => k (j + 1) xs e v e2)
      simpa [lent] using this
  | _, _, ρs, os, .al _ _ _ r, h, k => by
    cases ρs with
    | nil => simp [outsL] at h
    | cons s ρs =>
      cases s with
      | ol b xs =>
        cases b with
        | true =>
          simp only [outsL] at h
          obtain ⟨os', h1, rfl⟩ := Option.map_eq_some_iff.mp h
          obtain ⟨p1, p2⟩ := outs_ok r h1 (fun j xs e v e2 => k (j + 1) xs e v e2)
          obtain ⟨a, ws, e, q1, q2, q3⟩ := k 0 xs rfl _ rfl
          cases e
          refine ⟨.cons ⟨ws, q1, q2, q3⟩ p1, fun b hb => ?_⟩
          rcases List.mem_cons.mp hb with e | hb
          · rw [e]; exact q2
          · exact p2 b hb
        | false => simp [outsL] at h
      | no => simp [outsL] at h
      | sh _ => simp [outsL] at h
      | od _ _ => simp [outsL] at h
      | ex _ => simp [outsL] at h
/-- behind a body -/
theorem left_ok {xr' : XR} {N : List Str} {fn : Fn} {vs : List V} {as : List CArg} {ρ' : Env} {σ' : L2.St} {os : List (List D)} (r : ArR K xr H F vs as) (ho : outsL as ρ' = some os) (s : SR K xr' ρ' σ' H' F') (t : Stp (enter fn as) (L2.start N vs) H F ρ' σ' H' F') :
    Lft (lent vs as) H F H' F' ∧ OutR K H' F' (lent vs as) os := by
  obtain ⟨p1, p2⟩ := outs_ok (H' := H') (F' := F') r ho fun j xs e v e2 => by
    obtain ⟨a, ws, h1, h2, h3, h4⟩ := s.ol j true xs e
    obtain ⟨e3, _⟩ := t.bor j xs e
    rw [e3, start_at e2] at h1
    cases h1
    exact ⟨a, ws, rfl, h2, h3, h4⟩
  refine ⟨⟨t.inc, fun a h nt n => t.keep a h nt fun o => n (ow_start r o), t.tab, t.stay, fun a f => ?_, s.dom, s.ntb⟩, p1⟩
  rcases t.new a f with q | q | q
  · exact .inl q
  · exact (p2 a (ow_start r q) f).elim
  · exact .inr q
end
section
variable {P : Program} {w : World} {K : PySem.W.Frag} {mg : Str → Option Value} {base : Heap} {u : Sub} {gc : List D} {rows : List Row} {nm : Names} {T : List Addr}
theorem binds_of {fd : FuncData} {ps : List Str} (h : ∀ (s : Shared) (us : List Value), us.length = ps.length → BindsTo s fd ⟨us, []⟩ (ps.zip us)) : Binds K fd ps [] := fun s us _ hl => by
  rw [List.append_nil] at hl ⊢
  exact h s us hl
/-- behind a body: what its outcome says is what the call's promise says -/
theorem body_end {xr xr' : XR} {N : List Str} {fn : Fn} {vs : List V} {as : List CArg} {H : Hp} {F : Addr → Prop} {so : Option SOut} {Q : VK} {E : XK} (ar : ArR K xr H F vs as)
    (z : match finF as so with
      | none => False
      | some (.ok d os) => ∀ v H' F', Lft (lent vs as) H F H' F' → OutR K H' F' (lent vs as) os → Rp K H' F' v d → Q v H'
      | some (.ow xs os) => ∀ a ws H' F', Lft (lent vs as) H F H' F' → OutR K H' F' (lent vs as) os → H a = none → H' a = some (.lst ws) → ¬ F' a → RpA K H' F' ws xs → Q (.ref a) H'
      | some (.ex x os) => ∀ H' F' C, Lft (lent vs as) H F H' F' → OutR K H' F' (lent vs as) os → mg x = some (.ref C) → E (.ref C) none H') :
    CtS K mg xr' (fun cls d _ H => E cls d H) (enter fn as) (L2.start N vs) H F so { nx := fun _ H' => Q .non H', rt := Q } := by
  cases so with
  | none => exact z.elim
  | some so =>
    cases so with
    | nx ρ' =>
      simp only [finF] at z
      cases ho : outsL as ρ' with
      | none => rw [ho] at z; exact z.elim
      | some os =>
        rw [ho] at z
        intro σ' H' F' s' t'
        obtain ⟨q1, q2⟩ := left_ok ar ho s' t'
        exact (show ∀ v H' F', _ → _ → _ → Q v H' from z) _ _ F' q1 q2 .non
    | rt d ρ' =>
      simp only [finF] at z
      cases ho : outsL as ρ' with
      | none => rw [ho] at z; exact z.elim
      | some os =>
        rw [ho] at z
        intro σ' H' F' v s' t' r'
        obtain ⟨q1, q2⟩ := left_ok ar ho s' t'
        exact (show ∀ v H' F', _ → _ → _ → Q v H' from z) _ _ F' q1 q2 r'
    | ro xs ρ' =>
      simp only [finF] at z
      cases ho : outsL as ρ' with
      | none => rw [ho] at z; exact z.elim
      | some os =>
        rw [ho] at z
        intro σ' H' F' v s' t' r'
        obtain ⟨q1, q2⟩ := left_ok ar ho s' t'
        obtain ⟨a, ws, rfl, g1, g2, g3, g4, g5⟩ := r'
        exact (show ∀ a ws H' F', _ → _ → H a = none → _ → _ → _ → Q (.ref a) H' from z) a ws _ F' q1 q2 g4 g1 g2 g5
    | ex x ρ' =>
      simp only [finF] at z
      cases ho : outsL as ρ' with
      | none => rw [ho] at z; exact z.elim
      | some os =>
        rw [ho] at z
        intro σ' H' F' C s' t' e'
        obtain ⟨q1, q2⟩ := left_ok ar ho s' t'
        exact (show ∀ H' F' C, _ → _ → _ → E (.ref C) none H' from z) _ F' C q1 q2 e'
    | bk ρ' => exact z.elim
    | ct ρ' => exact z.elim
/-- the defs that make generator expressions: their code objects, their tables -/
def GenT (K : PySem.W.Frag) (mg : Str → Option Value) (base : Heap) (rows : List Row) (nm : Names) (T : List Addr) : Prop :=
  ∀ (f : Nat) (r : Row) (a : Addr), rows[f]? = some r → nm.gens.contains f = true → mg r.name = some (.ref a) → ∃ c P, (∀ (o : Obj) (fd : FuncData), K.lookup a = some o → o.data = .func fd → fd.code = .ref c) ∧ P ∈ T ∧ GxR.TabB base mg c P
theorem fn_ok (Fa : Facts K mg u gc rows nm) (GT : GenT K mg base rows nm T) (hnm : nm.fns = rows.map (·.name)) (chk : rowsB nm rows = true) : ∀ (m : Nat),
    (∀ (f : Nat) (r : Row), rows[f]? = some r → nm.hots.contains f = false → ∀ (a : Addr) (fd : FuncData), mg r.name = some (.ref a) → Fun K r.name r.name r.st a fd → FnOk P w K mg base (L2N.CX P w) (2 * m + lev) a fd r.ps (spF K mg (xr0 T) (callF u gc (rows.map (·.fn)) m f))) ∧
    ∀ (f : Nat) (r : Row), rows[f]? = some r → nm.hots.contains f = true → ∀ (a : Addr) (fd : FuncData), mg r.name = some (.ref a) → Fun K r.name r.name r.st a fd → FnE P w K mg base (L2N.CX P w) (2 * m + lev) a fd r.ps (fun p => spF K mg (xrOf T mg p) (callF u gc (rows.map (·.fn)) m f))
  | 0 => ⟨fun f r hr _ a fd hmg h3 => ⟨fun vs H Q E ⟨F, as, _, _, _, _, _, z⟩ => z.elim, fun A outer s H args us vs Q E _ _ _ _ ⟨F, as, _, _, _, _, _, z⟩ => z.elim⟩,
    fun f r hr _ a fd hmg h3 => ⟨fun p vs H Q E ⟨F, as, _, _, _, _, _, z⟩ => z.elim, fun A outer s H args us vs Q E p _ _ _ _ _ _ ⟨F, as, _, _, _, _, _, z⟩ => z.elim⟩⟩
  | m + 1 => by
    obtain ⟨ih, ihh⟩ := fn_ok Fa GT hnm chk m
    have fns : ∀ (f : Nat) (x : Str), nm.fns[f]? = some x → nm.hots.contains f = false → ∃ a fd ps, mg x = some (.ref a) ∧ PySem.W.keepIn K (.ref a) = true ∧ Binds K fd ps [] ∧ FnOk P w K mg base (L2N.CX P w) (2 * m + lev) a fd ps (spF K mg (xr0 T) (callF u gc (rows.map (·.fn)) m f)) := fun f x hx hz => by
      rw [hnm, List.getElem?_map] at hx
      obtain ⟨r, hr, rfl⟩ := Option.map_eq_some_iff.mp hx
      obtain ⟨a, fd, h1, h2, h3, h4⟩ := Fa.defs r (List.mem_of_getElem? hr)
      exact ⟨a, fd, r.ps, h1, h2, binds_of h4, ih f r hr hz a fd h1 h3⟩
    have hfn : ∀ (f : Nat) (x : Str), nm.fns[f]? = some x → nm.hots.contains f = true → ∃ a fd ps, mg x = some (.ref a) ∧ PySem.W.keepIn K (.ref a) = true ∧ Binds K fd ps [] ∧ FnE P w K mg base (L2N.CX P w) (2 * m + lev) a fd ps (fun p => spF K mg (xrOf T mg p) (callF u gc (rows.map (·.fn)) m f)) := fun f x hx hz => by
      rw [hnm, List.getElem?_map] at hx
      obtain ⟨r, hr, rfl⟩ := Option.map_eq_some_iff.mp hx
      obtain ⟨a, fd, h1, h2, h3, h4⟩ := Fa.defs r (List.mem_of_getElem? hr)
      exact ⟨a, fd, r.ps, h1, h2, binds_of h4, ihh f r hr hz a fd h1 h3⟩
    have e1 : 2 * (m + 1) + lev = 2 * m + lev + 1 + 1 := by omega
    rw [e1]
    refine ⟨fun f r hr hz a fd hmg h3 => ?_, fun f r hr hz a fd hmg h3 => ?_⟩
    · have hrow := rowsB_at chk hr
      rw [hz] at hrow
      unfold rowB at hrow
      simp only [Bool.and_eq_true, decide_eq_true_eq] at hrow
      obtain ⟨⟨⟨c1, c2⟩, c3⟩, c4⟩ := hrow
      have S := scope_by c1
      have hT : (rows.map (·.fn))[f]? = some r.fn := by rw [List.getElem?_map, hr]; rfl
      obtain ⟨oc, od, kV, doc, pm, an, cdv, ct, osl, rfl, look, code⟩ := h3.ex
      refine fn_of look code S (fun vs H Q E ⟨F, as, dom, ntb, tb, ar, nd, z⟩ => ?_) fun A outer s H vs Q E hroom ⟨F, as, dom, ntb, tb, ar, nd, z⟩ => ?_
      · simp only [callF, hT] at z
        by_cases hl : as.length = r.fn.np
        · rw [ar.length, hl, c2]
        · rw [if_neg hl] at z; exact z.elim
      · simp only [callF, hT] at z
        by_cases hl : as.length = r.fn.np
        · rw [if_pos hl] at z
          have hx : (cxOf (L2N.CX P w) P w K mg base r.N r.name (defScope r.st) a cdv A outer s H E).xe = fun e s' => wpAny (model P w) (A.deeper (envOfC r.name (defScope r.st) s.heap.objs.size a cdv)) (leaving (envOfC r.name (defScope r.st) s.heap.objs.size a cdv) e) (fun _ s'' => L2N.CX P w outer H s E e s'') (fun e' s'' => L2N.CX P w outer H s E e' s'') s' := rfl
          have ok : Ok u gc (callF u gc (rows.map (·.fn)) m) (kxOf nm false (nm.gens.contains f) r) m (cxOf (L2N.CX P w) P w K mg base r.N r.name (defScope r.st) a cdv A outer s H E) (xr0 T) (fun cls d _ H => E cls d H) :=
            { N := rfl
              nd := S.nd
              sc := rfl
              kind := S.kind
              calm := fun _ => rfl
              room := fun _ => hroom.mono (by show 2 * m + lev + (if _ then 1 else 0) ≤ 2 * m + lev + 1; split <;> omega)
              units := by
                have h := hroom.un
                show (A.deeper (envOfC r.name (defScope r.st) s.heap.objs.size a cdv)).units + 65 < cLine
                omega
              tk := L2N.takes_of rfl rfl rfl hx
              own := passes_of hx
              fn := fun _ _ => rfl
              blt := Fa.blt
              rev := Fa.rev
              mb := Fa.mb
              gen := fun z => by
                have z' : nm.gens.contains f = true := by
                  have : (nm.gens.contains f && !false) = true := z
                  simpa using this
                obtain ⟨c', P', k1, k2, k3⟩ := GT f r a hr z' hmg
                exact ⟨c', P', k3, k1 _ _ look rfl, k2⟩
              blts := Fa.blts
              noex := fun _ _ _ => id
              xsh := fun z => nomatch z
              hotp := fun z => nomatch z
              roomH := fun z => nomatch z
              sub := Fa.sub
              cls := Fa.cls
              exc := Fa.exc
              cst := Fa.cst
              fns := fns
              hfn := hfn }
          exact ⟨_, sSs r.fn.body (kxOf nm false (nm.gens.contains f) r) _ (xr0 T) (fun cls d _ H => E cls d H) (defBody r.st) ⟨ok, rfl, rfl⟩ c4, enter r.fn as, F, sr_start c3 dom ntb tb ar nd, body_end ar z⟩
        · rw [if_neg hl] at z; exact z.elim
    · have hrow := rowsB_at chk hr
      rw [hz] at hrow
      unfold rowB at hrow
      simp only [Bool.and_eq_true, decide_eq_true_eq] at hrow
      obtain ⟨⟨⟨c1, c2⟩, c3⟩, c4⟩ := hrow
      have S := scope_by c1
      have hT : (rows.map (·.fn))[f]? = some r.fn := by rw [List.getElem?_map, hr]; rfl
      refine fn_hot h3 S (fun p vs H Q E ⟨F, as, dom, ntb, tb, ar, nd, z⟩ => ?_) fun cdv A outer s H vs Q E p hot hroom ⟨F, as, dom, ntb, tb, ar, nd, z⟩ => ?_
      · simp only [callF, hT] at z
        by_cases hl : as.length = r.fn.np
        · rw [ar.length, hl, c2]
        · rw [if_neg hl] at z; exact z.elim
      · simp only [callF, hT] at z
        by_cases hl : as.length = r.fn.np
        · rw [if_pos hl] at z
          have hx : (L2H.cxH (L2N.CX P w) P w K mg base r.N r.name (defScope r.st) a cdv A outer s H E p).xe = fun e s' => wpAny (model P w) (A.deeper (envOfC r.name (defScope r.st) s.heap.objs.size a cdv)) (leaving (envOfC r.name (defScope r.st) s.heap.objs.size a cdv) e) (fun _ s'' => L2N.CX P w outer H s E e s'') (fun e' s'' => L2N.CX P w outer H s E e' s'') s' := rfl
          have ok : Ok u gc (callF u gc (rows.map (·.fn)) m) (kxOf nm true (nm.gens.contains f) r) m (L2H.cxH (L2N.CX P w) P w K mg base r.N r.name (defScope r.st) a cdv A outer s H E p) (xrOf T mg p) (fun cls d _ H => E cls d H) :=
            { N := rfl
              nd := S.nd
              sc := rfl
              kind := S.kind
              calm := fun z => nomatch z
              room := fun z => nomatch z
              units := by
                have h := hroom.un
                show (A.deeper (envOfC r.name (defScope r.st) s.heap.objs.size a cdv)).units + 65 < cLine
                omega
              tk := L2N.takes_of rfl rfl rfl hx
              own := passes_of hx
              fn := fun _ _ => rfl
              blt := Fa.blt
              rev := Fa.rev
              mb := Fa.mb
              gen := fun z => by
                have : (nm.gens.contains f && !true) = true := z
                simp at this
              blts := Fa.blts
              noex := fun z => nomatch z
              xsh := fun _ => rfl
              hotp := fun _ => ⟨p, ⟨⟨hot.1, hot.2⟩, List.mem_cons_self⟩, fun _ _ q => q⟩
              roomH := fun _ => hroom.mono (Nat.le_succ _)
              sub := Fa.sub
              cls := Fa.cls
              exc := Fa.exc
              cst := Fa.cst
              fns := fns
              hfn := hfn }
          exact ⟨_, sSs r.fn.body (kxOf nm true (nm.gens.contains f) r) _ (xrOf T mg p) (fun cls d _ H => E cls d H) (defBody r.st) ⟨ok, rfl, rfl⟩ c4, enter r.fn as, F, sr_start c3 dom ntb tb ar nd, body_end ar z⟩
        · rw [if_neg hl] at z; exact z.elim
/-! ### facts, looked up in the written part -/
def noneB (K : PySem.W.Frag) (x : Str) : Bool := match PySem.W.nsIn K mainGlobals x with
  | some none => true
  | _ => false
theorem noneB_of {h : Heap} {x : Str} (X : K.In h) (G : h.Ns mainGlobals mg) (e : noneB K x = true) : mg x = none := by
  unfold noneB at e
  split at e
  · exact PySem.W.mg_none_of X G (by assumption)
  · cases e
def adr (K : PySem.W.Frag) (x : Str) : Option Addr := match PySem.W.nsIn K mainGlobals x with
  | some (some (.ref C)) => some C
  | _ => none
theorem adr_of {h : Heap} {x : Str} {C : Addr} (X : K.In h) (G : h.Ns mainGlobals mg) (e : adr K x = some C) : mg x = some (.ref C) := by
  unfold adr at e
  split at e
  · cases e; exact PySem.W.mg_of X G (by assumption)
  · cases e
/-- a function of math -/
def mbB (K : PySem.W.Frag) (x : Str) : Bool := match mbId x, PySem.W.nsIn K mainGlobals x with
  | some id, some (some (.builtin i)) => i == id
  | _, _ => false
theorem mbB_of {h : Heap} {x : Str} {id : String} (X : K.In h) (G : h.Ns mainGlobals mg) (e : mbB K x = true) (hi : mbId x = some id) : mg x = some (.builtin id) := by
  unfold mbB at e
  rw [hi] at e
  split at e
  · rename_i i' i q1 q2
    cases q1
    have := beq_iff_eq.mp e
    subst this
    exact PySem.W.mg_of X G q2
  · cases e
def bltB (K : PySem.W.Frag) : Bool := ((["len", "abs", "int", "min", "max", "sum", "list", "tuple", "sorted", "divmod", "range", "isinstance", "bool", "str"] : List Str) ++ moreL).all (noneB K)
theorem bltB_of {h : Heap} (X : K.In h) (G : h.Ns mainGlobals mg) (e : bltB K = true) : (∀ b, mg (biN b) = none) ∧ (∀ x ∈ moreL, mg x = none) ∧ mg "range" = none ∧ mg "isinstance" = none ∧ ∀ t, mg (tyS t) = none := by
  have k : ∀ x ∈ ((["len", "abs", "int", "min", "max", "sum", "list", "tuple", "sorted", "divmod", "range", "isinstance", "bool", "str"] : List Str) ++ moreL), mg x = none := fun x hx => noneB_of X G (List.all_eq_true.mp e x hx)
  refine ⟨fun b => ?_, fun x hx => k x (List.mem_append_right _ hx), k _ (by simp), k _ (by simp), fun t => ?_⟩
  · cases b <;> exact k _ (by simp [biN])
  · cases t <;> exact k _ (by simp [tyS, tyN])
/-- the exception classes: each name, and what they are below -/
def subT (tab : List (Str × Str × Bool)) : Sub := fun y x => (tab.find? fun p => p.1 == y && p.2.1 == x).map (·.2.2)
theorem subT_of {tab : List (Str × Str × Bool)} {y x : Str} {b : Bool} (h : subT tab y x = some b) : (y, x, b) ∈ tab := by
  unfold subT at h
  obtain ⟨p, h1, rfl⟩ := Option.map_eq_some_iff.mp h
  have h2 := List.find?_some h1
  simp only [Bool.and_eq_true, beq_iff_eq] at h2
  obtain ⟨rfl, rfl⟩ := h2
  exact List.mem_of_find?_eq_some h1
/-! ### the law -/
def spLaw (K : PySem.W.Frag) (T : List Addr) : Sp := fun vs H Q _ => ∃ (a : Addr) (ns : List Int), vs = [.ref a] ∧ ns.length ≤ 63 ∧ (∀ b ∈ T, GxR.TabG H b) ∧ SqL K H a (ns.map V.int) ∧ ∀ H', Q (.bl true) H'
theorem rp_ints {H : Hp} {F : Addr → Prop} : ∀ (ns : List Int), RpA K H F (ns.map V.int) (ns.map PyData.int)
  | [] => .nil
  | n :: ns => .cons (.int n) (rp_ints ns)
theorem law_fn {m f n : Nat} {a : Addr} {fd : FuncData} {ps : List Str} (G : FnOk P w K mg base (L2N.CX P w) n a fd ps (spF K mg (xr0 T) (callF u gc (rows.map (·.fn)) m f)))
    (law : ∀ ns : List Int, ns.length ≤ 63 → callF u gc (rows.map (·.fn)) m f [.av (.list (ns.map .int))] = some (.ok (.bool true) [])) : FnOk P w K mg base (L2N.CX P w) n a fd ps (spLaw K T) := by
  refine G.imp fun vs H Q E ⟨a, ns, e, hl, ht, hs, q⟩ => ?_
  subst e
  have fin : ∀ F : Addr → Prop, (∀ b, F b → H b ≠ none) → (∀ b, F b → NT H b) → Rp K H F (.ref a) (.list (ns.map .int)) → spF K mg (xr0 T) (callF u gc (rows.map (·.fn)) m f) [.ref a] H Q E := fun F dom nt r => by
    refine ⟨F, [.av (.list (ns.map .int))], dom, nt, ht, .av r .nil, by simp [lent], ?_⟩
    rw [law ns hl]
    exact fun v H' F' _ _ r' => by cases r'; exact q H'
  rcases hs with hs | hs
  · refine fin (fun b => b = a) (fun b e z => ?_) (fun b e ps z => ?_) (.lst hs rfl (rp_ints ns))
    · subst e
      rcases hs with h | ⟨o, h⟩ <;> (rw [h] at z; cases z)
    · subst e
      rcases hs with h | ⟨o, h⟩ <;> (rw [h] at z; cases z)
  · exact fin (fun _ => False) (fun _ z => z.elim) (fun _ z => z.elim) (.lstK hs (rp_ints ns))
end
end RX

end
section
set_option Elab.async false
set_option linter.all false
set_option maxRecDepth 100000
set_option maxHeartbeats 4000000
set_option autoImplicit false
namespace RX
open PySem PySem.Spec PyProof.Rows L2
section
variable {K : PySem.W.Frag} {mg : Str → Option Value} {h : Heap} {u : Sub} {gc : List D} {rows : List Row} {nm : Names}
def excCB (K : PySem.W.Frag) (C : Addr) : Bool :=
  (PySem.W.findIn K (.ref C) "__getattribute__" == some (some (.builtin "BaseException.__getattribute__"))) && (PySem.W.findIn K (.ref C) "__getattr__" == some none) && (PySem.W.subIn K (.ref C) (.type "BaseException") == some true) && PySem.W.hasDictIn K C &&
    (PySem.W.findIn K (.ref C) "__class__" == some (some (.builtin "object.__class__"))) && (PySem.W.specialIn K (.builtin "object.__class__") "__get__" == some (some (.builtin "getset_descriptor.__get__"))) &&
    (PySem.W.takesIn K (.builtin "object.__class__") == some true) && (PySem.W.mroIn K C (.type "object") == some true)
theorem excCB_of {C : Addr} (e : excCB K C = true) : ExcC K C := by
  unfold excCB at e
  simp only [Bool.and_eq_true, beq_iff_eq] at e
  obtain ⟨⟨⟨⟨⟨⟨⟨e1, e2⟩, e3⟩, e4⟩, e5⟩, e6⟩, e7⟩, e8⟩ := e
  exact ⟨e1, e2, e3, e4, e5, e6, e7, e8⟩
/-- a class that the defs raise -/
def raiB (K : PySem.W.Frag) (x : Str) : Bool := match adr K x with
  | some C => PySem.W.excIn K C [.type "ValueError", .type "Exception", .type "BaseException", .type "object"] "ValueError.__new__" && PySem.W.keepIn K (.ref C) && (PySem.W.subIn K (.ref C) (.type "BaseException") == some true) && (PySem.W.typeIn K (.ref C) == some (.type "type"))
  | none => false
/-- a row of the table of classes -/
def subB (K : PySem.W.Frag) (t : Str × Str × Bool) : Bool := match adr K t.1, adr K t.2.1 with
  | some C, some C' => (PySem.W.exmOne K (.ref C) (.ref C') == some t.2.2) && (PySem.W.kitOne K (.ref C) (.ref C') == some t.2.2) && excCB K C
  | _, _ => false
def clsB (K : PySem.W.Frag) (x : Str) : Bool := (adr K x).isSome
mutual
/-- a value of the written part, and what it is -/
def valB (K : PySem.W.Frag) : Value → D → Bool
  | .none, .none => true
  | .int i _, .int j => i == j
  | .bool a, .bool b => a == b
  | .str s _, .str t => s == t && PyData.strOk s
  | .ref a, .tuple ds => match K.lookup a with
    | some o => (o.cls == .type "tuple" && o.dict.isNone) && (match o.data with
      | .seq its _ => decide (its.size ≤ 1000) && valsB K its.toList ds
      | _ => false)
    | none => false
  | _, _ => false
def valsB (K : PySem.W.Frag) : List Value → List D → Bool
  | [], [] => true
  | u :: us, d :: ds => valB K u d && valsB K us ds
  | _, _ => false
end
mutual
theorem valB_of : ∀ (u : Value) (d : D), valB K u d = true → ∃ v, RelV v u ∧ ∀ H F, Rp K H F v d
  | u, .none, e => by
    unfold valB at e
    split at e <;> first | cases e | skip
    all_goals first | exact ⟨.non, rfl, fun _ _ => .non⟩ | (rename_i q; cases q)
  | u, .int j, e => by
    unfold valB at e
    split at e
    all_goals first | (rename_i q; cases q; done) | skip
    · rename_i i t j' q
      cases q
      have := beq_iff_eq.mp e
      subst this
      exact ⟨.int i, ⟨_, rfl⟩, fun _ _ => .int i⟩
    · cases e
  | u, .bool b, e => by
    unfold valB at e
    split at e
    all_goals first | (rename_i q; cases q; done) | skip
    · rename_i a b' q
      cases q
      have := beq_iff_eq.mp e
      subst this
      exact ⟨.bl a, rfl, fun _ _ => .bl a⟩
    · cases e
  | u, .str t, e => by
    unfold valB at e
    split at e
    all_goals first | (rename_i q; cases q; done) | skip
    · rename_i s tk t' q
      cases q
      simp only [Bool.and_eq_true, beq_iff_eq] at e
      obtain ⟨rfl, e⟩ := e
      exact ⟨.str s, ⟨_, rfl⟩, fun _ _ => .str s e⟩
    · cases e
  | u, .tuple ds, e => by
    cases u with
    | ref a =>
      simp only [valB] at e
      cases ho : K.lookup a with
      | none => rw [ho] at e; cases e
      | some o =>
        rw [ho] at e
        simp only [Bool.and_eq_true, beq_iff_eq] at e
        obtain ⟨⟨e1, e0⟩, e2⟩ := e
        have e0' : o.dict = none := Option.isNone_iff_eq_none.mp e0
        split at e2
        · rename_i its n hd
          simp only [Bool.and_eq_true, decide_eq_true_eq] at e2
          obtain ⟨vs, h1, h2⟩ := valsB_of its.toList ds e2.2
          refine ⟨.ref a, rfl, fun H F => .tupK ⟨o, its, n, ho, e1, e0', hd, ?_, h1⟩ (h2 H F)⟩
          rw [sizeLine_eq]; omega
        · cases e2
    | _ => simp [valB] at e
  | u, .list ds, e => by cases u <;> simp [valB] at e
  | u, .dict ds, e => by cases u <;> simp [valB] at e
theorem valsB_of : ∀ (us : List Value) (ds : List D), valsB K us ds = true → ∃ vs, Vals vs us ∧ ∀ H F, RpA K H F vs ds
  | [], [], _ => ⟨[], .nil, fun _ _ => .nil⟩
  | u :: us, d :: ds, e => by
    simp only [valsB, Bool.and_eq_true] at e
    obtain ⟨v, h1, h2⟩ := valB_of u d e.1
    obtain ⟨vs, h3, h4⟩ := valsB_of us ds e.2
    exact ⟨v :: vs, .cons h1 h3, fun H F => .cons (h2 H F) (h4 H F)⟩
  | [], d :: ds, e => by simp [valsB] at e
  | u :: us, [], e => by simp [valsB] at e
end
/-- a constant of the module -/
def cstB (K : PySem.W.Frag) (p : Str × D) : Bool := match PySem.W.nsIn K mainGlobals p.1 with
  | some (some u) => valB K u p.2
  | _ => false
theorem cstB_of {x : Str} {d : D} (X : K.In h) (G : h.Ns mainGlobals mg) (e : cstB K (x, d) = true) : ∃ v u, mg x = some u ∧ RelV v u ∧ ∀ H F, Rp K H F v d := by
  unfold cstB at e
  split at e
  · rename_i u e1
    obtain ⟨v, h1, h2⟩ := valB_of u d e
    exact ⟨v, u, PySem.W.mg_of X G e1, h1, h2⟩
  · cases e
def allB (K : PySem.W.Frag) (tab : List (Str × Str × Bool)) (nm : Names) (gc : List D) : Bool := bltB K && tab.all (subB K) && nm.cls.all (clsB K) && nm.excs.all (raiB K) && (nm.csts.zip gc).all (cstB K) && nm.mb.all (mbB K)
/-- a def, as the written part has it -/
structure DefOk (K : PySem.W.Frag) (mg : Str → Option Value) (r : Row) : Prop where
  ok : ∃ f fd, mg r.name = some (.ref f) ∧ PySem.W.keepIn K (.ref f) = true ∧ Fun K r.name r.name r.st f fd ∧ ∀ (s : Shared) (us : List Value), us.length = r.ps.length → BindsTo s fd ⟨us, []⟩ (r.ps.zip us)
theorem def_mk {r : Row} {f : Addr} {oc : Value} {od an : Option Addr} {osl : Array (Option Value)} {kV doc pm cdv ct : Value} (X : K.In h) (G : h.Ns mainGlobals mg) (a : PySem.W.nsIn K mainGlobals r.name = some (some (.ref f)))
    (l : K.lookup f = some ⟨oc, od, .func (PySem.W.fnOf r.name r.name (defArgs r.st) (defBody r.st) (defScope r.st) .none kV doc pm an cdv ct), osl⟩) (c : PySem.W.codeIn K cdv r.name = true) (k : PySem.W.keepIn K (.ref f) = true)
    (hb : ∀ (kV doc pm : Value) (an : Option Addr) (cdv ct : Value) (us : List Value), us.length = r.ps.length → bindArgs (PySem.W.fnOf r.name r.name (defArgs r.st) (defBody r.st) (defScope r.st) .none kV doc pm an cdv ct) ⟨us, []⟩ = pure (r.ps.zip us)) : DefOk K mg r :=
  ⟨f, _, PySem.W.mg_of X G a, k, fun_mk l c k, fun s us hl => .of_eq (hb _ _ _ _ _ _ us hl)⟩
theorem facts_of {tab : List (Str × Str × Bool)} (X : K.In h) (G : h.Ns mainGlobals mg) (e : allB K tab nm gc = true) (d : ∀ r ∈ rows, DefOk K mg r) : Facts K mg (subT tab) gc rows nm := by
  unfold allB at e
  simp only [Bool.and_eq_true] at e
  obtain ⟨⟨⟨⟨⟨e1, e2⟩, e3⟩, e4⟩, e5⟩, e6⟩ := e
  obtain ⟨b1, b3, b2⟩ := bltB_of X G e1
  have clsOf : ∀ {x C}, adr K x = some C → ClsMg mg x (.ref C) := fun {x C} q => ⟨.ref C, .own C, .inl (adr_of X G q)⟩
  refine ⟨b1, b3, fun x id hx hi => mbB_of X G (List.all_eq_true.mp e6 x hx) hi, b2, fun y x b q => ?_, fun x hx => ?_, fun x hx => ?_, fun j x d q1 q2 => ?_, fun r hr => (d r hr).ok⟩
  · have := List.all_eq_true.mp e2 _ (subT_of q)
    unfold subB at this
    split at this
    · rename_i C C' q1 q2
      simp only [Bool.and_eq_true, beq_iff_eq] at this
      exact ⟨C, .ref C', adr_of X G q1, clsOf q2, this.1.1, this.1.2, excCB_of this.2⟩
    · cases this
  · have := List.all_eq_true.mp e3 x hx
    unfold clsB at this
    obtain ⟨C, q⟩ := Option.isSome_iff_exists.mp this
    exact ⟨.ref C, clsOf q⟩
  · have := List.all_eq_true.mp e4 x hx
    unfold raiB at this
    split at this
    · rename_i C q
      simp only [Bool.and_eq_true, beq_iff_eq] at this
      exact ⟨C, adr_of X G q, this.1.1.1, this.1.1.2, this.1.2, this.2⟩
    · cases this
  · refine cstB_of X G (List.all_eq_true.mp e5 (x, d) ?_)
    refine List.mem_of_getElem? (i := j) ?_
    rw [List.getElem?_zip_eq_some]
    exact ⟨q1, q2⟩
/-- the code objects of the defs that make generator expressions, and their tables -/
def tabsOf (K : PySem.W.Frag) (nm : Names) (rows : List Row) : List (Addr × Addr) := nm.gens.filterMap fun i => (rows[i]?).bind fun r => PySem.W.tabIn K r.name
def genB (K : PySem.W.Frag) (nm : Names) (rows : List Row) : Bool := nm.gens.all fun i => match rows[i]? with
  | some r => (match PySem.W.tabIn K r.name with
    | some cp => (K.lookup cp.2).isNone
    | none => false)
  | none => true
def recB (q : Program) (nm : Names) (rows : List Row) : Bool := nm.gens.all fun i => match rows[i]? with
  | some r => ((recsOf q).find? fun e => e.name == r.name).isSome
  | none => true
theorem tabsOf_mem {K : PySem.W.Frag} {cp : Addr × Addr} (h : cp ∈ tabsOf K nm rows) : ∃ i r, i ∈ nm.gens ∧ rows[i]? = some r ∧ PySem.W.tabIn K r.name = some cp := by
  obtain ⟨i, h1, h2⟩ := List.mem_filterMap.mp h
  obtain ⟨r, h3, h4⟩ := Option.bind_eq_some_iff.mp h2
  exact ⟨i, r, h1, h3, h4⟩
theorem genB_at {K : PySem.W.Frag} (h : genB K nm rows = true) {i : Nat} {r : Row} (hi : i ∈ nm.gens) (hr : rows[i]? = some r) : ∃ cp, PySem.W.tabIn K r.name = some cp ∧ K.lookup cp.2 = none ∧ cp ∈ tabsOf K nm rows := by
  have h1 := List.all_eq_true.mp h i hi
  rw [hr] at h1
  cases ht : PySem.W.tabIn K r.name with
  | none => simp only [ht] at h1; cases h1
  | some cp =>
    simp only [ht] at h1
    exact ⟨cp, rfl, Option.isNone_iff_eq_none.mp h1, List.mem_filterMap.mpr ⟨i, hi, by rw [hr]; exact ht⟩⟩
theorem tabIn_code {K : PySem.W.Frag} {base : Heap} {mg : Str → Option Value} {x : Str} {a c P : Addr} (X : K.In base) (G : base.Ns mainGlobals mg) (ht : PySem.W.tabIn K x = some (c, P)) (hm : mg x = some (.ref a)) {o : Obj} {fd : FuncData} (ho : K.lookup a = some o) (hf : o.data = .func fd) : fd.code = .ref c := by
  unfold PySem.W.tabIn at ht
  split at ht
  · rename_i f e1
    have e2 := PySem.W.mg_of X G e1
    rw [hm] at e2
    cases e2
    rw [ho] at ht
    obtain ⟨oc, od, odat, osl⟩ := o
    cases hf
    simp only at ht
    split at ht
    · rename_i c' e3
      split at ht
      · split at ht
        · cases ht; exact e3
        · cases ht
      · cases ht
    · cases ht
  · cases ht
end
/-- the end: a law over the defs rows, its own the i-th, by plain Lean -/
theorem law_end {l : PySem.W.OpenLaw} {q : Program} {loose : List Str} {XP : (Str → Option Value) → Heap → Prop} {YP : World → Heap → Prop} {d : DefRec} {Kf : Params → PySem.W.Frag} {u : Sub} {gc : List D} {rows : List Row} {nm : Names} {r : Row} (m i : Nat)
    (hn : l.most = some 63) (hdf : d.params.defaults = []) (hr : Room (2 * m + lev) callerA) (hY : ∀ (w : World) (h : Heap), YP w h → (Kf w.params).In h)
    (hnm : nm.fns = rows.map (·.name)) (chk : rowsB nm rows = true) (cold : nm.hots.contains i = false) (hi : rows[i]? = some r) (hd : r.name = d.name) (hp : r.ps = [("script" : Str)]) (hrec : recB q nm rows = true)
    (law : ∀ ns : List Int, ns.length ≤ 63 → callF u gc (rows.map (·.fn)) m i [.av (.list (ns.map .int))] = some (.ok (.bool true) []))
    (F : ∀ (w : World) (mg : Str → Option Value) (h : Heap), (Kf w.params).In h → h.Ns mainGlobals mg → Facts (Kf w.params) mg u gc rows nm ∧ genB (Kf w.params) nm rows = true) :
    PySem.W.WalkO q loose XP YP l.row.toRowW d [] (fun f vs => PySem.call f vs) := by
  refine Att.attach_callB hn hdf fun w s0 s1 mg mb fa ob pm cd doc a vs ns Gr Y _ _ _ hmg hobj hints hlen _ hgens => ?_
  have KX := hY w _ Y
  obtain ⟨Fa, hG⟩ := F w mg _ KX Gr.T.g
  obtain ⟨f, fd, h1, h2, h3, h4⟩ := Fa.defs r (List.mem_of_getElem? hi)
  have h1' : mg r.name = some (.ref fa) := by rw [hd]; exact hmg
  have hfa : f = fa := by rw [h1] at h1'; cases h1'; rfl
  subst hfa
  have tabs : ∀ cp ∈ tabsOf (Kf w.params) nm rows, (PySem.W.CodeHd s1.heap cp.1 cp.2 ∧ s1.heap.get? cp.2 = some (PySem.W.tabObj #[])) ∧ (Kf w.params).lookup cp.2 = none := fun cp hcp => by
    obtain ⟨j, rj, k1, k2, k3⟩ := tabsOf_mem hcp
    have k4 := List.all_eq_true.mp hrec j k1
    rw [k2] at k4
    obtain ⟨dj, k5⟩ := Option.isSome_iff_exists.mp k4
    obtain ⟨cp', k6, k7, _⟩ := genB_at hG k1 k2
    rw [k3] at k6
    cases k6
    exact ⟨PySem.W.tab_of (c := cp.1) (P := cp.2) Gr.T KX k5 k3, k7⟩
  refine LamX.law_callTs (k := 2 * m + lev) (x := "script") (sp := spLaw (Kf w.params) ((tabsOf (Kf w.params) nm rows).map (·.2))) (cs := tabsOf (Kf w.params) nm rows) (fd := fd) (CX := L2N.CX l.prog w) KX Gr.T.g Gr.T.b Gr.T.builtins Gr.T.nolimit hgens
    (fun cp hcp => (tabs cp hcp).1.2) (fun cp hcp => (tabs cp hcp).2) (fun cp hcp => (tabs cp hcp).1.1) Gr.T.bmain hobj hints (Nat.le_trans hlen (by decide)) hr (fun base KB GB hTB => ?_) (fun s us => ?_) (fun H hH hS => ?_) fun H e s' z => ?_
  · have GT : GenT (Kf w.params) mg base rows nm ((tabsOf (Kf w.params) nm rows).map (·.2)) := fun j rj aj k1 k2 k3 => by
      obtain ⟨cp, k4, _, k5⟩ := genB_at hG (List.contains_iff_mem.mp k2) k1
      have tb := hTB cp k5
      exact ⟨cp.1, cp.2, fun oj fdj e1 e2 => tabIn_code KB GB k4 k3 e1 e2, List.mem_map.mpr ⟨cp, k5, rfl⟩, ⟨tb.code, tb.bm, tb.gP⟩⟩
    have := law_fn ((fn_ok (P := l.prog) (w := w) (base := base) (T := (tabsOf (Kf w.params) nm rows).map (·.2)) Fa GT hnm chk m).1 i r hi cold f fd h1 h3) law
    rw [hp] at this
    exact this
  · have := h4 s [us] (by rw [hp]; rfl)
    rw [hp] at this
    exact this
  · refine ⟨a, ns, rfl, hlen, fun b hb => ?_, hS, fun _ => rfl⟩
    obtain ⟨cp, k1, rfl⟩ := List.mem_map.mp hb
    exact ⟨#[], hH cp k1, trivial⟩
  · obtain ⟨_, _, _, _, _, _, _, _, _, _, _, _, z⟩ := z
    exact z
end RX

end
section
set_option Elab.async false
set_option linter.all false
set_option maxRecDepth 100000
set_option maxHeartbeats 4000000
set_option autoImplicit false
/-! plain tools about the evaluator -/
namespace RX
open PySem
section
variable {u : Sub} {gc : List D} {c : CF} {ρ ρ1 ρ2 : Env}
/-! ### one step each -/
theorem E_v (i : Nat) : evE u gc c (.v i) ρ = match ρ[i]? with
    | some (.sh d) => some (.ok (.val d) ρ)
    | some (.ol _ _) => some (.ok (.own i) ρ)
    | some (.od _ _) => some (.ok (.own i) ρ)
    | _ => none := by first | (simp only [evE]; done) | (simp only [evE]; rfl)
theorem E_gi (j : Nat) : evE u gc c (.gi j) ρ = (gc[j]?).map fun d => .ok (.val d) ρ := by first | (simp only [evE]; done) | (simp only [evE]; rfl)
theorem E_k (d : D) : evE u gc c (.k d) ρ = some (.ok (.val d) ρ) := by first | (simp only [evE]; done) | (simp only [evE]; rfl)
theorem E_bin (o : Operator) (a b : E) : evE u gc c (.bin o a b) ρ = bnd (evE u gc c a ρ) fun x ρ => bnd (evE u gc c b ρ) fun y ρ =>
      (x.rd ρ).bind fun x => (y.rd ρ).bind fun y => (binD o x y).map fun z => .ok z ρ := by first | (simp only [evE]; done) | (simp only [evE]; rfl)
theorem E_neg (a : E) : evE u gc c (.neg a) ρ = bnd (evE u gc c a ρ) fun x ρ => match x.rd ρ with
    | some (.int i) => some (.ok (.val (.int (-i))) ρ)
    | _ => none := by first | (simp only [evE]; done) | (simp only [evE]; rfl)
theorem E_cmp (o : CmpOp) (a b : E) : evE u gc c (.cmp o a b) ρ = bnd (evE u gc c a ρ) fun x ρ => bnd (evE u gc c b ρ) fun y ρ =>
      (x.rd ρ).bind fun x => (y.rd ρ).bind fun y => (cmpD o x y).map fun z => .ok (.val (.bool z)) ρ := by first | (simp only [evE]; done) | (simp only [evE]; rfl)
theorem E_ch (o o' : CmpOp) (a b d : E) : evE u gc c (.ch o o' a b d) ρ = bnd (evE u gc c a ρ) fun x ρ => bnd (evE u gc c b ρ) fun y ρ =>
      (x.rd ρ).bind fun x => (y.rd ρ).bind fun y' => (cmpD o x y').bind fun z => match z with
        | false => some (.ok (.val (.bool false)) ρ)
        | true => bnd (evE u gc c d ρ) fun w ρ => (y.rd ρ).bind fun y => (w.rd ρ).bind fun w => (cmpD o' y w).map fun z => .ok (.val (.bool z)) ρ := by first | (simp only [evE]; done) | (simp only [evE]; rfl)
theorem E_no (a : E) : evE u gc c (.no a) ρ = bnd (tstO (evE u gc c a ρ)) fun b ρ => some (.ok (.val (.bool (!b))) ρ) := by first | (simp only [evE]; done) | (simp only [evE]; rfl)
theorem E_an (a b : E) : evE u gc c (.an a b) ρ = bnd (evE u gc c a ρ) fun x ρ => match x with
    | .val (.bool true) => evE u gc c b ρ
    | .val (.bool false) => some (.ok (.val (.bool false)) ρ)
    | _ => none := by first | (simp only [evE]; done) | (simp only [evE]; rfl)
theorem E_orr (a b : E) : evE u gc c (.orr a b) ρ = bnd (evE u gc c a ρ) fun x ρ => match x with
    | .val (.bool true) => some (.ok (.val (.bool true)) ρ)
    | .val (.bool false) => evE u gc c b ρ
    | _ => none := by first | (simp only [evE]; done) | (simp only [evE]; rfl)
theorem E_ife (d a b : E) : evE u gc c (.ife d a b) ρ = bnd (tstO (evE u gc c d ρ)) fun t ρ => match t with
    | true => evE u gc c a ρ
    | false => evE u gc c b ρ := by first | (simp only [evE]; done) | (simp only [evE]; rfl)
theorem E_tup (es : Es) : evE u gc c (.tup es) ρ = bnd (evEs u gc c es ρ) fun ds ρ => if ds.length ≤ line then some (.ok (.val (.tuple ds)) ρ) else none := by first | (simp only [evE]; done) | (simp only [evE]; rfl)
theorem E_lst (es : Es) : evE u gc c (.lst es) ρ = bnd (evEs u gc c es ρ) fun ds ρ => if ds.length ≤ line then some (.ok (.new ds) ρ) else none := by first | (simp only [evE]; done) | (simp only [evE]; rfl)
theorem E_ix (a i : E) : evE u gc c (.ix a i) ρ = bnd (evE u gc c a ρ) fun x ρ => bnd (evE u gc c i ρ) fun y ρ =>
      (x.rd ρ).bind fun x => (y.rd ρ).bind fun y => (ixD x y).map fun z => .ok (.val z) ρ := by first | (simp only [evE]; done) | (simp only [evE]; rfl)
theorem E_sl (a : E) (lo hi : P) : evE u gc c (.sl a lo hi) ρ = bnd (evE u gc c a ρ) fun x ρ => bnd (evP u gc c lo ρ) fun l ρ => bnd (evP u gc c hi ρ) fun h ρ =>
      (x.rd ρ).bind fun x => (slD x l h).map fun z => .ok z ρ := by first | (simp only [evE]; done) | (simp only [evE]; rfl)
theorem E_call (f : Nat) (as : As) : evE u gc c (.call f as) ρ = bnd (evAs u gc c as ρ) fun xs ρ => doCall c f xs ρ := by first | (simp only [evE]; done) | (simp only [evE]; rfl)
theorem E_b1 (b : BI) (a : E) : evE u gc c (.b1 b a) ρ = bnd (evE u gc c a ρ) fun x ρ => (x.rd ρ).bind fun x => (biD b [x]).map fun z => .ok z ρ := by first | (simp only [evE]; done) | (simp only [evE]; rfl)
theorem E_b2 (b : BI) (a d : E) : evE u gc c (.b2 b a d) ρ = bnd (evE u gc c a ρ) fun x ρ => bnd (evE u gc c d ρ) fun y ρ => (x.rd ρ).bind fun x => (y.rd ρ).bind fun y => (biD b [x, y]).map fun z => .ok z ρ := by first | (simp only [evE]; done) | (simp only [evE]; rfl)
theorem E_isi (a : E) (t : Ty) : evE u gc c (.isi a t) ρ = bnd (evE u gc c a ρ) fun x ρ => (x.rd ρ).bind fun x => (isD t x).map fun b => .ok (.val (.bool b)) ρ := by first | (simp only [evE]; done) | (simp only [evE]; rfl)
theorem E_isx (i : Nat) (x : Str) : evE u gc c (.isx i x) ρ = match ρ[i]? with
    | some (.ex y) => (u y x).map fun b => .ok (.val (.bool b)) ρ
    | _ => none := by first | (simp only [evE]; done) | (simp only [evE]; rfl)
theorem E_lrev (a : E) : evE u gc c (.lrev a) ρ = bnd (evE u gc c a ρ) fun x ρ => match x.rd ρ with
    | some (.list xs) => some (.ok (.new xs.reverse) ρ)
    | _ => none := by first | (simp only [evE]; done) | (simp only [evE]; rfl)
theorem E_rv (a : E) : evE u gc c (.rv a) ρ = bnd (evE u gc c a ρ) fun x ρ => match x.rd ρ with
    | some (.list xs) => some (.ok (.new xs.reverse) ρ)
    | some (.tuple xs) => some (.ok (.val (.tuple xs.reverse)) ρ)
    | _ => none := by first | (simp only [evE]; done) | (simp only [evE]; rfl)
theorem E_lr1 (a : E) : evE u gc c (.lr1 a) ρ = bnd (evE u gc c a ρ) fun x ρ => match x with
    | .val (.int j) => if okR j && decide (j.toNat ≤ line) then some (.ok (.new (rngL 0 1 j.toNat)) ρ) else none
    | _ => none := by first | (simp only [evE]; done) | (simp only [evE]; rfl)
theorem E_lr2 (a b : E) : evE u gc c (.lr2 a b) ρ = bnd (evE u gc c a ρ) fun x ρ => bnd (evE u gc c b ρ) fun y ρ => match x, y with
    | .val (.int i), .val (.int j) => if (okR i && okR j) && decide ((j - i).toNat ≤ line) then some (.ok (.new (rngL i 1 (j - i).toNat)) ρ) else none
    | _, _ => none := by first | (simp only [evE]; done) | (simp only [evE]; rfl)
theorem E_lr3 (a b d : E) : evE u gc c (.lr3 a b d) ρ = bnd (evE u gc c a ρ) fun x ρ => bnd (evE u gc c b ρ) fun y ρ => bnd (evE u gc c d ρ) fun z ρ => match x, y, z with
    | .val (.int i), .val (.int j), .val (.int s) => if (okR i && okR j && (decide (0 < s) && decide (s ≤ 1000000) || s == -1)) && decide (rngN i j s ≤ line) then some (.ok (.new (rngL i s (rngN i j s))) ρ) else none
    | _, _, _ => none := by first | (simp only [evE]; done) | (simp only [evE]; rfl)
theorem E_gcd (a b : E) : evE u gc c (.gcd a b) ρ = bnd (evE u gc c a ρ) fun x ρ => bnd (evE u gc c b ρ) fun y ρ => (x.rd ρ).bind fun x => (y.rd ρ).bind fun y => (gcdD [x, y]).map fun z => .ok z ρ := by first | (simp only [evE]; done) | (simp only [evE]; rfl)
theorem E_isq (a : E) : evE u gc c (.isq a) ρ = bnd (evE u gc c a ρ) fun x ρ => (x.rd ρ).bind fun x => (isqD [x]).map fun z => .ok z ρ := by first | (simp only [evE]; done) | (simp only [evE]; rfl)
theorem E_cnt (a b : E) : evE u gc c (.cnt a b) ρ = bnd (evE u gc c a ρ) fun x ρ => match x.rd ρ with
    | some (.list _) => bnd (evE u gc c b ρ) fun y ρ => (x.rd ρ).bind fun x => (y.rd ρ).bind fun y => match x with
      | .list xs => if flat deep y && flatAll deep xs then some (.ok (.val (.int ((xs.countP fun z => PyData.eqv z y : Nat) : Int))) ρ) else none
      | _ => none
    | _ => none := by first | (simp only [evE]; done) | (simp only [evE]; rfl)
theorem E_ldc (a : E) : evE u gc c (.ldc a) ρ = bnd (evE u gc c a ρ) fun x ρ => match x.rd ρ with
    | some (.list xs) => (pairsK xs).map fun ks => .ok (.val (.int (((dedL [] ks).length : Nat) : Int))) ρ
    | _ => none := by first | (simp only [evE]; done) | (simp only [evE]; rfl)
theorem E_ch3 (o o' o2 : CmpOp) (a b d e : E) : evE u gc c (.ch3 o o' o2 a b d e) ρ = bnd (evE u gc c a ρ) fun x ρ => bnd (evE u gc c b ρ) fun y ρ =>
      (x.rd ρ).bind fun x => (y.rd ρ).bind fun y' => (cmpD o x y').bind fun z => match z with
        | false => some (.ok (.val (.bool false)) ρ)
        | true => bnd (evE u gc c d ρ) fun w ρ => (y.rd ρ).bind fun y => (w.rd ρ).bind fun w' => (cmpD o' y w').bind fun z => match z with
          | false => some (.ok (.val (.bool false)) ρ)
          | true => bnd (evE u gc c e ρ) fun v ρ => (w.rd ρ).bind fun w => (v.rd ρ).bind fun v => (cmpD o2 w v).map fun z => .ok (.val (.bool z)) ρ := by first | (simp only [evE]; done) | (simp only [evE]; rfl)
theorem E_cntT (a b : E) : evE u gc c (.cntT a b) ρ = bnd (evE u gc c a ρ) fun x ρ => match x with
    | .val (.tuple xs) => bnd (evE u gc c b ρ) fun y ρ => (y.rd ρ).bind fun y => if flat deep y && flatAll deep xs then some (.ok (.val (.int ((xs.countP fun z => PyData.eqv z y : Nat) : Int))) ρ) else none
    | _ => none := by first | (simp only [evE]; done) | (simp only [evE]; rfl)
theorem E_idxT (a b : E) : evE u gc c (.idxT a b) ρ = bnd (evE u gc c a ρ) fun x ρ => match x with
    | .val (.tuple xs) => bnd (evE u gc c b ρ) fun y ρ => match intsOf xs, y with
      | some ns, .val (.int i) => if i ∈ ns then some (.ok (.val (.int ((ns.idxOf i : Nat) : Int))) ρ) else none
      | _, _ => none
    | _ => none := by first | (simp only [evE]; done) | (simp only [evE]; rfl)
theorem E_idx (a b : E) : evE u gc c (.idx a b) ρ = bnd (evE u gc c a ρ) fun x ρ => match x.rd ρ with
    | some (.list _) => bnd (evE u gc c b ρ) fun y ρ => (x.rd ρ).bind fun x => (y.rd ρ).bind fun y => match x with
      | .list xs => if flat deep y && flatAll deep xs then (idxL y xs).map fun (j : Nat) => .ok (.val (.int (j : Int))) ρ else none
      | _ => none
    | _ => none := by first | (simp only [evE]; done) | (simp only [evE]; rfl)
theorem E_app (i : Nat) (a : E) : evE u gc c (.app i a) ρ = match ρ[i]? with
    | some (.ol _ _) => bnd (evE u gc c a ρ) fun x ρ => bnd (frz x ρ) fun d ρ => match ρ[i]? with
      | some (.ol b xs) => if xs.length < line then some (.ok (.val .none) (ρ.set i (.ol b (xs ++ [d])))) else none
      | _ => none
    | _ => none := by first | (simp only [evE]; done) | (simp only [evE]; rfl)
theorem E_pop (i : Nat) : evE u gc c (.pop i) ρ = match ρ[i]? with
    | some (.ol b xs) => (xs.getLast?).map fun d => .ok (.val d) (ρ.set i (.ol b xs.dropLast))
    | _ => none := by first | (simp only [evE]; done) | (simp only [evE]; rfl)
theorem S_asg (i : Nat) (e : E) : exS u gc c (.asg i e) ρ = bnS (evE u gc c e ρ) fun x ρ => bnS (frz x ρ) fun d ρ => (setSlot i (.sh d) ρ).map .nx := by first | (simp only [exS]; done) | (simp only [exS]; rfl)
theorem S_asgO (i : Nat) (e : E) : exS u gc c (.asgO i e) ρ = bnS (evE u gc c e ρ) fun x ρ => match x with
    | .new xs => (setSlot i (.ol false xs) ρ).map .nx
    | _ => none := by first | (simp only [exS]; done) | (simp only [exS]; rfl)
theorem S_asgG (g : G) (e : E) : exS u gc c (.asgG g e) ρ = bnS (evE u gc c e ρ) fun x ρ => bnS (frz x ρ) fun d ρ => (asgG g d ρ).map .nx := by first | (simp only [exS]; done) | (simp only [exS]; rfl)
theorem S_par (gs : Gs) (es : Es) : exS u gc c (.par gs es) ρ = bnS (evEs u gc c es ρ) fun ds ρ => (asgGs gs ds ρ).map .nx := by first | (simp only [exS]; done) | (simp only [exS]; rfl)
theorem S_parO (ts : List (Nat × Bool)) (es : Es) : exS u gc c (.parO ts es) ρ = bnS (evOs u gc c ts es ρ) fun zs ρ => (setOs ts zs ρ).map .nx := by first | (simp only [exS]; done) | (simp only [exS]; rfl)
theorem S_st (a : Nat) (i e : E) : exS u gc c (.st a i e) ρ = bnS (evE u gc c e ρ) fun x ρ => bnS (frz x ρ) fun d ρ => match ρ[a]? with
    | some (.ol _ _) => bnS (evE u gc c i ρ) fun y ρ => match ρ[a]?, y.rd ρ with
      | some (.ol b xs), some (.int k) => (ixOf xs.length k).map fun j => .nx (ρ.set a (.ol b (xs.set j d)))
      | _, _ => none
    | _ => none := by first | (simp only [exS]; done) | (simp only [exS]; rfl)
theorem S_aug (i : Nat) (o : Operator) (e : E) : exS u gc c (.aug i o e) ρ = match ρ[i]? with
    | some (.sh (.int m)) => bnS (evE u gc c e ρ) fun y ρ => match y.rd ρ with
      | some (.int n) => (binI o m n).bind fun z => (setSlot i (.sh (.int z)) ρ).map .nx
      | _ => none
    | _ => none := by first | (simp only [exS]; done) | (simp only [exS]; rfl)
theorem S_ex (e : E) : exS u gc c (.ex e) ρ = bnS (evE u gc c e ρ) fun _ ρ => some (.nx ρ) := by first | (simp only [exS]; done) | (simp only [exS]; rfl)
theorem S_ret (e : E) : exS u gc c (.ret e) ρ = bnS (evE u gc c e ρ) fun x ρ => bnS (frz x ρ) fun d ρ => some (.rt d ρ) := by first | (simp only [exS]; done) | (simp only [exS]; rfl)
theorem S_retO (e : E) : exS u gc c (.retO e) ρ = bnS (evE u gc c e ρ) fun x ρ => match x with
    | .new xs => some (.ro xs ρ)
    | _ => none := by first | (simp only [exS]; done) | (simp only [exS]; rfl)
theorem S_retN  : exS u gc c (.retN ) ρ = some (.rt .none ρ) := by first | (simp only [exS]; done) | (simp only [exS]; rfl)
theorem S_ifs (t : E) (a b : Ss) : exS u gc c (.ifs t a b) ρ = bnS (evT u gc c t ρ) fun t ρ => match t with
    | true => exSs u gc c a ρ
    | false => exSs u gc c b ρ := by first | (simp only [exS]; done) | (simp only [exS]; rfl)
theorem S_forr (g : G) (it : It) (b : Ss) : exS u gc c (.forr g it b) ρ = bnS (evIt u gc c it ρ) fun xs ρ => forL (fun d ρ => (asgG g d ρ).bind fun ρ => exSs u gc c b ρ) xs ρ := by first | (simp only [exS]; done) | (simp only [exS]; rfl)
theorem S_whl (t : E) (b : Ss) : exS u gc c (.whl t b) ρ = whL (fun ρ => evT u gc c t ρ) (fun ρ => exSs u gc c b ρ) ρ := by first | (simp only [exS]; done) | (simp only [exS]; rfl)
theorem S_brk  : exS u gc c (.brk ) ρ = some (.bk ρ) := by first | (simp only [exS]; done) | (simp only [exS]; rfl)
theorem S_cnt  : exS u gc c (.cnt ) ρ = some (.ct ρ) := by first | (simp only [exS]; done) | (simp only [exS]; rfl)
theorem S_pass  : exS u gc c (.pass ) ρ = some (.nx ρ) := by first | (simp only [exS]; done) | (simp only [exS]; rfl)
theorem S_rais (x : Str) : exS u gc c (.rais x) ρ = some (.ex x ρ) := by first | (simp only [exS]; done) | (simp only [exS]; rfl)
theorem S_tri (b : Ss) (x : Str) (i : Nat) (h : Ss) : exS u gc c (.tri b x i h) ρ = match exSs u gc c b ρ with
    | some (.ex y ρ) => (u y x).bind fun t => match t with
      | false => some (.ex y ρ)
      | true => (setSlot i (.ex y) ρ).bind fun ρ => match exSs u gc c h ρ with
        | some (.nx ρ) => (clrX i ρ).map .nx
        | some (.bk ρ) => (clrX i ρ).map .bk
        | some (.ct ρ) => (clrX i ρ).map .ct
        | some (.rt d ρ) => (clrX i ρ).map (.rt d)
        | _ => none
    | r => r := by first | (simp only [exS]; done) | (simp only [exS]; rfl)
theorem step_nx {s : S} {r : Ss} {x : Option SOut} (h : exS u gc c s ρ = some (.nx ρ1)) (h2 : exSs u gc c r ρ1 = x) : exSs u gc c (.cons s r) ρ = x := by
  simp only [exSs, h, h2]
theorem step_rt {s : S} {r : Ss} {d : D} (h : exS u gc c s ρ = some (.rt d ρ1)) : exSs u gc c (.cons s r) ρ = some (.rt d ρ1) := by
  simp only [exSs, h]
theorem step_ro {s : S} {r : Ss} {xs : List D} (h : exS u gc c s ρ = some (.ro xs ρ1)) : exSs u gc c (.cons s r) ρ = some (.ro xs ρ1) := by
  simp only [exSs, h]
theorem step_ex {s : S} {r : Ss} {x : Str} (h : exS u gc c s ρ = some (.ex x ρ1)) : exSs u gc c (.cons s r) ρ = some (.ex x ρ1) := by
  simp only [exSs, h]
/-! ### for -/
theorem forL_inv {b : D → Env → Option SOut} (I : Nat → Env → Prop) : ∀ {ds : List D} {k : Nat} {ρ : Env}, (∀ (j : Nat) (d : D) (ρ : Env), ds[j]? = some d → I (k + j) ρ → ∃ ρ', (b d ρ = some (.nx ρ') ∨ b d ρ = some (.ct ρ')) ∧ I (k + j + 1) ρ') → I k ρ → ∃ ρ', forL b ds ρ = some (.nx ρ') ∧ I (k + ds.length) ρ'
  | [], k, ρ, _, h => ⟨ρ, rfl, h⟩
  | d :: ds, k, ρ, hb, h => by
    obtain ⟨ρ1, e, h1⟩ := hb 0 d ρ rfl h
    obtain ⟨ρ2, e2, h2⟩ := forL_inv I (ds := ds) (k := k + 1) (ρ := ρ1) (fun j d ρ hj hI => by
      have e : k + 1 + j = k + (j + 1) := by omega
      rw [e] at hI ⊢
      exact hb (j + 1) d ρ hj hI) h1
    refine ⟨ρ2, ?_, ?_⟩
    · rcases e with e | e <;> (simp only [forL, e]; exact e2)
    · rw [List.length_cons, Nat.add_comm ds.length 1, ← Nat.add_assoc]; exact h2
/-- a loop that ends by a return at the first item of a kind, or runs through -/
theorem forL_nil {b : D → Env → Option SOut} : forL b [] ρ = some (.nx ρ) := rfl
theorem forL_nx {b : D → Env → Option SOut} {d : D} {ds : List D} (h : b d ρ = some (.nx ρ1)) : forL b (d :: ds) ρ = forL b ds ρ1 := by simp only [forL, h]
theorem forL_rt {b : D → Env → Option SOut} {d : D} {ds : List D} {v : D} (h : b d ρ = some (.rt v ρ1)) : forL b (d :: ds) ρ = some (.rt v ρ1) := by simp only [forL, h]
/-! ### while -/
theorem whL_go {t : Env → Option (Out Bool)} {b : Env → Option SOut} (h : t ρ = some (.ok true ρ1)) (h2 : b ρ1 = some (.nx ρ2)) : whL t b ρ = whL t b ρ2 := by
  rw [whL]; simp only [stW, h, h2]; rfl
theorem whL_end {t : Env → Option (Out Bool)} {b : Env → Option SOut} (h : t ρ = some (.ok false ρ1)) : whL t b ρ = some (.nx ρ1) := by
  rw [whL]; simp only [stW, h]; rfl
/-! ### list comprehensions -/
theorem wip_len' {ρ : Env} : ∀ (vs : List Nat), (wip ρ vs).length = ρ.length
  | [] => rfl
  | v :: vs => by simp [wip, wip_len' vs]
theorem unw_len' {ρ0 ρ : Env} : ∀ (vs : List Nat), (unw ρ0 ρ vs).length = ρ.length
  | [] => rfl
  | v :: vs => by simp [unw, unw_len' vs]
/-- what the slots outside own are decides -/
theorem unw_wip {ρ0 ρ ρ' : Env} {vs : List Nat} (h : wip ρ' vs = wip ρ vs) : unw ρ0 ρ' vs = unw ρ0 ρ vs := by
  have hl : ρ'.length = ρ.length := by rw [← wip_len' vs, h, wip_len']
  refine List.ext_getElem? fun i => ?_
  rw [unw_get, unw_get, hl]
  by_cases hi : i ∈ vs ∧ i < ρ.length
  · rw [if_pos hi, if_pos hi]
  · rw [if_neg hi, if_neg hi]
    have := congrArg (fun l => l[i]?) h
    simp only [wip_get] at this
    by_cases hv : i ∈ vs
    · have : ¬ i < ρ.length := fun z => hi ⟨hv, z⟩
      rw [List.getElem?_eq_none (by omega), List.getElem?_eq_none (by omega)]
    · rwa [if_neg fun z => hv z.1, if_neg fun z => hv z.1] at this
theorem unw_self {ρ : Env} {vs : List Nat} : unw ρ ρ vs = ρ := by
  refine List.ext_getElem? fun i => ?_
  rw [unw_get]
  split
  · rename_i h
    rw [List.getElem?_eq_getElem h.2]; rfl
  · rfl
/-- the turns, each from a state E s to the next -/
theorem lcL_run {σ : Type} (E : σ → Env) {own : List Nat} {stp : D → Env → Option (Option D × Env)} {Y : List D → σ → σ → List D → Prop} (y0 : ∀ s, Y [] s s [])
    (yc : ∀ d ds s s1 s2 y ys, Y ds s1 s2 ys → (∃ ρ', stp d (wip (E s) own) = some (y, ρ') ∧ wip ρ' own = wip (E s1) own) → Y (d :: ds) s s2 (ocons y ys)) :
    ∀ (ds : List D) (P : Nat → σ → Prop) (k : Nat) (s : σ) (ρ : Env), wip ρ own = wip (E s) own → P k s → (∀ j d s, ds[j]? = some d → P (k + j) s → ∃ y s1 ρ', stp d (wip (E s) own) = some (y, ρ') ∧ wip ρ' own = wip (E s1) own ∧ P (k + j + 1) s1) →
      ∃ ys s2 ρ', lcL own stp ds ρ = some (ys, ρ') ∧ wip ρ' own = wip (E s2) own ∧ P (k + ds.length) s2 ∧ Y ds s s2 ys
  | [], P, k, s, ρ, hw, hp, _ => ⟨[], s, ρ, rfl, hw, hp, y0 s⟩
  | d :: ds, P, k, s, ρ, hw, hp, h => by
    obtain ⟨y, s1, ρ1, e1, e2, hp1⟩ := h 0 d s rfl hp
    obtain ⟨ys, s2, ρ2, e3, e4, hp2, hy⟩ := lcL_run E y0 yc ds P (k + 1) s1 ρ1 e2 hp1 (fun j d s hj hP => by
      have e : k + 1 + j = k + (j + 1) := by omega
      rw [e] at hP ⊢
      exact h (j + 1) d s hj hP)
    refine ⟨ocons y ys, s2, ρ2, ?_, e4, ?_, yc _ _ _ _ _ _ _ hy ⟨ρ1, e1, e2⟩⟩
    · simp only [lcL, hw, e1, Option.bind_some, e3, Option.map_some]
    · rw [List.length_cons, Nat.add_comm ds.length 1, ← Nat.add_assoc]; exact hp2
/-- .. that change nothing -/
theorem lcL_pure {own : List Nat} {stp : D → Env → Option (Option D × Env)} (f : D → Option D) : ∀ {ds : List D} {ρ ρ0 : Env}, wip ρ own = wip ρ0 own → (∀ d ∈ ds, ∃ ρ', stp d (wip ρ0 own) = some (f d, ρ') ∧ wip ρ' own = wip ρ0 own) → ∃ ρ', lcL own stp ds ρ = some (ds.filterMap f, ρ') ∧ wip ρ' own = wip ρ0 own
  | [], ρ, ρ0, hw, _ => ⟨ρ, rfl, hw⟩
  | d :: ds, ρ, ρ0, hw, h => by
    obtain ⟨ρ1, e1, e2⟩ := h d List.mem_cons_self
    obtain ⟨ρ2, e3, e4⟩ := lcL_pure f (ds := ds) e2 fun d hd => h d (List.mem_cons_of_mem _ hd)
    refine ⟨ρ2, ?_, e4⟩
    simp only [lcL, hw, e1, Option.bind_some, e3, Option.map_some]
    cases hf : f d <;> simp [ocons, hf]
theorem evE_lc {own : List Nat} {g : G} {it : It} {cs : Es} {e : E} : evE u gc c (.lc own g it cs e) ρ = bnd (evIt u gc c it ρ) fun xs ρ => if xs.length ≤ line then (lcL own (stpOf u gc c g cs e) xs ρ).map fun p => .ok (.new p.1) (unw ρ p.2 own) else none := by
  simp only [evE]; rfl
theorem evE_lch {own : List Nat} {g : G} {a : E} {cs : Es} {e : E} : evE u gc c (.lch own g a cs e) ρ = bnd (bnd (evE u gc c a ρ) fun x ρ => bnd (frz x ρ) fun d ρ => match d with
      | .list xs => some (.ok xs ρ)
      | _ => none) fun xs ρ => if xs.length ≤ line then (lcL own (stpOf u gc c g cs e) xs ρ).map fun p => .ok (.new p.1) (unw ρ p.2 own) else none := by
  simp only [evE]; rfl
theorem ev_lc {own : List Nat} {g : G} {it : It} {cs : Es} {e : E} {ds : List D} (f : D → Option D) (hi : evIt u gc c it ρ = some (.ok ds ρ1)) (hl : ds.length ≤ line)
    (h : ∀ d ∈ ds, ∃ ρ', stpOf u gc c g cs e d (wip ρ1 own) = some (f d, ρ') ∧ wip ρ' own = wip ρ1 own) : evE u gc c (.lc own g it cs e) ρ = some (.ok (.new (ds.filterMap f)) ρ1) := by
  obtain ⟨ρ', e1, e2⟩ := lcL_pure (own := own) f (ρ := ρ1) (ρ0 := ρ1) rfl h
  rw [evE_lc, hi]
  simp only [bnd_ok, if_pos hl, e1, Option.map_some, unw_wip e2, unw_self]
end
end RX

end
section
set_option Elab.async false
set_option linter.all false
set_option maxRecDepth 100000
set_option maxHeartbeats 4000000
set_option autoImplicit false
/-! plain: what the laws' own small defs do -/
namespace RX
open PySem
section
variable {u : Sub} {gc : List D} {c : CF}
theorem okMul_small {i j : Int} (h : j.natAbs < 18446744073709551616) : okMul i j = true := by
  unfold okMul; simp [h]
theorem okMul_smallL {i j : Int} (h : i.natAbs < 18446744073709551616) : okMul i j = true := by
  unfold okMul; simp [h]
def irTake : Ss :=
  (.cons (.ifs (.cmp .Eq (.b1 .len (.v 0)) (.k (.int 0))) (.cons (.ret (.k (.int 0)))
  .nil) .nil)
  (.cons (.ret (.bin .Mod (.b1 .int (.pop 0)) (.v 1)))
  .nil))
theorem take_ok (xs : List Int) {b : Int} (hb : 0 < b) : ∃ (v : Int) (ys : List Int), finF [.al (xs.map .int), .av (.int b)] (exSs u gc c irTake (enter ⟨2, 2, irTake⟩ [.al (xs.map .int), .av (.int b)])) = some (.ok (.int v) [ys.map .int]) ∧ 0 ≤ v ∧ v < b := by
  rcases List.eq_nil_or_concat xs with rfl | ⟨ys, x, rfl⟩
  · exact ⟨0, [], rfl, by omega, hb⟩
  · refine ⟨x.fmod b, ys, ?_, Int.fmod_nonneg_of_pos _ hb, Int.fmod_lt_of_pos _ hb⟩
    have h1 : (List.map PyData.int (ys ++ [x])).getLast? = some (PyData.int x) := by simp
    have h2 : (List.map PyData.int (ys ++ [x])).dropLast = List.map PyData.int ys := by simp
    have h3 : ((ys.length : Int) + 1 = 0) = False := by simp; omega
    have h4 : ¬ b = 0 := by omega
    simp [irTake, exSs, exS, evE, evT, tstO, enter, slotOf, bnd, bnS, biD, cmpD, cmpI, truD, Opd.rd, binD, binI, frz, Opd.fz, finF, outsL, h1, h2, h3, h4]
/-! ### the draws -/
def irDraws : Ss :=
  (.cons (.asgO 1 (.lst .nil))
  (.cons (.forr (.n 2) (.seq (.v 0)) (.cons (.asg 5 (.b1 .abs (.v 2)))
  (.cons (.ifs (.cmp .Lt (.v 5) (.bin .Pow (.k (.int 10)) (.k (.int 18)))) (.cons (.asg 6 (.bin .Mod (.b1 .int (.bin .Add (.bin .Mult (.v 5) (.k (.int 48271))) (.k (.int 11)))) (.k (.int 2147483647))))
  (.cons (.ex (.app 1 (.bin .Mod (.b1 .int (.bin .Add (.bin .Mult (.v 6) (.k (.int 69621))) (.v 5))) (.k (.int 2147483629)))))
  (.cons (.ex (.app 1 (.bin .Mod (.b1 .int (.bin .Add (.v 6) (.bin .FloorDiv (.v 5) (.k (.int 7))))) (.k (.int 1000003)))))
  (.cons (.asg 5 (.k (.int 0)))
  .nil)))) .nil)
  (.cons (.forr (.n 4) (.r1 (.k (.int 60))) (.cons (.ifs (.cmp .Gt (.v 5) (.k (.int 0))) (.cons (.ex (.app 1 (.bin .Mod (.b1 .int (.v 5)) (.k (.int 997)))))
  (.cons (.asg 5 (.bin .FloorDiv (.v 5) (.k (.int 997))))
  .nil)) .nil)
  .nil))
  .nil))))
  (.cons (.asg 3 (.k (.int 1)))
  (.cons (.ifs (.cmp .Gt (.b1 .len (.v 0)) (.k (.int 0))) (.cons (.asg 3 (.bin .Add (.k (.int 1)) (.b1 .abs (.ix (.v 0) (.k (.int 0))))))
  .nil) .nil)
  (.cons (.forr (.n 4) (.r1 (.k (.int 900))) (.cons (.asg 3 (.bin .Mod (.b1 .int (.bin .Add (.bin .Mult (.v 3) (.k (.int 48271))) (.k (.int 69621)))) (.k (.int 2147483647))))
  (.cons (.ex (.app 1 (.bin .FloorDiv (.v 3) (.k (.int 5)))))
  .nil)))
  (.cons (.retO (.lrev (.v 1)))
  .nil))))))
/-- the frame of _law_draws: at most m draws so far -/
def DrI (sc : D) (m : Nat) (ρ : Env) : Prop := ∃ (xs : List Int) (a b d e f : Slot), ρ = [.sh sc, .ol false (xs.map .int), a, b, d, e, f] ∧ xs.length ≤ m
/-- .. with the number in slot 5 -/
def DrN (sc : D) (m : Nat) (ρ : Env) : Prop := ∃ (xs : List Int) (a b d f : Slot) (n : Int), ρ = [.sh sc, .ol false (xs.map .int), a, b, d, .sh (.int n), f] ∧ xs.length ≤ m
theorem map_snoc (xs : List Int) (x : Int) : xs.map PyData.int ++ [PyData.int x] = (xs ++ [x]).map PyData.int := by simp
theorem dr_inner (sc : D) (m : Nat) (hm : m + 60 < 16777216) {ρ : Env} (h : DrN sc m ρ) :
    ∃ ρ', exS u gc c (.forr (.n 4) (.r1 (.k (.int 60))) (.cons (.ifs (.cmp .Gt (.v 5) (.k (.int 0))) (.cons (.ex (.app 1 (.bin .Mod (.b1 .int (.v 5)) (.k (.int 997)))))
      (.cons (.asg 5 (.bin .FloorDiv (.v 5) (.k (.int 997)))) .nil)) .nil) .nil)) ρ = some (.nx ρ') ∧ DrN sc (m + 60) ρ' := by
  obtain ⟨ρ', e, hI⟩ := forL_inv (b := fun d ρ => (asgG (.n 4) d ρ).bind fun ρ => exSs u gc c (.cons (.ifs (.cmp .Gt (.v 5) (.k (.int 0))) (.cons (.ex (.app 1 (.bin .Mod (.b1 .int (.v 5)) (.k (.int 997)))))
      (.cons (.asg 5 (.bin .FloorDiv (.v 5) (.k (.int 997)))) .nil)) .nil) .nil) ρ) (fun j ρ => DrN sc (m + j) ρ) (ds := rngL 0 1 60) (k := 0) (ρ := ρ) (fun j d ρ hj hI => by
    obtain ⟨xs, a, b, dd, f, n, rfl, hl⟩ := hI
    have hj' : j < 60 := by have := (List.getElem?_eq_some_iff.mp hj).1; simpa [rngL] using this
    by_cases hn : 0 < n
    · have hs : xs.length < line := by unfold line; omega
      refine ⟨[.sh sc, .ol false ((xs ++ [n.fmod 997]).map .int), a, b, .sh d, .sh (.int (n.fdiv 997)), f], .inl ?_, xs ++ [n.fmod 997], a, b, .sh d, f, n.fdiv 997, rfl, by simp; omega⟩
      simp [asgG, setSlot, exSs, exS, evE, evT, tstO, bnd, bnS, biD, cmpD, cmpI, truD, Opd.rd, binD, binI, frz, Opd.fz, hn, hs, okDiv]
    · refine ⟨[.sh sc, .ol false (xs.map .int), a, b, .sh d, .sh (.int n), f], .inl ?_, xs, a, b, .sh d, f, n, rfl, by omega⟩
      simp [asgG, setSlot, exSs, exS, evE, evT, tstO, bnd, bnS, cmpD, cmpI, truD, Opd.rd, hn]) h
  refine ⟨ρ', ?_, ?_⟩
  · have hr : okR 60 = true := by decide
    simp only [exS, evIt, evE, bnd_ok, bnS_ok, hr, if_true]
    exact e
  · have : (rngL 0 1 60).length = 60 := by simp [rngL]
    rw [this] at hI
    simpa using hI
def drIf : S := .ifs (.cmp .Lt (.v 5) (.bin .Pow (.k (.int 10)) (.k (.int 18)))) (.cons (.asg 6 (.bin .Mod (.b1 .int (.bin .Add (.bin .Mult (.v 5) (.k (.int 48271))) (.k (.int 11)))) (.k (.int 2147483647))))
  (.cons (.ex (.app 1 (.bin .Mod (.b1 .int (.bin .Add (.bin .Mult (.v 6) (.k (.int 69621))) (.v 5))) (.k (.int 2147483629)))))
  (.cons (.ex (.app 1 (.bin .Mod (.b1 .int (.bin .Add (.v 6) (.bin .FloorDiv (.v 5) (.k (.int 7))))) (.k (.int 1000003)))))
  (.cons (.asg 5 (.k (.int 0)))
  .nil)))) .nil
def drIn : S := .forr (.n 4) (.r1 (.k (.int 60))) (.cons (.ifs (.cmp .Gt (.v 5) (.k (.int 0))) (.cons (.ex (.app 1 (.bin .Mod (.b1 .int (.v 5)) (.k (.int 997)))))
  (.cons (.asg 5 (.bin .FloorDiv (.v 5) (.k (.int 997))))
  .nil)) .nil)
  .nil)
def drBody : Ss := .cons (.asg 5 (.b1 .abs (.v 2))) (.cons drIf (.cons drIn .nil))
def drSeed : Ss := (.cons (.asg 3 (.bin .Mod (.b1 .int (.bin .Add (.bin .Mult (.v 3) (.k (.int 48271))) (.k (.int 69621)))) (.k (.int 2147483647))))
  (.cons (.ex (.app 1 (.bin .FloorDiv (.v 3) (.k (.int 5)))))
  .nil))
theorem dr_if (sc : D) (m : Nat) (hm : m + 60 < 16777216) {ρ : Env} (h : DrN sc m ρ) : ∃ ρ', exS u gc c drIf ρ = some (.nx ρ') ∧ DrN sc (m + 2) ρ' := by
  obtain ⟨xs, a, b, d, f, n, rfl, hl⟩ := h
  by_cases hn : n < 1000000000000000000
  · have hs : xs.length < line := by unfold line; omega
    have hs2 : xs.length + 1 < line := by unfold line; omega
    have m1 : ∀ z : Int, okMul z 48271 = true := fun z => okMul_small (by decide)
    have m2 : ∀ z : Int, okMul z 69621 = true := fun z => okMul_small (by decide)
    refine ⟨[.sh sc, .ol false ((xs ++ [((n * 48271 + 11).fmod 2147483647 * 69621 + n).fmod 2147483629, ((n * 48271 + 11).fmod 2147483647 + n.fdiv 7).fmod 1000003]).map .int), a, b, d, .sh (.int 0), .sh (.int ((n * 48271 + 11).fmod 2147483647))], ?_, _, a, b, d, _, 0, rfl, by simp; omega⟩
    simp [drIf, setSlot, exSs, exS, evE, evT, tstO, bnd, bnS, biD, cmpD, cmpI, truD, Opd.rd, binD, binI, frz, Opd.fz, hn, hs, hs2, okDiv, okPow, m1, m2]
  · refine ⟨[.sh sc, .ol false (xs.map .int), a, b, d, .sh (.int n), f], ?_, xs, a, b, d, f, n, rfl, by omega⟩
    simp [drIf, setSlot, exSs, exS, evE, evT, tstO, bnd, bnS, biD, cmpD, cmpI, truD, Opd.rd, binD, binI, frz, Opd.fz, hn, okPow]
theorem dr_body (sc : D) (m : Nat) (hm : m + 70 < 16777216) (n : Int) {ρ : Env} (h : DrI sc m ρ) : ∃ ρ', ((asgG (.n 2) (.int n) ρ).bind fun ρ => exSs u gc c drBody ρ) = some (.nx ρ') ∧ DrI sc (m + 62) ρ' := by
  obtain ⟨xs, a, b, d, e, f, rfl, hl⟩ := h
  have h1 : DrN sc m [.sh sc, .ol false (xs.map .int), .sh (.int n), b, d, .sh (.int (if n < 0 then -n else n)), f] := ⟨xs, _, b, d, f, _, rfl, hl⟩
  obtain ⟨ρ1, e1, h2⟩ := dr_if (u := u) (gc := gc) (c := c) sc m (by omega) h1
  obtain ⟨ρ2, e2, h3⟩ := dr_inner (u := u) (gc := gc) (c := c) sc (m + 2) (by omega) h2
  refine ⟨ρ2, ?_, ?_⟩
  · simp only [asgG, setSlot, List.length_cons, List.length_nil, List.set_cons_succ, List.set_cons_zero]
    rw [if_pos (by omega), Option.bind_some]
    refine step_nx (ρ1 := [.sh sc, .ol false (xs.map .int), .sh (.int n), b, d, .sh (.int (if n < 0 then -n else n)), f]) (by simp [exS, evE, bnd, bnS, Opd.rd, biD, frz, Opd.fz, setSlot]) (step_nx e1 (step_nx e2 rfl))
  · obtain ⟨xs, a, b, d, f, n, rfl, hl⟩ := h3
    exact ⟨xs, _, _, _, _, _, rfl, by omega⟩
theorem rngL_length {lo st : Int} {k : Nat} : (rngL lo st k).length = k := by simp [rngL]
theorem dr_seeds (sc : D) (m : Nat) (hm : m + 900 < 16777216) {ρ : Env} (h : ∃ (xs : List Int) (a d e f : Slot) (s : Int), ρ = [.sh sc, .ol false (xs.map .int), a, .sh (.int s), d, e, f] ∧ xs.length ≤ m) :
    ∃ (ρ' : Env) (xs : List Int), exS u gc c (.forr (.n 4) (.r1 (.k (.int 900))) drSeed) ρ = some (.nx ρ') ∧ (∃ y, ρ'[0]? = some y) ∧ ρ'[1]? = some (.ol false (xs.map PyData.int)) := by
  obtain ⟨ρ', e, hI⟩ := forL_inv (b := fun d ρ => (asgG (.n 4) d ρ).bind fun ρ => exSs u gc c drSeed ρ)
    (fun j ρ => ∃ (xs : List Int) (a d e f : Slot) (s : Int), ρ = [.sh sc, .ol false (xs.map .int), a, .sh (.int s), d, e, f] ∧ xs.length ≤ m + j) (ds := rngL 0 1 900) (k := 0) (ρ := ρ) (fun j d ρ hj hI => by
    obtain ⟨xs, a, dd, e, f, s, rfl, hl⟩ := hI
    have hj' : j < 900 := by have := (List.getElem?_eq_some_iff.mp hj).1; simpa [rngL] using this
    have hs : xs.length < line := by unfold line; omega
    have m1 : ∀ z : Int, okMul z 48271 = true := fun z => okMul_small (by decide)
    refine ⟨[.sh sc, .ol false ((xs ++ [((s * 48271 + 69621).fmod 2147483647).fdiv 5]).map .int), a, .sh (.int ((s * 48271 + 69621).fmod 2147483647)), .sh d, e, f], .inl ?_, xs ++ [((s * 48271 + 69621).fmod 2147483647).fdiv 5], a, .sh d, e, f, _, rfl, by simp; omega⟩
    simp [asgG, setSlot, drSeed, exSs, exS, evE, bnd, bnS, biD, Opd.rd, binD, binI, frz, Opd.fz, hs, okDiv, m1]) h
  obtain ⟨xs, a, d, e', f, s, rfl, hl⟩ := hI
  refine ⟨[.sh sc, .ol false (xs.map .int), a, .sh (.int s), d, e', f], xs, ?_, ⟨_, rfl⟩, rfl⟩
  have hr : okR 900 = true := by decide
  simp only [exS, evIt, evE, bnd_ok, bnS_ok, hr, if_true]
  exact e
theorem draws_ok (ns : List Int) (hn : ns.length ≤ 63) : ∃ xs : List Int, finF [.av (.list (ns.map .int))] (exSs u gc c irDraws (enter ⟨1, 7, irDraws⟩ [.av (.list (ns.map .int))])) = some (.ow (xs.map .int) []) := by
  have h0 : DrI (.list (ns.map .int)) 0 [.sh (.list (ns.map .int)), .ol false [], .no, .no, .no, .no, .no] := ⟨[], _, _, _, _, _, rfl, Nat.le_refl _⟩
  obtain ⟨ρ1, e1, h1⟩ := forL_inv (b := fun d ρ => (asgG (.n 2) d ρ).bind fun ρ => exSs u gc c drBody ρ) (fun j ρ => DrI (.list (ns.map .int)) (62 * j) ρ) (ds := ns.map .int) (k := 0) (fun j d ρ hj hI => by
    obtain ⟨n, _, rfl⟩ := by rw [List.getElem?_map] at hj; exact Option.map_eq_some_iff.mp hj
    have hj' : j < ns.length := by have := (List.getElem?_eq_some_iff.mp hj).1; simpa using this
    obtain ⟨ρ', e, h⟩ := dr_body (u := u) (gc := gc) (c := c) _ (62 * (0 + j)) (by omega) n hI
    exact ⟨ρ', .inl e, by rw [show 62 * (0 + j + 1) = 62 * (0 + j) + 62 by omega]; exact h⟩) (by simpa using h0)
  rw [List.length_map] at h1
  obtain ⟨xs, a, b, d, e, f, rfl, hl⟩ := h1
  have e3 : ∃ s : Int, exS u gc c (.ifs (.cmp .Gt (.b1 .len (.v 0)) (.k (.int 0))) (.cons (.asg 3 (.bin .Add (.k (.int 1)) (.b1 .abs (.ix (.v 0) (.k (.int 0)))))) .nil) .nil) [.sh (.list (ns.map .int)), .ol false (xs.map .int), a, .sh (.int 1), d, e, f] = some (.nx [.sh (.list (ns.map .int)), .ol false (xs.map .int), a, .sh (.int s), d, e, f]) := by
    cases ns with
    | nil => exact ⟨1, by simp [exSs, exS, evE, evT, tstO, bnd, bnS, biD, cmpD, cmpI, truD, Opd.rd]⟩
    | cons n ns =>
      refine ⟨1 + if n < 0 then -n else n, ?_⟩
      have : (0 : Int) < ns.length + 1 := by omega
      simp [setSlot, exSs, exS, evE, evT, tstO, bnd, bnS, biD, cmpD, cmpI, truD, Opd.rd, frz, Opd.fz, ixD, ixOf, binD, binI, this]
  obtain ⟨s, e3⟩ := e3
  obtain ⟨ρ4, ys, e4, ⟨y0, h40⟩, h4⟩ := dr_seeds (u := u) (gc := gc) (c := c) (.list (ns.map .int)) (62 * 63) (by decide) ⟨xs, a, d, e, f, s, rfl, by omega⟩
  refine ⟨ys.reverse, ?_⟩
  have run : exSs u gc c irDraws (enter ⟨1, 7, irDraws⟩ [.av (.list (ns.map .int))]) = some (.ro (ys.map PyData.int).reverse ρ4) := by
    refine step_nx (ρ1 := [.sh (.list (ns.map .int)), .ol false [], .no, .no, .no, .no, .no]) (by simp [exS, evE, evEs, bnd, bnS, setSlot, enter, slotOf, line]) (step_nx (ρ1 := [.sh (.list (ns.map .int)), .ol false (xs.map .int), a, b, d, e, f]) ?_ (step_nx (ρ1 := [.sh (.list (ns.map .int)), .ol false (xs.map .int), a, .sh (.int 1), d, e, f]) (by simp [exS, evE, bnd, bnS, setSlot, frz, Opd.fz]) (step_nx e3 (step_nx e4 (step_ro ?_)))))
    · simp only [exS, evIt, evE, List.getElem?_cons_zero, bnd_ok, frz, Opd.fz, itemsD, Option.map_some, bnS_ok]
      exact e1
    · simp [exS, evE, h4, bnd, bnS, Opd.rd]
  have h5 : ∃ r, ρ4 = y0 :: r := by
    cases ρ4 with
    | nil => cases h40
    | cons y r => cases h40; exact ⟨r, rfl⟩
  obtain ⟨r, rfl⟩ := h5
  rw [run]
  simp [finF, outsL, List.map_reverse]
end
end RX

end
section
set_option Elab.async false
set_option linter.all false
set_option maxRecDepth 100000
set_option maxHeartbeats 4000000
set_option autoImplicit false
/-! plain: _law_alike, _law_says, calls -/
namespace RX
open PySem
section
variable {u : Sub} {gc : List D} {c : CF} {ρ : Env} {a b d : E} {x y z w : D} {f : Nat}
theorem ev_call1 (ha : evE u gc c a ρ = some (.ok (.val x) ρ)) (hc : c f [.av x] = some (.ok w [])) : evE u gc c (.call f (.ex a .nil)) ρ = some (.ok (.val w) ρ) := by
  simp [evE, evAs, ha, frz, Opd.fz, doCall, bos, collect, hc, putB]
theorem ev_call2 (ha : evE u gc c a ρ = some (.ok (.val x) ρ)) (hb : evE u gc c b ρ = some (.ok (.val y) ρ)) (hc : c f [.av x, .av y] = some (.ok w [])) : evE u gc c (.call f (.ex a (.ex b .nil))) ρ = some (.ok (.val w) ρ) := by
  simp [evE, evAs, ha, hb, frz, Opd.fz, doCall, bos, collect, hc, putB]
theorem ev_call3 (ha : evE u gc c a ρ = some (.ok (.val x) ρ)) (hb : evE u gc c b ρ = some (.ok (.val y) ρ)) (hd : evE u gc c d ρ = some (.ok (.val z) ρ)) (hc : c f [.av x, .av y, .av z] = some (.ok w [])) : evE u gc c (.call f (.ex a (.ex b (.ex d .nil)))) ρ = some (.ok (.val w) ρ) := by
  simp [evE, evAs, ha, hb, hd, frz, Opd.fz, doCall, bos, collect, hc, putB]
theorem callF_at {T : List Fn} {m f : Nat} {as : List CArg} {fn : Fn} (h : T[f]? = some fn) (hl : as.length = fn.np) : callF u gc T (m + 1) f as = finF as (exSs u gc (callF u gc T m) fn.body (enter fn as)) := by
  simp only [callF, h, hl, if_true]
mutual
/-- no dict, not deeper than n, not longer than a line's rows -/
def fine : Nat → D → Bool
  | _, .none | _, .bool _ | _, .int _ | _, .str _ => true
  | 0, _ => false
  | n + 1, .list xs => decide (xs.length ≤ line) && fineAll n xs
  | n + 1, .tuple xs => decide (xs.length ≤ line) && fineAll n xs
  | _, .dict _ => false
def fineAll : Nat → List D → Bool
  | _, [] => true
  | n, x :: xs => fine n x && fineAll n xs
end
theorem fineAll_at : ∀ {n : Nat} {xs : List D} {i : Nat} {x : D}, fineAll n xs = true → xs[i]? = some x → fine n x = true
  | n, y :: ys, 0, x, h, e => by cases e; simp only [fineAll, Bool.and_eq_true] at h; exact h.1
  | n, y :: ys, i + 1, x, h, e => by simp only [fineAll, Bool.and_eq_true] at h; exact fineAll_at h.2 (by simpa using e)
theorem flat_nil : flat deep (.list []) = true := rfl
def irAlike (ka : Nat) : Ss :=
  (.cons (.ifs (.orr (.isi (.v 1) .list) (.isi (.v 1) .tuple)) (.cons (.ifs (.orr (.cmp .NotEq (.isi (.v 0) .list) (.isi (.v 1) .list)) (.cmp .NotEq (.isi (.v 0) .tuple) (.isi (.v 1) .tuple))) (.cons (.ret (.k (.bool false)))
  .nil) .nil)
  (.cons (.ret (.an (.cmp .Eq (.b1 .len (.v 0)) (.b1 .len (.v 1))) (.cmp .Eq (.lc [2] (.n 2) (.r1 (.b1 .len (.v 1))) (.cons (.no (.call ka (.ex (.ix (.v 0) (.v 2)) (.ex (.ix (.v 1) (.v 2)) .nil)))) .nil) (.v 2)) (.lst .nil))))
  .nil)) .nil)
  (.cons (.ifs (.cmp .Is (.v 1) (.k .none)) (.cons (.ret (.cmp .Is (.v 0) (.k .none)))
  .nil) .nil)
  (.cons (.ifs (.orr (.isi (.v 1) .bool) (.isi (.v 0) .bool)) (.cons (.ret (.an (.isi (.v 0) .bool) (.an (.isi (.v 1) .bool) (.cmp .Eq (.v 0) (.v 1)))))
  .nil) .nil)
  (.cons (.ifs (.isi (.v 1) .int) (.cons (.ret (.an (.isi (.v 0) .int) (.cmp .Eq (.v 0) (.v 1))))
  .nil) .nil)
  (.cons (.ret (.an (.isi (.v 0) .str) (.cmp .Eq (.v 0) (.v 1))))
  .nil)))))
theorem ix_list {xs : List D} {i : Nat} {x : D} (h : xs[i]? = some x) : ixD (.list xs) (.int i) = some x := by
  have hi := (List.getElem?_eq_some_iff.mp h).1
  have h0 : (0 : Int) ≤ (i : Int) := by omega
  have h1 : (i : Int) < (xs.length : Int) := by omega
  simp only [ixD, ixOf, if_pos h0, if_pos h1, Option.bind_some, Int.toNat_natCast, h]
theorem ix_tuple {xs : List D} {i : Nat} {x : D} (h : xs[i]? = some x) : ixD (.tuple xs) (.int i) = some x := by
  have hi := (List.getElem?_eq_some_iff.mp h).1
  have h0 : (0 : Int) ≤ (i : Int) := by omega
  have h1 : (i : Int) < (xs.length : Int) := by omega
  simp only [ixD, ixOf, if_pos h0, if_pos h1, Option.bind_some, Int.toNat_natCast, h]
theorem okR_nat {n : Nat} (h : n ≤ line) : okR n = true := by
  unfold okR line at *
  simp only [Bool.and_eq_true, decide_eq_true_eq]
  omega
theorem alike_refl {T : List Fn} {ka : Nat} (hT : T[ka]? = some ⟨2, 3, irAlike ka⟩) : ∀ (n : Nat) (x : D), fine n x = true → ∀ m, n < m → callF u gc T m ka [.av x, .av x] = some (.ok (.bool true) []) := by
  intro n
  induction n with
  | zero =>
    intro x hx m hm
    obtain ⟨m, rfl⟩ : ∃ k, m = k + 1 := ⟨m - 1, by omega⟩
    rw [callF_at hT rfl]
    cases x <;> simp [fine] at hx <;> simp [irAlike, exSs, exS, evE, evT, tstO, enter, slotOf, bnd, bnS, isD, cmpD, cmpI, isNo, truD, Opd.rd, frz, Opd.fz, finF, outsL, flat, PyData.eqv]
  | succ n ih =>
    intro x hx m hm
    obtain ⟨m, rfl⟩ : ∃ k, m = k + 1 := ⟨m - 1, by omega⟩
    rw [callF_at hT rfl]
    have core : ∀ (xs : List D), x = .list xs ∨ x = .tuple xs → xs.length ≤ line → fineAll n xs = true →
        evE u gc (callF u gc T m) (.lc [2] (.n 2) (.r1 (.b1 .len (.v 1))) (.cons (.no (.call ka (.ex (.ix (.v 0) (.v 2)) (.ex (.ix (.v 1) (.v 2)) .nil)))) .nil) (.v 2)) [.sh x, .sh x, .no] = some (.ok (.new []) [.sh x, .sh x, .no]) := by
      intro xs hxs hl hf
      have hlen : biD .len [x] = some (.val (.int xs.length)) := by rcases hxs with rfl | rfl <;> rfl
      have hi : evIt u gc (callF u gc T m) (.r1 (.b1 .len (.v 1))) [.sh x, .sh x, .no] = some (.ok (rngL 0 1 xs.length) [.sh x, .sh x, .no]) := by
        simp [evIt, evE, bnd, Opd.rd, hlen, okR_nat hl]
      have := ev_lc (u := u) (gc := gc) (c := callF u gc T m) (own := [2]) (g := .n 2) (cs := .cons (.no (.call ka (.ex (.ix (.v 0) (.v 2)) (.ex (.ix (.v 1) (.v 2)) .nil)))) .nil) (e := .v 2) (fun _ => none) hi (by rw [rngL_length]; exact hl) (fun d hd => by
        obtain ⟨i, hi, rfl⟩ := List.mem_map.mp hd
        have hi' : i < xs.length := List.mem_range.mp hi
        have hx : ∃ y, xs[i]? = some y := ⟨_, List.getElem?_eq_getElem hi'⟩
        obtain ⟨y, hy⟩ := hx
        have hix : ixD x (.int i) = some y := by rcases hxs with rfl | rfl <;> first | exact ix_list hy | exact ix_tuple hy
        have hc := ih y (fineAll_at hf hy) m (by omega)
        refine ⟨[.sh x, .sh x, .sh (.int i)], ?_, rfl⟩
        have ha : evE u gc (callF u gc T m) (.ix (.v 0) (.v 2)) [.sh x, .sh x, .sh (.int i)] = some (.ok (.val y) [.sh x, .sh x, .sh (.int i)]) := by simp [evE, bnd, Opd.rd, hix]
        have hb : evE u gc (callF u gc T m) (.ix (.v 1) (.v 2)) [.sh x, .sh x, .sh (.int i)] = some (.ok (.val y) [.sh x, .sh x, .sh (.int i)]) := by simp [evE, bnd, Opd.rd, hix]
        have hcall := ev_call2 ha hb hc
        have hm1 : (0 : Int) + (i : Nat) * 1 = i := by omega
        simp only [stpOf, hm1, wip, asgG, setSlot, List.length_cons, List.length_set, List.set_cons_succ, List.set_cons_zero]
        simp [evTs, E_no, hcall, noEx, bnd, tstO, Opd.rd, truD])
      rw [this]
      simp
    cases x with
    | list xs =>
      simp only [fine, Bool.and_eq_true, decide_eq_true_eq] at hx
      have hc := core xs (.inl rfl) hx.1 hx.2
      simp only [irAlike, enter, slotOf, List.map_cons, List.map_nil, List.length_cons, List.length_nil, List.cons_append, List.nil_append, List.replicate]
      refine congrArg _ (step_rt (ρ1 := [.sh (.list xs), .sh (.list xs), .no]) ?_) |>.trans rfl
      have e1 : evE u gc (callF u gc T m) (.an (.cmp .Eq (.b1 .len (.v 0)) (.b1 .len (.v 1))) (.cmp .Eq (.lc [2] (.n 2) (.r1 (.b1 .len (.v 1))) (.cons (.no (.call ka (.ex (.ix (.v 0) (.v 2)) (.ex (.ix (.v 1) (.v 2)) .nil)))) .nil) (.v 2)) (.lst .nil))) [.sh (.list xs), .sh (.list xs), .no] = some (.ok (.val (.bool true)) [.sh (.list xs), .sh (.list xs), .no]) := by
        have h1 : evE u gc (callF u gc T m) (.cmp .Eq (.b1 .len (.v 0)) (.b1 .len (.v 1))) [.sh (.list xs), .sh (.list xs), .no] = some (.ok (.val (.bool true)) [.sh (.list xs), .sh (.list xs), .no]) := by simp [evE, bnd, Opd.rd, biD, cmpD, cmpI]
        rw [E_an, h1, bnd_ok, E_cmp, hc]
        simp [E_lst, evEs, bnd, Opd.rd, cmpD, flat_nil, PyData.eqv, PyData.eqvAll, line]
      simp [S_ifs, exSs, S_ret, evT, E_orr, E_isi, E_cmp, E_v, e1, tstO, bnd, bnS, isD, cmpD, truD, Opd.rd, frz, Opd.fz, flat, PyData.eqv]
    | tuple xs =>
      simp only [fine, Bool.and_eq_true, decide_eq_true_eq] at hx
      have hc := core xs (.inr rfl) hx.1 hx.2
      simp only [irAlike, enter, slotOf, List.map_cons, List.map_nil, List.length_cons, List.length_nil, List.cons_append, List.nil_append, List.replicate]
      refine congrArg _ (step_rt (ρ1 := [.sh (.tuple xs), .sh (.tuple xs), .no]) ?_) |>.trans rfl
      have e1 : evE u gc (callF u gc T m) (.an (.cmp .Eq (.b1 .len (.v 0)) (.b1 .len (.v 1))) (.cmp .Eq (.lc [2] (.n 2) (.r1 (.b1 .len (.v 1))) (.cons (.no (.call ka (.ex (.ix (.v 0) (.v 2)) (.ex (.ix (.v 1) (.v 2)) .nil)))) .nil) (.v 2)) (.lst .nil))) [.sh (.tuple xs), .sh (.tuple xs), .no] = some (.ok (.val (.bool true)) [.sh (.tuple xs), .sh (.tuple xs), .no]) := by
        have h1 : evE u gc (callF u gc T m) (.cmp .Eq (.b1 .len (.v 0)) (.b1 .len (.v 1))) [.sh (.tuple xs), .sh (.tuple xs), .no] = some (.ok (.val (.bool true)) [.sh (.tuple xs), .sh (.tuple xs), .no]) := by simp [evE, bnd, Opd.rd, biD, cmpD, cmpI]
        rw [E_an, h1, bnd_ok, E_cmp, hc]
        simp [E_lst, evEs, bnd, Opd.rd, cmpD, flat_nil, PyData.eqv, PyData.eqvAll, line]
      simp [S_ifs, exSs, S_ret, evT, E_orr, E_isi, E_cmp, E_v, e1, tstO, bnd, bnS, isD, cmpD, truD, Opd.rd, frz, Opd.fz, flat, PyData.eqv]
    | dict _ => simp [fine] at hx
    | _ => simp [irAlike, exSs, exS, evE, evT, tstO, enter, slotOf, bnd, bnS, isD, cmpD, cmpI, isNo, truD, Opd.rd, frz, Opd.fz, finF, outsL, flat, PyData.eqv]
def irSays : Ss := (.cons (.ret (.an (.isi (.v 0) .bool) (.cmp .Eq (.v 0) (.v 1)))) .nil)
theorem says_ok (b : Bool) : finF [.av (.bool b), .av (.bool b)] (exSs u gc c irSays (enter ⟨2, 2, irSays⟩ [.av (.bool b), .av (.bool b)])) = some (.ok (.bool true) []) := by
  simp [irSays, exSs, exS, evE, enter, slotOf, bnd, bnS, isD, cmpD, Opd.rd, frz, Opd.fz, finF, outsL, flat, PyData.eqv]
/-! ### ranges -/
theorem E_var {i : Nat} {x : D} (h : ρ[i]? = some (.sh x)) : evE u gc c (.v i) ρ = some (.ok (.val x) ρ) := by
  rw [E_v, h]
theorem it_r1_at : evIt u gc c (.r1 a) ρ = bnd (evE u gc c a ρ) fun x ρ => match x with
    | .val (.int j) => if okR j then some (.ok (rngL 0 1 j.toNat) ρ) else none
    | _ => none := by
  first | (rw [evIt]; done) | (rw [evIt]; rfl)
theorem it_r1 {j : Int} {ρ1 : Env} (ha : evE u gc c a ρ = some (.ok (.val (.int j)) ρ1)) (hj : okR j = true) : evIt u gc c (.r1 a) ρ = some (.ok (rngL 0 1 j.toNat) ρ1) := by
  rw [it_r1_at, ha, bnd_ok]
  exact if_pos hj
theorem it_r1n {n : Nat} {ρ1 : Env} (ha : evE u gc c a ρ = some (.ok (.val (.int n)) ρ1)) (hj : n ≤ line) : evIt u gc c (.r1 a) ρ = some (.ok (rngL 0 1 n) ρ1) := it_r1 ha (okR_nat hj)
end
end RX

end
section
set_option Elab.async false
set_option linter.all false
set_option maxRecDepth 100000
set_option maxHeartbeats 4000000
set_option autoImplicit false
/-! plain: frames as functions of the slot -/
namespace RX
open PySem
def up (f : Nat → Slot) (i : Nat) (z : Slot) : Nat → Slot := fun j => if j = i then z else f j
theorem up_same {f : Nat → Slot} {i : Nat} {z : Slot} : up f i z i = z := if_pos rfl
theorem up_ne {f : Nat → Slot} {i j : Nat} {z : Slot} (h : j ≠ i) : up f i z j = f j := if_neg h
/-- a frame of n slots -/
def env (n : Nat) (f : Nat → Slot) : Env := (List.range n).map f
theorem env_len {n : Nat} {f : Nat → Slot} : (env n f).length = n := by simp [env]
theorem env_at {n : Nat} {f : Nat → Slot} {i : Nat} (h : i < n) : (env n f)[i]? = some (f i) := by
  unfold env
  rw [List.getElem?_map, List.getElem?_range h]; rfl
theorem env_set {n : Nat} {f : Nat → Slot} {i : Nat} {z : Slot} : (env n f).set i z = env n (up f i z) := by
  refine List.ext_getElem? fun j => ?_
  by_cases hj : j < n
  · rw [env_at hj]
    by_cases h : i = j
    · subst h
      rw [List.getElem?_set_self (by rw [env_len]; exact hj), up_same]
    · rw [List.getElem?_set_ne h, env_at hj, up_ne (Ne.symm h)]
  · rw [List.getElem?_eq_none (by rw [List.length_set, env_len]; omega), List.getElem?_eq_none (by rw [env_len]; omega)]
section
variable {u : Sub} {gc : List D} {c : CF} {n : Nat} {f g : Nat → Slot} {i : Nat} {e a b : E} {x y : D}
theorem e_v (h : i < n) (hf : f i = .sh x) : evE u gc c (.v i) (env n f) = some (.ok (.val x) (env n f)) := E_var (by rw [env_at h, hf])
theorem slot_set {z : Slot} (h : i < n) : setSlot i z (env n f) = some (env n (up f i z)) := by
  unfold setSlot
  rw [env_len, if_pos h, env_set]
/-- x = e -/
theorem s_asg (h : i < n) (he : evE u gc c e (env n f) = some (.ok (.val x) (env n g))) : exS u gc c (.asg i e) (env n f) = some (.nx (env n (up g i (.sh x)))) := by
  rw [S_asg, he]
  simp only [bnS_ok, frz, Opd.fz, slot_set h, Option.map_some]
theorem s_asgN {xs : List D} (h : i < n) (he : evE u gc c e (env n f) = some (.ok (.new xs) (env n g))) : exS u gc c (.asg i e) (env n f) = some (.nx (env n (up g i (.sh (.list xs))))) := by
  rw [S_asg, he]
  simp only [bnS_ok, frz, Opd.fz, slot_set h, Option.map_some]
theorem s_asgO {xs : List D} (h : i < n) (he : evE u gc c e (env n f) = some (.ok (.new xs) (env n g))) : exS u gc c (.asgO i e) (env n f) = some (.nx (env n (up g i (.ol false xs)))) := by
  rw [S_asgO, he]
  simp only [bnS_ok, slot_set h, Option.map_some]
/-- if e: .. -/
theorem s_ifF {t p : Ss} {ρ ρ1 : Env} (he : evE u gc c e ρ = some (.ok (.val (.bool false)) ρ1)) : exS u gc c (.ifs e t p) ρ = exSs u gc c p ρ1 := by
  rw [S_ifs, evT, he]; simp [tstO, bnd, Opd.rd, truD]
theorem s_ifT {t p : Ss} {ρ ρ1 : Env} (he : evE u gc c e ρ = some (.ok (.val (.bool true)) ρ1)) : exS u gc c (.ifs e t p) ρ = exSs u gc c t ρ1 := by
  rw [S_ifs, evT, he]; simp [tstO, bnd, Opd.rd, truD]
theorem e_not {bb : Bool} {ρ ρ1 : Env} (he : evE u gc c e ρ = some (.ok (.val (.bool bb)) ρ1)) : evE u gc c (.no e) ρ = some (.ok (.val (.bool !bb)) ρ1) := by
  rw [E_no, he]; simp [tstO, bnd, Opd.rd, truD]
theorem e_orF {ρ ρ1 : Env} (ha : evE u gc c a ρ = some (.ok (.val (.bool false)) ρ1)) : evE u gc c (.orr a b) ρ = evE u gc c b ρ1 := by
  rw [E_orr, ha]; rfl
theorem e_orT {ρ ρ1 : Env} (ha : evE u gc c a ρ = some (.ok (.val (.bool true)) ρ1)) : evE u gc c (.orr a b) ρ = some (.ok (.val (.bool true)) ρ1) := by
  rw [E_orr, ha]; rfl
theorem e_anF {ρ ρ1 : Env} (ha : evE u gc c a ρ = some (.ok (.val (.bool false)) ρ1)) : evE u gc c (.an a b) ρ = some (.ok (.val (.bool false)) ρ1) := by
  rw [E_an, ha]; rfl
theorem e_anT {ρ ρ1 : Env} (ha : evE u gc c a ρ = some (.ok (.val (.bool true)) ρ1)) : evE u gc c (.an a b) ρ = evE u gc c b ρ1 := by
  rw [E_an, ha]; rfl
theorem e_cmp {o : CmpOp} {r : Bool} {ρ ρ1 ρ2 : Env} (ha : evE u gc c a ρ = some (.ok (.val x) ρ1)) (hb : evE u gc c b ρ1 = some (.ok (.val y) ρ2)) (h : cmpD o x y = some r) : evE u gc c (.cmp o a b) ρ = some (.ok (.val (.bool r)) ρ2) := by
  rw [E_cmp, ha, bnd_ok, hb]; simp [bnd, Opd.rd, h]
theorem e_bin {o : Operator} {r : Opd} {ρ ρ1 ρ2 : Env} (ha : evE u gc c a ρ = some (.ok (.val x) ρ1)) (hb : evE u gc c b ρ1 = some (.ok (.val y) ρ2)) (h : binD o x y = some r) : evE u gc c (.bin o a b) ρ = some (.ok r ρ2) := by
  rw [E_bin, ha, bnd_ok, hb]; simp [bnd, Opd.rd, h]
theorem e_ix {z : D} {ρ ρ1 ρ2 : Env} (ha : evE u gc c a ρ = some (.ok (.val x) ρ1)) (hb : evE u gc c b ρ1 = some (.ok (.val y) ρ2)) (h : ixD x y = some z) : evE u gc c (.ix a b) ρ = some (.ok (.val z) ρ2) := by
  rw [E_ix, ha, bnd_ok, hb]; simp [bnd, Opd.rd, h]
/-- a draw: a call that takes the draws of slot j -/
theorem e_draw {k j : Nat} {b' : Bool} {xs ys : List D} {w : D} (h : j < n) (hj : f j = .ol b' xs) (hb : evE u gc c b (env n f) = some (.ok (.val y) (env n f))) (hc : c k [.al xs, .av y] = some (.ok w [ys])) : evE u gc c (.call k (.bo j (.ex b .nil))) (env n f) = some (.ok (.val w) (env n (up f j (.ol b' ys)))) := by
  rw [E_call]
  simp only [evAs, env_at h, hj, hb, bnd_ok, frz, Opd.fz, doCall, bos, collect, Option.map_some]
  simp [bnd, collect, env_at h, hj, hc, putB, env_set]
/-! ### arguments and items, handed on -/
/-- e is evaluated and handed on as x -/
def Gv (u : Sub) (gc : List D) (c : CF) (e : E) (ρ : Env) (x : D) (ρ1 : Env) : Prop := bnd (evE u gc c e ρ) (fun o ρ => frz o ρ) = some (.ok x ρ1)
theorem gv {ρ ρ1 : Env} (h : evE u gc c e ρ = some (.ok (.val x) ρ1)) : Gv u gc c e ρ x ρ1 := by
  unfold Gv; rw [h]; rfl
theorem gvN {ρ ρ1 : Env} {xs : List D} (h : evE u gc c e ρ = some (.ok (.new xs) ρ1)) : Gv u gc c e ρ (.list xs) ρ1 := by
  unfold Gv; rw [h]; rfl
theorem gv_of {ρ ρ1 : Env} (h : Gv u gc c e ρ x ρ1) {γ : Type} {k : D → Env → Option (Out γ)} : (bnd (evE u gc c e ρ) fun o ρ => bnd (frz o ρ) k) = k x ρ1 := by
  unfold Gv at h
  rw [← bnd_assoc, h, bnd_ok]
theorem es_nil {ρ : Env} : evEs u gc c .nil ρ = some (.ok [] ρ) := by simp only [evEs]
theorem es_cons {es : Es} {ρ ρ1 ρ2 : Env} {xs : List D} (h : Gv u gc c e ρ x ρ1) (h2 : evEs u gc c es ρ1 = some (.ok xs ρ2)) : evEs u gc c (.cons e es) ρ = some (.ok (x :: xs) ρ2) := by
  simp only [evEs]
  rw [gv_of h, h2]; rfl
theorem e_lst {es : Es} {ρ ρ1 : Env} {xs : List D} (h : evEs u gc c es ρ = some (.ok xs ρ1)) (hl : xs.length ≤ 1000) : evE u gc c (.lst es) ρ = some (.ok (.new xs) ρ1) := by
  rw [E_lst, h, bnd_ok, if_pos (by unfold line; omega)]
theorem e_tup {es : Es} {ρ ρ1 : Env} {xs : List D} (h : evEs u gc c es ρ = some (.ok xs ρ1)) (hl : xs.length ≤ 1000) : evE u gc c (.tup es) ρ = some (.ok (.val (.tuple xs)) ρ1) := by
  rw [E_tup, h, bnd_ok, if_pos (by unfold line; omega)]
/-- arguments that lend nothing -/
def Ga (u : Sub) (gc : List D) (c : CF) (as : As) (ρ : Env) (xs : List D) (ρ1 : Env) : Prop := evAs u gc c as ρ = some (.ok (xs.map .av) ρ1)
theorem ga_nil {ρ : Env} : Ga u gc c .nil ρ [] ρ := by unfold Ga; simp only [evAs]; rfl
theorem ga_cons {as : As} {ρ ρ1 ρ2 : Env} {xs : List D} (h : Gv u gc c e ρ x ρ1) (h2 : Ga u gc c as ρ1 xs ρ2) : Ga u gc c (.ex e as) ρ (x :: xs) ρ2 := by
  unfold Ga at *
  simp only [evAs]
  rw [gv_of h, h2]; rfl
theorem bos_av : ∀ xs : List D, bos (xs.map .av) = []
  | [] => rfl
  | x :: xs => by rw [List.map_cons]; exact bos_av xs
theorem collect_av : ∀ (xs : List D) (ρ : Env), collect (xs.map .av) ρ = some (xs.map .av)
  | [], ρ => rfl
  | x :: xs, ρ => by rw [List.map_cons, collect, collect_av xs ρ]; rfl
theorem e_call {k : Nat} {as : As} {ρ ρ1 : Env} {xs : List D} {w : D} (h : Ga u gc c as ρ xs ρ1) (hc : c k (xs.map .av) = some (.ok w [])) : evE u gc c (.call k as) ρ = some (.ok (.val w) ρ1) := by
  unfold Ga at h
  rw [E_call, h, bnd_ok, doCall, bos_av, if_pos List.nodup_nil, collect_av, Option.bind_some, hc]
  rfl
end
end RX

end
section
set_option Elab.async false
set_option linter.all false
set_option maxRecDepth 100000
set_option maxHeartbeats 4000000
set_option autoImplicit false
/-! plain: comprehensions of one name, over frames -/
namespace RX
open PySem
section
variable {u : Sub} {gc : List D} {c : CF} {n : Nat} {f f1 : Nat → Slot} {e t : E}
theorem up_up {f : Nat → Slot} {i : Nat} {x z : Slot} : up (up f i x) i z = up f i z := by
  funext j
  unfold up
  split <;> rfl
theorem wip_env {j : Nat} : wip (env n f) [j] = env n (up f j .no) := by
  show (env n f).set j .no = _
  rw [env_set]
/-- [e for x in ..] -/
theorem lc_map {j : Nat} (hj : j < n) {it : It} {ds : List D} {ρ : Env} (hi : evIt u gc c it ρ = some (.ok ds (env n f1))) (hl : ds.length ≤ line) (F : D → D) (h : ∀ d ∈ ds, Gv u gc c e (env n (up f1 j (.sh d))) (F d) (env n (up f1 j (.sh d)))) :
    evE u gc c (.lc [j] (.n j) it .nil e) ρ = some (.ok (.new (ds.map F)) (env n f1)) := by
  have := ev_lc (u := u) (gc := gc) (c := c) (own := [j]) (g := .n j) (cs := .nil) (e := e) (fun d => some (F d)) hi hl (fun d hd => by
    refine ⟨env n (up f1 j (.sh d)), ?_, ?_⟩
    · have hg := h d hd
      unfold Gv at hg
      simp only [stpOf, wip_env, asgG, slot_set hj, Option.bind_some, evTs, noEx, up_up, hg, Option.map_some]
    · rw [wip_env, wip_env, up_up])
  rw [this]
  simp
theorem fm_filter (p : D → Bool) : ∀ ds : List D, ds.filterMap (fun d => if p d then some d else none) = ds.filter p
  | [] => rfl
  | d :: ds => by
    rw [List.filterMap_cons, List.filter_cons, fm_filter p ds]
    cases p d <;> rfl
/-- [x for x in .. if t] -/
theorem lc_filter {j : Nat} (hj : j < n) {it : It} {ds : List D} {ρ : Env} (hi : evIt u gc c it ρ = some (.ok ds (env n f1))) (hl : ds.length ≤ line) (p : D → Bool) (h : ∀ d ∈ ds, evE u gc c t (env n (up f1 j (.sh d))) = some (.ok (.val (.bool (p d))) (env n (up f1 j (.sh d))))) :
    evE u gc c (.lc [j] (.n j) it (.cons t .nil) (.v j)) ρ = some (.ok (.new (ds.filter p)) (env n f1)) := by
  have := ev_lc (u := u) (gc := gc) (c := c) (own := [j]) (g := .n j) (cs := .cons t .nil) (e := .v j) (fun d => if p d then some d else none) hi hl (fun d hd => by
    refine ⟨env n (up f1 j (.sh d)), ?_, ?_⟩
    · have hg := h d hd
      have hv : evE u gc c (.v j) (env n (up f1 j (.sh d))) = some (.ok (.val d) (env n (up f1 j (.sh d)))) := e_v hj up_same
      cases hp : p d <;> simp [stpOf, wip_env, asgG, slot_set hj, evTs, noEx, up_up, hg, hp, tstO, bnd, Opd.rd, truD, hv, frz, Opd.fz]
    · rw [wip_env, wip_env, up_up])
  rw [this, fm_filter]
end
end RX

end
section
set_option Elab.async false
set_option linter.all false
set_option maxRecDepth 100000
set_option maxHeartbeats 4000000
set_option autoImplicit false
/-! plain: more of frames; comprehensions over pairs, draws in a comprehension; _law_same -/
namespace RX
open PySem
section
variable {u : Sub} {gc : List D} {c : CF} {n : Nat} {f f1 : Nat → Slot} {e t a b : E} {ρ : Env}
theorem up_swap {f : Nat → Slot} {i j : Nat} {x z : Slot} (h : i ≠ j) : up (up f i x) j z = up (up f j z) i x := by
  funext k
  unfold up
  by_cases h1 : k = i <;> by_cases h2 : k = j
  · omega
  · simp [h1, h2, h]
  · simp [h1, h2, Ne.symm h]
  · simp [h1, h2]
/-- [e for x, y in ..] -/
theorem lc_map2 {i j : Nat} (hij : i ≠ j) (hi' : i < n) (hj : j < n) {it : It} {ds : List D} {ρ : Env} (hi : evIt u gc c it ρ = some (.ok ds (env n f1))) (hl : ds.length ≤ line) (F : D → D) (h : ∀ d ∈ ds, ∃ x y, d = .tuple [x, y] ∧ Gv u gc c e (env n (up (up f1 i (.sh x)) j (.sh y))) (F d) (env n (up (up f1 i (.sh x)) j (.sh y)))) :
    evE u gc c (.lc [i, j] (.t (.cons (.n i) (.cons (.n j) .nil))) it .nil e) ρ = some (.ok (.new (ds.map F)) (env n f1)) := by
  have hw : ∀ g : Nat → Slot, wip (env n g) [i, j] = env n (up (up g j .no) i .no) := fun g => by
    show ((env n g).set j .no).set i .no = _
    rw [env_set, env_set]
  have := ev_lc (u := u) (gc := gc) (c := c) (own := [i, j]) (g := .t (.cons (.n i) (.cons (.n j) .nil))) (cs := .nil) (e := e) (fun d => some (F d)) hi hl (fun d hd => by
    obtain ⟨x, y, rfl, hg⟩ := h d hd
    have e1 : up (up (up (up f1 j .no) i .no) i (.sh x)) j (.sh y) = up (up f1 i (.sh x)) j (.sh y) := by
      rw [up_up, up_swap hij.symm, up_up]
    refine ⟨env n (up (up f1 i (.sh x)) j (.sh y)), ?_, ?_⟩
    · unfold Gv at hg
      simp only [stpOf, hw, asgG, asgGs, slot_set hi', slot_set hj, Option.bind_some, evTs, noEx, e1, hg, Option.map_some]
    · rw [hw, hw, up_up, up_swap hij, up_up])
  rw [this]
  simp
theorem e_binG {o : Operator} {r p q : Opd} {ρ ρ1 ρ2 : Env} (ha : evE u gc c a ρ = some (.ok p ρ1)) (hb : evE u gc c b ρ1 = some (.ok q ρ2)) (h : ((p.rd ρ2).bind fun x => (q.rd ρ2).bind fun y => binD o x y) = some r) : evE u gc c (.bin o a b) ρ = some (.ok r ρ2) := by
  rw [E_bin, ha, bnd_ok, hb]
  cases hp : p.rd ρ2 <;> cases hq : q.rd ρ2 <;> simp_all [bnd]
theorem e_cmpG {o : CmpOp} {r : Bool} {p q : Opd} {ρ ρ1 ρ2 : Env} (ha : evE u gc c a ρ = some (.ok p ρ1)) (hb : evE u gc c b ρ1 = some (.ok q ρ2)) (h : ((p.rd ρ2).bind fun x => (q.rd ρ2).bind fun y => cmpD o x y) = some r) : evE u gc c (.cmp o a b) ρ = some (.ok (.val (.bool r)) ρ2) := by
  rw [E_cmp, ha, bnd_ok, hb]
  cases hp : p.rd ρ2 <;> cases hq : q.rd ρ2 <;> simp_all [bnd]
theorem e_b1 {bb : BI} {r : Opd} {x : D} {ρ ρ1 : Env} (ha : evE u gc c a ρ = some (.ok (.val x) ρ1)) (h : biD bb [x] = some r) : evE u gc c (.b1 bb a) ρ = some (.ok r ρ1) := by
  rw [E_b1, ha]; simp [bnd, Opd.rd, h]
theorem e_b2 {bb : BI} {r : Opd} {x y : D} {ρ ρ1 ρ2 : Env} (ha : evE u gc c a ρ = some (.ok (.val x) ρ1)) (hb : evE u gc c b ρ1 = some (.ok (.val y) ρ2)) (h : biD bb [x, y] = some r) : evE u gc c (.b2 bb a b) ρ = some (.ok r ρ2) := by
  rw [E_b2, ha, bnd_ok, hb]; simp [bnd, Opd.rd, h]
theorem e_ixN {z : D} {xs : List D} {y : D} {ρ ρ1 ρ2 : Env} (ha : evE u gc c a ρ = some (.ok (.new xs) ρ1)) (hb : evE u gc c b ρ1 = some (.ok (.val y) ρ2)) (h : ixD (.list xs) y = some z) : evE u gc c (.ix a b) ρ = some (.ok (.val z) ρ2) := by
  rw [E_ix, ha, bnd_ok, hb]; simp [bnd, Opd.rd, h]
theorem e_k {d : D} {ρ : Env} : evE u gc c (.k d) ρ = some (.ok (.val d) ρ) := E_k d
theorem e_lend {k j : Nat} {b' : Bool} {xs ys : List D} {w : D} (h : j < n) (hj : f j = .ol b' xs) (hc : c k [.al xs] = some (.ok w [ys])) : evE u gc c (.call k (.bo j .nil)) (env n f) = some (.ok (.val w) (env n (up f j (.ol b' ys)))) := by
  rw [E_call]
  simp only [evAs, env_at h, hj, bnd_ok, doCall, bos, RX.collect, Option.map_some]
  simp [RX.collect, env_at h, hj, hc, putB, env_set]
theorem e_callO {k : Nat} {as : As} {ρ ρ1 : RX.Env} {xs ys : List D} (h : Ga u gc c as ρ xs ρ1) (hc : c k (xs.map .av) = some (.ow ys [])) : evE u gc c (.call k as) ρ = some (.ok (.new ys) ρ1) := by
  unfold Ga at h
  rw [E_call, h, bnd_ok, doCall, bos_av, if_pos List.nodup_nil, collect_av, Option.bind_some, hc]
  rfl
/-- a draw whose bound takes draws itself -/
theorem e_drawG {k j : Nat} {b' : Bool} {xs0 xs ys : List D} {y w : D} (h : j < n) (h0 : f j = .ol b' xs0) (hj : f1 j = .ol b' xs) (hb : Gv u gc c b (env n f) y (env n f1)) (hc : c k [.al xs, .av y] = some (.ok w [ys])) : evE u gc c (.call k (.bo j (.ex b .nil))) (env n f) = some (.ok (.val w) (env n (up f1 j (.ol b' ys)))) := by
  rw [E_call]
  have e1 : evAs u gc c (.bo j (.ex b .nil)) (env n f) = some (.ok [.al j, .av y] (env n f1)) := by
    simp only [evAs, env_at h, h0]
    rw [gv_of hb]; rfl
  rw [e1]
  simp only [bnd_ok, doCall, bos, collect, env_at h, hj, Option.map_some]
  simp [hc, putB, env_at h, hj, env_set]
/-- [take(draws, e) for x in ..]: each item has P -/
theorem lc_draws {i j k : Nat} {b' : Bool} (hi' : i < n) (hj' : j < n) (hij : i ≠ j) {it : It} {ds xs : List D} {ρ : Env} {y : D} (P : D → Prop) (Q : List D → Prop) (hi : evIt u gc c it ρ = some (.ok ds (env n f1))) (hl : ds.length ≤ line) (h1 : f1 j = .ol b' xs) (hq : Q xs)
    (hb : ∀ (x : D) (xs : List D), evE u gc c b (env n (up (up f1 j (.ol b' xs)) i (.sh x))) = some (.ok (.val y) (env n (up (up f1 j (.ol b' xs)) i (.sh x)))))
    (hc : ∀ xs, Q xs → ∃ w ys, c k [.al xs, .av y] = some (.ok w [ys]) ∧ P w ∧ Q ys) :
    ∃ ws ys, evE u gc c (.lc [i] (.n i) it .nil (.call k (.bo j (.ex b .nil)))) ρ = some (.ok (.new ws) (env n (up f1 j (.ol b' ys)))) ∧ ws.length = ds.length ∧ (∀ w ∈ ws, P w) ∧ Q ys := by
  have core : ∀ (ds : List D) (xs : List D) (z : Slot), Q xs → ∃ ws ys z', lcL [i] (stpOf u gc c (.n i) .nil (.call k (.bo j (.ex b .nil)))) ds (env n (up (up f1 j (.ol b' xs)) i z)) = some (ws, env n (up (up f1 j (.ol b' ys)) i z')) ∧ ws.length = ds.length ∧ (∀ w ∈ ws, P w) ∧ Q ys := by
    intro ds
    induction ds with
    | nil => exact fun xs z hq => ⟨[], xs, z, rfl, rfl, (by intro w h; cases h), hq⟩
    | cons d ds ih =>
      intro xs z hq
      obtain ⟨w, ys, e1, e2, e3⟩ := hc xs hq
      obtain ⟨ws, zs, z', f2, f3, f4, f5⟩ := ih ys (.sh d) e3
      refine ⟨w :: ws, zs, z', ?_, by simp [f3], fun v hv => ?_, f5⟩
      · have g1 : up (up f1 j (.ol b' xs)) i (.sh d) j = .ol b' xs := by rw [up_ne (Ne.symm hij), up_same]
        have g2 := e_draw (u := u) (gc := gc) (c := c) (k := k) (b := b) hj' g1 (hb d xs) e1
        have g3 : up (up (up f1 j (.ol b' xs)) i (.sh d)) j (.ol b' ys) = up (up f1 j (.ol b' ys)) i (.sh d) := by
          rw [up_swap hij, up_up]
        rw [g3] at g2
        have g4 : stpOf u gc c (.n i) .nil (.call k (.bo j (.ex b .nil))) d (wip (env n (up (up f1 j (.ol b' xs)) i z)) [i]) = some (some w, env n (up (up f1 j (.ol b' ys)) i (.sh d))) := by
          simp only [stpOf, wip_env, up_up, asgG, slot_set hi', Option.bind_some, evTs, noEx, g2, bnd_ok, frz, Opd.fz, Option.map_some]
        simp only [lcL, g4, Option.bind_some, f2, Option.map_some, ocons]
      · rcases List.mem_cons.mp hv with rfl | hv
        · exact e2
        · exact f4 v hv
  have hs : env n f1 = env n (up (up f1 j (.ol b' xs)) i (f1 i)) := by
    congr 1
    funext m
    unfold up
    split
    · subst_vars; rfl
    · split
      · subst_vars; exact h1
      · rfl
  obtain ⟨ws, ys, z', e1, e2, e3, e4⟩ := core ds xs (f1 i) hq
  refine ⟨ws, ys, ?_, e2, e3, e4⟩
  rw [evE_lc, hi, bnd_ok, if_pos hl, hs, e1]
  simp only [Option.map_some]
  congr 2
  show (env n _).set i _ = _
  rw [env_at hi', env_set, up_up]
  congr 1
  funext m
  unfold up
  simp only
  split
  · subst_vars; simp [hij]
  · rfl
/-! ### _law_same -/
def irSame (ks : Nat) : Ss :=
  (.cons (.ifs (.orr (.cmp .Is (.v 1) (.k .none)) (.cmp .Is (.v 0) (.k .none))) (.cons (.ret (.an (.cmp .Is (.v 1) (.k .none)) (.cmp .Is (.v 0) (.k .none))))
  .nil) .nil)
  (.cons (.ifs (.orr (.isi (.v 1) .tuple) (.isi (.v 1) .list)) (.cons (.ifs (.orr (.cmp .NotEq (.isi (.v 1) .tuple) (.isi (.v 0) .tuple)) (.cmp .NotEq (.isi (.v 1) .list) (.isi (.v 0) .list))) (.cons (.ret (.k (.bool false)))
  .nil) .nil)
  (.cons (.ifs (.cmp .NotEq (.b1 .len (.v 0)) (.b1 .len (.v 1))) (.cons (.ret (.k (.bool false)))
  .nil) .nil)
  (.cons (.forr (.n 2) (.r1 (.b1 .len (.v 1))) (.cons (.ifs (.no (.call ks (.ex (.ix (.v 0) (.v 2)) (.ex (.ix (.v 1) (.v 2)) .nil)))) (.cons (.ret (.k (.bool false)))
  .nil) .nil)
  .nil))
  (.cons (.ret (.k (.bool true)))
  .nil)))) .nil)
  (.cons (.ifs (.cmp .NotEq (.isi (.v 1) .bool) (.isi (.v 0) .bool)) (.cons (.ret (.k (.bool false)))
  .nil) .nil)
  (.cons (.ifs (.orr (.cmp .NotEq (.isi (.v 1) .int) (.isi (.v 0) .int)) (.cmp .NotEq (.isi (.v 1) .str) (.isi (.v 0) .str))) (.cons (.ret (.k (.bool false)))
  .nil) .nil)
  (.cons (.ret (.cmp .Eq (.v 0) (.v 1)))
  .nil)))))
theorem same_refl {T : List Fn} {ks : Nat} (hT : T[ks]? = some ⟨2, 3, irSame ks⟩) : ∀ (n : Nat) (x : D), fine n x = true → ∀ m, n < m → callF u gc T m ks [.av x, .av x] = some (.ok (.bool true) []) := by
  intro n
  induction n with
  | zero =>
    intro x hx m hm
    obtain ⟨m, rfl⟩ : ∃ k, m = k + 1 := ⟨m - 1, by omega⟩
    rw [callF_at hT rfl]
    cases x <;> simp [fine] at hx <;> simp [irSame, exSs, exS, evE, evT, tstO, enter, slotOf, bnd, bnS, isD, cmpD, cmpI, isNo, truD, Opd.rd, frz, Opd.fz, finF, outsL, flat, PyData.eqv]
  | succ n ih =>
    intro x hx m hm
    obtain ⟨m, rfl⟩ : ∃ k, m = k + 1 := ⟨m - 1, by omega⟩
    rw [callF_at hT rfl]
    have core : ∀ (xs : List D), x = .list xs ∨ x = .tuple xs → xs.length ≤ line → fineAll n xs = true → ∀ s2 : Slot,
        ∃ s3, exS u gc (callF u gc T m) (.forr (.n 2) (.r1 (.b1 .len (.v 1))) (.cons (.ifs (.no (.call ks (.ex (.ix (.v 0) (.v 2)) (.ex (.ix (.v 1) (.v 2)) .nil)))) (.cons (.ret (.k (.bool false))) .nil) .nil) .nil)) [.sh x, .sh x, s2] = some (.nx [.sh x, .sh x, s3]) := by
      intro xs hxs hl hf s2
      have hlen : biD .len [x] = some (.val (.int xs.length)) := by rcases hxs with rfl | rfl <;> rfl
      have hi : evIt u gc (callF u gc T m) (.r1 (.b1 .len (.v 1))) [.sh x, .sh x, s2] = some (.ok (rngL 0 1 xs.length) [.sh x, .sh x, s2]) :=
        it_r1n (e_b1 (E_var rfl) hlen) hl
      rw [S_forr, hi, bnS_ok]
      obtain ⟨ρ', e1, s3, e2⟩ := forL_inv (b := fun d ρ => (asgG (.n 2) d ρ).bind fun ρ => exSs u gc (callF u gc T m) (.cons (.ifs (.no (.call ks (.ex (.ix (.v 0) (.v 2)) (.ex (.ix (.v 1) (.v 2)) .nil)))) (.cons (.ret (.k (.bool false))) .nil) .nil) .nil) ρ)
        (fun _ ρ => ∃ s3, ρ = [.sh x, .sh x, s3]) (ds := rngL 0 1 xs.length) (k := 0) (ρ := [.sh x, .sh x, s2]) (fun j d ρ hj hI => by
          obtain ⟨s3, rfl⟩ := hI
          have hj' : j < xs.length := by have := (List.getElem?_eq_some_iff.mp hj).1; rwa [rngL_length] at this
          have hd : d = .int j := by
            unfold rngL at hj
            rw [List.getElem?_map, List.getElem?_range hj'] at hj
            rw [← Option.some.inj hj]
            show PyData.int (0 + (j : Nat) * 1) = _
            rw [show (0 : Int) + (j : Nat) * 1 = j by omega]
          subst hd
          obtain ⟨y, hy⟩ : ∃ y, xs[j]? = some y := ⟨_, List.getElem?_eq_getElem hj'⟩
          have hix : ixD x (.int j) = some y := by rcases hxs with rfl | rfl <;> first | exact ix_list hy | exact ix_tuple hy
          have hc := ih y (fineAll_at hf hy) m (by omega)
          refine ⟨[.sh x, .sh x, .sh (.int j)], .inl ?_, _, rfl⟩
          have ha : evE u gc (callF u gc T m) (.ix (.v 0) (.v 2)) [.sh x, .sh x, .sh (.int j)] = some (.ok (.val y) [.sh x, .sh x, .sh (.int j)]) := e_ix (E_var rfl) (E_var rfl) hix
          have hb : evE u gc (callF u gc T m) (.ix (.v 1) (.v 2)) [.sh x, .sh x, .sh (.int j)] = some (.ok (.val y) [.sh x, .sh x, .sh (.int j)]) := e_ix (E_var rfl) (E_var rfl) hix
          have hcall := e_not (ev_call2 ha hb hc)
          show exSs u gc (callF u gc T m) _ [.sh x, .sh x, .sh (.int j)] = _
          exact step_nx ((s_ifF hcall).trans rfl) rfl) ⟨s2, rfl⟩
      subst e2
      exact ⟨s3, e1⟩
    have big : ∀ (xs : List D), x = .list xs ∨ x = .tuple xs → xs.length ≤ line → fineAll n xs = true → finF [.av x, .av x] (exSs u gc (callF u gc T m) (irSame ks) [.sh x, .sh x, .no]) = some (.ok (.bool true) []) := by
      intro xs hxs hl hf
      obtain ⟨s3, hc⟩ := core xs hxs hl hf .no
      have hlen : biD .len [x] = some (.val (.int xs.length)) := by rcases hxs with rfl | rfl <;> rfl
      have run : exSs u gc (callF u gc T m) (irSame ks) [.sh x, .sh x, .no] = some (.rt (.bool true) [.sh x, .sh x, s3]) := by
        refine step_nx (ρ1 := [.sh x, .sh x, .no]) ?_ (step_rt ?_)
        · rcases hxs with rfl | rfl <;> simp [exSs, exS, evE, evT, tstO, bnd, bnS, cmpD, isNo, truD, Opd.rd]
        · have ht : evE u gc (callF u gc T m) (.orr (.isi (.v 1) .tuple) (.isi (.v 1) .list)) [.sh x, .sh x, .no] = some (.ok (.val (.bool true)) [.sh x, .sh x, .no]) := by
            rcases hxs with rfl | rfl <;> simp [evE, bnd, isD, Opd.rd]
          rw [s_ifT ht]
          refine step_nx (ρ1 := [.sh x, .sh x, .no]) ?_ (step_nx (ρ1 := [.sh x, .sh x, .no]) ?_ (step_nx hc (step_rt (by simp [exS, evE, bnS, frz, Opd.fz]))))
          · rcases hxs with rfl | rfl <;> simp [exSs, exS, evE, evT, tstO, bnd, bnS, isD, cmpD, flat, PyData.eqv, truD, Opd.rd]
          · refine (s_ifF (e_cmp (e_b1 (E_var rfl) hlen) (e_b1 (E_var rfl) hlen) (r := false) ?_)).trans (by simp only [exSs])
            simp [cmpD, cmpI]
      rw [run]
      rfl
    cases x with
    | list xs =>
      simp only [fine, Bool.and_eq_true, decide_eq_true_eq] at hx
      exact big xs (.inl rfl) hx.1 hx.2
    | tuple xs =>
      simp only [fine, Bool.and_eq_true, decide_eq_true_eq] at hx
      exact big xs (.inr rfl) hx.1 hx.2
    | dict _ => simp [fine] at hx
    | _ => simp [irSame, exSs, exS, evE, evT, tstO, enter, slotOf, bnd, bnS, isD, cmpD, cmpI, isNo, truD, Opd.rd, frz, Opd.fz, finF, outsL, flat, PyData.eqv]
/-! ### equal to itself -/
mutual
theorem eqv_self : ∀ (n : Nat) (x : D), flat n x = true → PyData.eqv x x = true
  | _, .none, _ => by simp [PyData.eqv]
  | _, .bool _, _ => by simp [PyData.eqv]
  | _, .int _, _ => by simp [PyData.eqv]
  | _, .str _, _ => by simp [PyData.eqv]
  | 0, .list xs, h => by simp [flat] at h
  | 0, .tuple xs, h => by simp [flat] at h
  | n + 1, .list xs, h => by
    have := eqv_selfA n xs (by simpa [flat] using h)
    simp [PyData.eqv, this]
  | n + 1, .tuple xs, h => by
    have := eqv_selfA n xs (by simpa [flat] using h)
    simp [PyData.eqv, this]
  | 0, .dict _, h => by simp [flat] at h
  | n + 1, .dict _, h => by simp [flat] at h
theorem eqv_selfA : ∀ (n : Nat) (xs : List D), flatAll n xs = true → PyData.eqvAll xs xs = true
  | _, [], _ => by simp [PyData.eqvAll]
  | n, x :: xs, h => by
    have h' : flat n x = true ∧ flatAll n xs = true := by simpa [flatAll] using h
    simp [PyData.eqvAll, eqv_self n x h'.1, eqv_selfA n xs h'.2]
end
theorem flatAll_of {n : Nat} : ∀ {xs : List D}, (∀ x ∈ xs, flat n x = true) → flatAll n xs = true
  | [], _ => by simp [flatAll]
  | x :: xs, h => by simp [flatAll, h x List.mem_cons_self, flatAll_of (xs := xs) fun y hy => h y (List.mem_cons_of_mem _ hy)]
theorem cmp_ne_self {x : D} (h : flat deep x = true) : cmpD .NotEq x x = some false := by
  cases x with
  | int i => simp [cmpD, cmpI]
  | _ => simp [cmpD, h, eqv_self _ _ h]
theorem cmp_eq_self {x : D} (h : flat deep x = true) : cmpD .Eq x x = some true := by
  cases x with
  | int i => simp [cmpD, cmpI]
  | _ => simp [cmpD, h, eqv_self _ _ h]
/-- a op1 b op2 c op3 d, all as far as the last true -/
theorem e_ch3 {o o' o2 : CmpOp} {a b d e : E} {x y w v : D} {r : Bool} {ρ ρ1 ρ2 ρ3 ρ4 : Env} (ha : evE u gc c a ρ = some (.ok (.val x) ρ1)) (hb : evE u gc c b ρ1 = some (.ok (.val y) ρ2)) (hd : evE u gc c d ρ2 = some (.ok (.val w) ρ3)) (he : evE u gc c e ρ3 = some (.ok (.val v) ρ4))
    (h1 : cmpD o x y = some true) (h2 : cmpD o' y w = some true) (h3 : cmpD o2 w v = some r) : evE u gc c (.ch3 o o' o2 a b d e) ρ = some (.ok (.val (.bool r)) ρ4) := by
  rw [E_ch3, ha, bnd_ok, hb]; simp [bnd, Opd.rd, h1, hd, h2, he, h3]
/-- [e for x, y, z in ..] -/
theorem lc_map3 {i j l : Nat} (hij : i ≠ j) (hil : i ≠ l) (hjl : j ≠ l) (hi' : i < n) (hj : j < n) (hl' : l < n) {it : It} {ds : List D} {ρ : Env} (hi : evIt u gc c it ρ = some (.ok ds (env n f1))) (hl : ds.length ≤ line) (F : D → D)
    (h : ∀ d ∈ ds, ∃ x y z, d = .tuple [x, y, z] ∧ Gv u gc c e (env n (up (up (up f1 i (.sh x)) j (.sh y)) l (.sh z))) (F d) (env n (up (up (up f1 i (.sh x)) j (.sh y)) l (.sh z)))) :
    evE u gc c (.lc [i, j, l] (.t (.cons (.n i) (.cons (.n j) (.cons (.n l) .nil)))) it .nil e) ρ = some (.ok (.new (ds.map F)) (env n f1)) := by
  have hw : ∀ g : Nat → Slot, wip (env n g) [i, j, l] = env n (up (up (up g l .no) j .no) i .no) := fun g => by
    show (((env n g).set l .no).set j .no).set i .no = _
    rw [env_set, env_set, env_set]
  have := ev_lc (u := u) (gc := gc) (c := c) (own := [i, j, l]) (g := .t (.cons (.n i) (.cons (.n j) (.cons (.n l) .nil)))) (cs := .nil) (e := e) (fun d => some (F d)) hi hl (fun d hd => by
    obtain ⟨x, y, z, rfl, hg⟩ := h d hd
    have e1 : up (up (up (up (up (up f1 l .no) j .no) i .no) i (.sh x)) j (.sh y)) l (.sh z) = up (up (up f1 i (.sh x)) j (.sh y)) l (.sh z) := by
      funext m; unfold up; repeat' split
      all_goals first | rfl | (exfalso; omega)
    refine ⟨env n (up (up (up f1 i (.sh x)) j (.sh y)) l (.sh z)), ?_, ?_⟩
    · unfold Gv at hg
      simp only [stpOf, hw, asgG, asgGs, slot_set hi', slot_set hj, slot_set hl', Option.bind_some, evTs, noEx, e1, hg, Option.map_some]
    · rw [hw, hw]
      congr 1
      funext m; unfold up; repeat' split
      all_goals first | rfl | (exfalso; omega))
  rw [this]
  simp
theorem it_r2_at : evIt u gc c (.r2 a b) ρ = bnd (evE u gc c a ρ) fun x ρ => bnd (evE u gc c b ρ) fun y ρ => match x, y with
    | .val (.int i), .val (.int j) => if okR i && okR j then some (.ok (rngL i 1 (j - i).toNat) ρ) else none
    | _, _ => none := by
  first | (rw [evIt]; done) | (rw [evIt]; rfl)
theorem it_r2 {i j : Int} {ρ1 ρ2 : Env} (ha : evE u gc c a ρ = some (.ok (.val (.int i)) ρ1)) (hb : evE u gc c b ρ1 = some (.ok (.val (.int j)) ρ2)) (hi : okR i = true) (hj : okR j = true) : evIt u gc c (.r2 a b) ρ = some (.ok (rngL i 1 (j - i).toNat) ρ2) := by
  rw [it_r2_at, ha, bnd_ok, hb, bnd_ok]
  exact if_pos (by rw [hi, hj]; rfl)
theorem e_ifeT {d : E} {ρ1 : Env} (h : evE u gc c d ρ = some (.ok (.val (.bool true)) ρ1)) : evE u gc c (.ife d a b) ρ = evE u gc c a ρ1 := by
  rw [E_ife, h]; rfl
theorem e_ifeF {d : E} {ρ1 : Env} (h : evE u gc c d ρ = some (.ok (.val (.bool false)) ρ1)) : evE u gc c (.ife d a b) ρ = evE u gc c b ρ1 := by
  rw [E_ife, h]; rfl
theorem s_ret {x : D} {e : E} {ρ ρ1 : Env} (he : evE u gc c e ρ = some (.ok (.val x) ρ1)) : exS u gc c (.ret e) ρ = some (.rt x ρ1) := by
  rw [S_ret, he]; rfl
theorem s_retL {xs : List D} {e : E} {ρ ρ1 : Env} (he : evE u gc c e ρ = some (.ok (.new xs) ρ1)) : exS u gc c (.ret e) ρ = some (.rt (.list xs) ρ1) := by
  rw [S_ret, he]; rfl
theorem e_isq {e : E} {x : D} {r : Opd} {ρ ρ1 : Env} (ha : evE u gc c e ρ = some (.ok (.val x) ρ1)) (h : isqD [x] = some r) : evE u gc c (.isq e) ρ = some (.ok r ρ1) := by
  rw [E_isq, ha]; simp only [bnd, Opd.rd, Option.bind_some, h, Option.map_some]
theorem b_mul {i j : Int} (h : okMul i j = true) : binD .Mult (.int i) (.int j) = some (.val (.int (i * j))) := by simp [binD, binI, h]
theorem b_mulL {i j : Int} (h : i.natAbs < 18446744073709551616) : binD .Mult (.int i) (.int j) = some (.val (.int (i * j))) := b_mul (okMul_smallL h)
theorem b_mulR {i j : Int} (h : j.natAbs < 18446744073709551616) : binD .Mult (.int i) (.int j) = some (.val (.int (i * j))) := b_mul (okMul_small h)
theorem b_mulB {i j : Int} (h : i.natAbs < 2 ^ 1000) (h2 : j.natAbs < 2 ^ 1000) : binD .Mult (.int i) (.int j) = some (.val (.int (i * j))) := by
  refine b_mul ?_
  unfold okMul big
  have e : (2 : Nat) ^ 1000 ≤ 2 ^ 4000 := Nat.pow_le_pow_right (by decide) (by decide)
  rw [decide_eq_true (Nat.lt_of_lt_of_le h e), decide_eq_true (Nat.lt_of_lt_of_le h2 e)]
  simp
theorem b_fd {i j : Int} (h : 0 < j) (h2 : j.natAbs < 1073741824) : binD .FloorDiv (.int i) (.int j) = some (.val (.int (i / j))) := by
  have h3 : okDiv j = true := by
    unfold okDiv
    rw [decide_eq_true h2]
    simp; omega
  simp only [binD, binI, h3, if_true, Option.map_some, Int.fdiv_eq_ediv_of_nonneg _ (Int.le_of_lt h)]
theorem b_mod {i j : Int} (h : 0 < j) : binD .Mod (.int i) (.int j) = some (.val (.int (i % j))) := by
  have : (j != 0) = true := by simp; omega
  simp only [binD, binI, this, if_true, Option.map_some, Int.fmod_eq_emod_of_nonneg _ (Int.le_of_lt h)]
theorem isq_ok {i : Int} (h0 : 0 ≤ i) (h1 : i < 2 ^ 1000) : isqD [.int i] = some (.val (.int ((PySem.Float64.isqrt i.toNat : Nat) : Int))) := by
  have h2 : i.toNat < 2 ^ (999 + 1) := by
    have : ((i.toNat : Nat) : Int) = i := Int.toNat_of_nonneg h0
    have h3 : ((i.toNat : Nat) : Int) < ((2 ^ (999 + 1) : Nat) : Int) := by rw [this, Int.natCast_pow]; exact h1
    exact Int.ofNat_lt.mp h3
  have h3 := PySem.W.mg_log h2
  simp only [isqD]
  rw [if_pos ⟨h0, by omega⟩]
theorem s_set {i : Nat} {x : D} {e : E} {ρ ρ1 ρ2 : Env} (he : evE u gc c e ρ = some (.ok (.val x) ρ1)) (h : setSlot i (.sh x) ρ1 = some ρ2) : exS u gc c (.asg i e) ρ = some (.nx ρ2) := by
  rw [S_asg, he]; simp only [bnS, frz, Opd.fz, Option.map_some, h]
theorem s_setL {i : Nat} {xs : List D} {e : E} {ρ ρ1 ρ2 : Env} (he : evE u gc c e ρ = some (.ok (.new xs) ρ1)) (h : setSlot i (.sh (.list xs)) ρ1 = some ρ2) : exS u gc c (.asg i e) ρ = some (.nx ρ2) := by
  rw [S_asg, he]; simp only [bnS, frz, Opd.fz, Option.map_some, h]
theorem s_par {gs : Gs} {es : Es} {ds : List D} {ρ ρ1 ρ2 : Env} (he : evEs u gc c es ρ = some (.ok ds ρ1)) (h : asgGs gs ds ρ1 = some ρ2) : exS u gc c (.par gs es) ρ = some (.nx ρ2) := by
  rw [S_par, he]; simp only [bnS, h, Option.map_some]
theorem s_augI {i : Nat} {o : Operator} {e : E} {x y z : Int} {ρ ρ1 ρ2 : Env} (h0 : ρ[i]? = some (.sh (.int x))) (he : evE u gc c e ρ = some (.ok (.val (.int y)) ρ1)) (hb : binI o x y = some z) (h : setSlot i (.sh (.int z)) ρ1 = some ρ2) : exS u gc c (.aug i o e) ρ = some (.nx ρ2) := by
  rw [S_aug, h0]; simp only [he, bnS, Opd.rd, hb, Option.bind_some, h, Option.map_some]
theorem s_ifN {e : E} {t : Ss} {ρ ρ1 : Env} (he : evE u gc c e ρ = some (.ok (.val (.bool false)) ρ1)) : exS u gc c (.ifs e t .nil) ρ = some (.nx ρ1) := (s_ifF he).trans (by simp only [exSs])
theorem ss_nil {ρ : Env} : exSs u gc c .nil ρ = some (.nx ρ) := by simp only [exSs]
theorem e_tupR {es : Es} {xs : List D} {ρ ρ1 : Env} (h : evEs u gc c es ρ = some (.ok xs ρ1)) (hl : xs.length ≤ 1000 := by (simp only [List.length_cons, List.length_nil]; decide)) : evE u gc c (.tup es) ρ = some (.ok (.val (.tuple xs)) ρ1) := e_tup h hl
theorem evT_of {e : E} {ρ ρ1 : Env} {b : Bool} (h : evE u gc c e ρ = some (.ok (.val (.bool b)) ρ1)) : evT u gc c e ρ = some (.ok b ρ1) := by
  simp only [evT, h, bnd, tstO, Opd.rd, truD, Option.bind_some, Option.map_some]
theorem c_lt {x y : Int} {b : Bool} (h : decide (x < y) = b) : cmpD .Lt (.int x) (.int y) = some b := by rw [← h]; rfl
theorem c_le {x y : Int} {b : Bool} (h : decide (x ≤ y) = b) : cmpD .LtE (.int x) (.int y) = some b := by rw [← h]; rfl
theorem c_gt {x y : Int} {b : Bool} (h : decide (y < x) = b) : cmpD .Gt (.int x) (.int y) = some b := by rw [← h]; rfl
theorem c_ge {x y : Int} {b : Bool} (h : decide (y ≤ x) = b) : cmpD .GtE (.int x) (.int y) = some b := by rw [← h]; rfl
theorem c_eq {x y : Int} {b : Bool} (h : decide (x = y) = b) : cmpD .Eq (.int x) (.int y) = some b := by rw [← h]; rfl
theorem c_ne {x y : Int} {b : Bool} (h : (!decide (x = y)) = b) : cmpD .NotEq (.int x) (.int y) = some b := by rw [← h]; rfl
/-- a draw in a frame given by its slots -/
theorem e_drawL {k j : Nat} {b' : Bool} {xs ys : List D} {y w : D} {ρ ρ1 ρ2 : Env} (h : ∃ xs0, ρ[j]? = some (.ol b' xs0)) (hb : Gv u gc c b ρ y ρ1) (h1 : ρ1[j]? = some (.ol b' xs)) (hc : c k [.al xs, .av y] = some (.ok w [ys])) (h2 : ρ1.set j (.ol b' ys) = ρ2) : evE u gc c (.call k (.bo j (.ex b .nil))) ρ = some (.ok (.val w) ρ2) := by
  obtain ⟨xs0, h⟩ := h
  rw [E_call]
  have e1 : evAs u gc c (.bo j (.ex b .nil)) ρ = some (.ok [.al j, .av y] ρ1) := by
    simp only [evAs, h]
    rw [gv_of hb]; rfl
  rw [e1]
  simp only [bnd_ok, doCall, bos, collect, h1, Option.map_some]
  simp [hc, putB, h1, h2]
theorem s_asgG {g : G} {x : D} {ρ ρ1 ρ2 : Env} (he : evE u gc c e ρ = some (.ok (.val x) ρ1)) (h : asgG g x ρ1 = some ρ2) : exS u gc c (.asgG g e) ρ = some (.nx ρ2) := by
  rw [S_asgG, he]; simp only [bnS, frz, Opd.fz, Option.map_some, h]
theorem s_forL {g : G} {it : It} {bd : Ss} {ds : List D} {ρ ρ1 : Env} {r : Option SOut} (hi : evIt u gc c it ρ = some (.ok ds ρ1)) (h : forL (fun d ρ => (asgG g d ρ).bind fun ρ => exSs u gc c bd ρ) ds ρ1 = r) : exS u gc c (.forr g it bd) ρ = r := by
  rw [S_forr, hi]; exact h
theorem e_appL {j : Nat} {b' : Bool} {xs : List D} {x : D} {ρ ρ1 ρ2 : Env} (h : ∃ xs0, ρ[j]? = some (.ol b' xs0)) (ha : Gv u gc c e ρ x ρ1) (h1 : ρ1[j]? = some (.ol b' xs)) (hl : xs.length < line) (h2 : ρ1.set j (.ol b' (xs ++ [x])) = ρ2) : evE u gc c (.app j e) ρ = some (.ok (.val .none) ρ2) := by
  obtain ⟨xs0, h⟩ := h
  rw [E_app]
  simp only [h]
  rw [gv_of ha]
  simp only [h1]
  rw [if_pos hl, h2]
theorem s_exp {r : Opd} {ρ ρ1 : Env} (he : evE u gc c e ρ = some (.ok r ρ1)) : exS u gc c (.ex e) ρ = some (.nx ρ1) := by
  rw [S_ex, he]; rfl
/-- an own list, where it is read -/
theorem e_vo {j : Nat} {b' : Bool} {xs : List D} {ρ : Env} (h : ρ[j]? = some (.ol b' xs)) : evE u gc c (.v j) ρ = some (.ok (.own j) ρ) := by
  simp only [evE, h]
theorem e_ixG {z : D} {p q : Opd} {ρ ρ1 ρ2 : Env} (ha : evE u gc c a ρ = some (.ok p ρ1)) (hb : evE u gc c b ρ1 = some (.ok q ρ2)) (h : ((p.rd ρ2).bind fun x => (q.rd ρ2).bind fun y => ixD x y) = some z) : evE u gc c (.ix a b) ρ = some (.ok (.val z) ρ2) := by
  rw [E_ix, ha, bnd_ok, hb, bnd_ok]
  cases hp : p.rd ρ2 with
  | none => rw [hp] at h; cases h
  | some x =>
    cases hq : q.rd ρ2 with
    | none => rw [hp, hq] at h; cases h
    | some y => rw [hp, hq] at h; simp only [Option.bind_some] at h ⊢; rw [h]; rfl
theorem e_b1G {bb : BI} {p : Opd} {r : Opd} {ρ ρ1 : Env} (ha : evE u gc c a ρ = some (.ok p ρ1)) (h : ((p.rd ρ1).bind fun x => biD bb [x]) = some r) : evE u gc c (.b1 bb a) ρ = some (.ok r ρ1) := by
  rw [E_b1, ha, bnd_ok]
  cases hp : p.rd ρ1 with
  | none => rw [hp] at h; cases h
  | some x => rw [hp] at h; simp only [Option.bind_some] at h ⊢; rw [h]; rfl
end
end RX

end
section
set_option Elab.async false
set_option linter.all false
set_option maxRecDepth 100000
set_option maxHeartbeats 4000000
set_option autoImplicit false
/-! plain: rules for walking an IR by one tactic -/
namespace RX
open PySem
section
variable {u : Sub} {gc : List D} {c : CF} {a b d e t : E} {p q r w : Opd} {x y z v : D} {ρ ρ1 ρ2 ρ3 ρ4 : Env}
/-! ### what operators make -/
theorem b_add {i j : Int} : binD .Add (.int i) (.int j) = some (.val (.int (i + j))) := rfl
theorem b_sub {i j : Int} : binD .Sub (.int i) (.int j) = some (.val (.int (i - j))) := rfl
theorem b_lcat {xs ys : List D} (h : xs.length + ys.length ≤ line) : binD .Add (.list xs) (.list ys) = some (.new (xs ++ ys)) := if_pos h
theorem b_tcat {xs ys : List D} (h : xs.length + ys.length ≤ line) : binD .Add (.tuple xs) (.tuple ys) = some (.val (.tuple (xs ++ ys))) := if_pos h
theorem b_trep {xs : List D} {k : Int} (h : -1000 ≤ k ∧ k ≤ 1000 ∧ xs.length ≤ 1000) : binD .Mult (.tuple xs) (.int k) = some (.val (.tuple (rep xs k.toNat))) := if_pos h
theorem b_lrep {xs : List D} {k : Int} (h : k ≤ 16777216 ∧ -16777216 ≤ k ∧ xs.length * k.toNat ≤ line) : binD .Mult (.list xs) (.int k) = some (.new (rep xs k.toNat)) := if_pos h
theorem rep_one' {α : Type} (x : α) : ∀ n : Nat, rep [x] n = List.replicate n x
  | 0 => rfl
  | n + 1 => by
    have := rep_one' x n
    unfold rep at *
    rw [List.replicate_succ, List.flatten_cons, this]; rfl
theorem b_trep1 {x : Int} {k : Int} (h : -1000 ≤ k ∧ k ≤ 1000) : binD .Mult (.tuple [.int x]) (.int k) = some (.val (.tuple ((List.replicate k.toNat x).map .int))) := by
  rw [b_trep ⟨h.1, h.2, by simp⟩, rep_one', List.map_replicate]
theorem b_tcatI {x : Int} {xs : List Int} (h : xs.length ≤ 1000) : binD .Add (.tuple [.int x]) (.tuple (xs.map .int)) = some (.val (.tuple ((x :: xs).map .int))) := by
  rw [b_tcat (by rw [List.length_map]; unfold line; simp; omega)]; rfl
theorem b_tcatM {xs ys : List Int} (h : xs.length + ys.length ≤ line) : binD .Add (.tuple (xs.map .int)) (.tuple (ys.map .int)) = some (.val (.tuple ((xs ++ ys).map .int))) := by
  rw [b_tcat (by rw [List.length_map, List.length_map]; exact h), List.map_append]
theorem b_lcatM {xs ys : List Int} (h : xs.length + ys.length ≤ line) : binD .Add (.list (xs.map .int)) (.list (ys.map .int)) = some (.new ((xs ++ ys).map .int)) := by
  rw [b_lcat (by rw [List.length_map, List.length_map]; exact h), List.map_append]
theorem b_pow {i : Int} {j : Nat} (h : j ≤ 1000000) (h2 : i.natAbs < 18446744073709551616) : binD .Pow (.int i) (.int (j : Nat)) = some (.val (.int (i ^ j))) := by
  have : okPow i (j : Nat) = true := by simp [okPow, h2]; omega
  simp [binD, binI, this]
theorem b_shl {i : Int} {j : Nat} (h : j ≤ 1000000) (h2 : i.natAbs < 18446744073709551616) : binD .LShift (.int i) (.int (j : Nat)) = some (.val (.int (i * 2 ^ j))) := by
  have : okPow i (j : Nat) = true := by simp [okPow, h2]; omega
  simp [binD, binI, this]
/-! ### the rules -/
theorem v_bin {o : Operator} (ha : evE u gc c a ρ = some (.ok p ρ1)) (hb : evE u gc c b ρ1 = some (.ok q ρ2)) (hp : p.rd ρ2 = some x) (hq : q.rd ρ2 = some y) (h : binD o x y = some r) : evE u gc c (.bin o a b) ρ = some (.ok r ρ2) := by
  rw [E_bin, ha, bnd_ok, hb, bnd_ok, hp, Option.bind_some, hq, Option.bind_some, h]; rfl
theorem v_cmp {o : CmpOp} {s : Bool} (ha : evE u gc c a ρ = some (.ok p ρ1)) (hb : evE u gc c b ρ1 = some (.ok q ρ2)) (hp : p.rd ρ2 = some x) (hq : q.rd ρ2 = some y) (h : cmpD o x y = some s) : evE u gc c (.cmp o a b) ρ = some (.ok (.val (.bool s)) ρ2) := by
  rw [E_cmp, ha, bnd_ok, hb, bnd_ok, hp, Option.bind_some, hq, Option.bind_some, h]; rfl
theorem v_chF {o o' : CmpOp} (ha : evE u gc c a ρ = some (.ok p ρ1)) (hb : evE u gc c b ρ1 = some (.ok q ρ2)) (hp : p.rd ρ2 = some x) (hq : q.rd ρ2 = some y) (h : cmpD o x y = some false) : evE u gc c (.ch o o' a b d) ρ = some (.ok (.val (.bool false)) ρ2) := by
  rw [E_ch, ha, bnd_ok, hb, bnd_ok, hp, Option.bind_some, hq, Option.bind_some, h]; rfl
theorem v_chT {o o' : CmpOp} {s : Bool} (ha : evE u gc c a ρ = some (.ok p ρ1)) (hb : evE u gc c b ρ1 = some (.ok q ρ2)) (hp : p.rd ρ2 = some x) (hq : q.rd ρ2 = some y) (h : cmpD o x y = some true)
    (hd : evE u gc c d ρ2 = some (.ok r ρ3)) (hq3 : q.rd ρ3 = some z) (hr : r.rd ρ3 = some v) (h2 : cmpD o' z v = some s) : evE u gc c (.ch o o' a b d) ρ = some (.ok (.val (.bool s)) ρ3) := by
  rw [E_ch, ha, bnd_ok, hb, bnd_ok, hp, Option.bind_some, hq, Option.bind_some, h]
  show bnd (evE u gc c d ρ2) _ = _
  rw [hd, bnd_ok, hq3, Option.bind_some, hr, Option.bind_some, h2]; rfl
theorem v_chB {o o' : CmpOp} {s s' : Bool} (ha : evE u gc c a ρ = some (.ok p ρ1)) (hb : evE u gc c b ρ1 = some (.ok (.val y) ρ2)) (hp : p.rd ρ2 = some x) (h : cmpD o x y = some s)
    (hd : evE u gc c d ρ2 = some (.ok r ρ2)) (hr : r.rd ρ2 = some v) (h2 : cmpD o' y v = some s') : evE u gc c (.ch o o' a b d) ρ = some (.ok (.val (.bool (s && s'))) ρ2) := by
  cases s with
  | false => exact v_chF ha hb hp rfl h
  | true => exact v_chT ha hb hp rfl h hd rfl hr h2
theorem v_neg {i : Int} (ha : evE u gc c a ρ = some (.ok p ρ1)) (hp : p.rd ρ1 = some (.int i)) : evE u gc c (.neg a) ρ = some (.ok (.val (.int (-i))) ρ1) := by
  rw [E_neg, ha, bnd_ok, hp]
theorem v_not {s : Bool} (ha : evE u gc c a ρ = some (.ok p ρ1)) (hp : p.rd ρ1 = some x) (ht : truD x = some s) : evE u gc c (.no a) ρ = some (.ok (.val (.bool (!s))) ρ1) := by
  rw [E_no, ha]
  simp only [tstO, bnd_ok, hp, Option.bind_some, ht, Option.map_some]
theorem v_anB {s s' : Bool} (ha : evE u gc c a ρ = some (.ok (.val (.bool s)) ρ1)) (hb : evE u gc c b ρ1 = some (.ok (.val (.bool s')) ρ1)) : evE u gc c (.an a b) ρ = some (.ok (.val (.bool (s && s'))) ρ1) := by
  cases s with
  | false => exact e_anF ha
  | true => exact (e_anT ha).trans hb
/-- the second holds only if the first does -/
theorem v_anC {s s' : Bool} (ha : evE u gc c a ρ = some (.ok (.val (.bool s)) ρ1)) (hb : s = true → evE u gc c b ρ1 = some (.ok (.val (.bool s')) ρ1)) : evE u gc c (.an a b) ρ = some (.ok (.val (.bool (s && s'))) ρ1) := by
  cases s with
  | false => exact e_anF ha
  | true => exact (e_anT ha).trans (hb rfl)
theorem v_orB {s s' : Bool} (ha : evE u gc c a ρ = some (.ok (.val (.bool s)) ρ1)) (hb : evE u gc c b ρ1 = some (.ok (.val (.bool s')) ρ1)) : evE u gc c (.orr a b) ρ = some (.ok (.val (.bool (s || s'))) ρ1) := by
  cases s with
  | false => exact (e_orF ha).trans hb
  | true => exact e_orT ha
theorem v_orC {s s' : Bool} (ha : evE u gc c a ρ = some (.ok (.val (.bool s)) ρ1)) (hb : s = false → evE u gc c b ρ1 = some (.ok (.val (.bool s')) ρ1)) : evE u gc c (.orr a b) ρ = some (.ok (.val (.bool (s || s'))) ρ1) := by
  cases s with
  | false => exact (e_orF ha).trans (hb rfl)
  | true => exact e_orT ha
theorem v_ifeT (ha : evE u gc c d ρ = some (.ok p ρ1)) (hp : p.rd ρ1 = some x) (ht : truD x = some true) (h : evE u gc c a ρ1 = some (.ok r ρ2)) : evE u gc c (.ife d a b) ρ = some (.ok r ρ2) := by
  rw [E_ife, ha]; simp only [tstO, bnd_ok, hp, Option.bind_some, ht, Option.map_some]; exact h
theorem v_ifeF (ha : evE u gc c d ρ = some (.ok p ρ1)) (hp : p.rd ρ1 = some x) (ht : truD x = some false) (h : evE u gc c b ρ1 = some (.ok r ρ2)) : evE u gc c (.ife d a b) ρ = some (.ok r ρ2) := by
  rw [E_ife, ha]; simp only [tstO, bnd_ok, hp, Option.bind_some, ht, Option.map_some]; exact h
theorem v_ifeI {s : Bool} {i j : Int} (ha : evE u gc c d ρ = some (.ok p ρ1)) (hp : p.rd ρ1 = some x) (ht : truD x = some s) (h1 : evE u gc c a ρ1 = some (.ok (.val (.int i)) ρ1)) (h2 : evE u gc c b ρ1 = some (.ok (.val (.int j)) ρ1)) : evE u gc c (.ife d a b) ρ = some (.ok (.val (.int (if s then i else j))) ρ1) := by
  cases s with
  | true => exact v_ifeT ha hp ht h1
  | false => exact v_ifeF ha hp ht h2
theorem v_ifeB {s : Bool} (ha : evE u gc c d ρ = some (.ok p ρ1)) (hp : p.rd ρ1 = some x) (ht : truD x = some s) (h1 : evE u gc c a ρ1 = some (.ok (.val y) ρ1)) (h2 : evE u gc c b ρ1 = some (.ok (.val z) ρ1)) : evE u gc c (.ife d a b) ρ = some (.ok (.val (if s then y else z)) ρ1) := by
  cases s with
  | true => exact v_ifeT ha hp ht h1
  | false => exact v_ifeF ha hp ht h2
theorem v_ix (ha : evE u gc c a ρ = some (.ok p ρ1)) (hb : evE u gc c b ρ1 = some (.ok q ρ2)) (hp : p.rd ρ2 = some x) (hq : q.rd ρ2 = some y) (h : ixD x y = some z) : evE u gc c (.ix a b) ρ = some (.ok (.val z) ρ2) := by
  rw [E_ix, ha, bnd_ok, hb, bnd_ok, hp, Option.bind_some, hq, Option.bind_some, h]; rfl
theorem p_no : evP u gc c .no ρ = some (.ok none ρ) := by simp only [evP]
theorem p_so {i : Int} (ha : evE u gc c a ρ = some (.ok p ρ1)) (hp : p.rd ρ1 = some (.int i)) : evP u gc c (.so a) ρ = some (.ok (some i) ρ1) := by
  simp only [evP]; rw [ha, bnd_ok, hp]
theorem v_sl {lo hi : P} {l h : Option Int} (ha : evE u gc c a ρ = some (.ok p ρ1)) (h1 : evP u gc c lo ρ1 = some (.ok l ρ2)) (h2 : evP u gc c hi ρ2 = some (.ok h ρ3)) (hp : p.rd ρ3 = some x) (hs : slD x l h = some r) : evE u gc c (.sl a lo hi) ρ = some (.ok r ρ3) := by
  rw [E_sl, ha, bnd_ok, h1, bnd_ok, h2, bnd_ok, hp, Option.bind_some, hs]; rfl
theorem v_b1 {bb : BI} (ha : evE u gc c a ρ = some (.ok p ρ1)) (hp : p.rd ρ1 = some x) (h : biD bb [x] = some r) : evE u gc c (.b1 bb a) ρ = some (.ok r ρ1) := by
  rw [E_b1, ha, bnd_ok, hp, Option.bind_some, h]; rfl
theorem v_b2 {bb : BI} (ha : evE u gc c a ρ = some (.ok p ρ1)) (hb : evE u gc c b ρ1 = some (.ok q ρ2)) (hp : p.rd ρ2 = some x) (hq : q.rd ρ2 = some y) (h : biD bb [x, y] = some r) : evE u gc c (.b2 bb a b) ρ = some (.ok r ρ2) := by
  rw [E_b2, ha, bnd_ok, hb, bnd_ok, hp, Option.bind_some, hq, Option.bind_some, h]; rfl
theorem v_isi {ty : Ty} {s : Bool} (ha : evE u gc c a ρ = some (.ok p ρ1)) (hp : p.rd ρ1 = some x) (h : isD ty x = some s) : evE u gc c (.isi a ty) ρ = some (.ok (.val (.bool s)) ρ1) := by
  rw [E_isi, ha, bnd_ok, hp, Option.bind_some, h]; rfl
theorem v_isx {i : Nat} {cl y : Str} {s : Bool} (h : ρ[i]? = some (.ex y)) (h2 : u y cl = some s) : evE u gc c (.isx i cl) ρ = some (.ok (.val (.bool s)) ρ) := by
  rw [E_isx, h]; simp only [h2, Option.map_some]
theorem v_gi {j : Nat} (h : gc[j]? = some x) : evE u gc c (.gi j) ρ = some (.ok (.val x) ρ) := by rw [E_gi, h]; rfl
/-- whatever is handed on -/
theorem v_gv (h : evE u gc c e ρ = some (.ok p ρ1)) (h2 : p.fz ρ1 = some (x, ρ2)) : Gv u gc c e ρ x ρ2 := by
  unfold Gv; rw [h, bnd_ok]; unfold frz; rw [h2]
/-! ### calls -/
theorem v_callX {k : Nat} {as : As} {xs : List D} {s : Str} (h : Ga u gc c as ρ xs ρ1) (hc : c k (xs.map .av) = some (.ex s [])) : evE u gc c (.call k as) ρ = some (.ex s ρ1) := by
  unfold Ga at h
  rw [E_call, h, bnd_ok, doCall, bos_av, if_pos List.nodup_nil, collect_av, Option.bind_some, hc]
  rfl
/-! ### iterables -/
abbrev natD (i : Nat) : D := .int (i : Int)
theorem i_seq {xs : List D} (ha : Gv u gc c a ρ x ρ1) (h : itemsD x = some xs) : evIt u gc c (.seq a) ρ = some (.ok xs ρ1) := by
  simp only [evIt]; rw [gv_of ha, h]; rfl
theorem rng_nat {n : Nat} : rngL 0 1 n = (List.range n).map natD := by
  unfold rngL
  refine List.map_congr_left fun i _ => ?_
  show PyData.int _ = PyData.int _
  congr 1
  omega
theorem rng_from {i : Int} {n : Nat} : rngL i 1 n = (List.range n).map fun (k : Nat) => .int (i + (k : Nat)) := by
  unfold rngL
  refine List.map_congr_left fun k _ => ?_
  show PyData.int _ = PyData.int _
  congr 1
  omega
theorem i_r1 {j : Int} (ha : evE u gc c a ρ = some (.ok (.val (.int j)) ρ1)) (hj : okR j = true) : evIt u gc c (.r1 a) ρ = some (.ok ((List.range j.toNat).map natD) ρ1) := by
  rw [← rng_nat]; exact it_r1 ha hj
theorem i_r1n {n : Nat} (ha : evE u gc c a ρ = some (.ok (.val (.int (n : Nat))) ρ1)) (hj : n ≤ line) : evIt u gc c (.r1 a) ρ = some (.ok ((List.range n).map natD) ρ1) := by
  rw [← rng_nat]; exact it_r1n ha hj
theorem i_r2 {i j : Int} (ha : evE u gc c a ρ = some (.ok (.val (.int i)) ρ1)) (hb : evE u gc c b ρ1 = some (.ok (.val (.int j)) ρ2)) (hi : okR i = true) (hj : okR j = true) : evIt u gc c (.r2 a b) ρ = some (.ok ((List.range (j - i).toNat).map fun (k : Nat) => .int (i + (k : Nat))) ρ2) := by
  rw [← rng_from]; exact it_r2 ha hb hi hj
theorem enu_map {α : Type} (enc : α → D) : ∀ (i : Nat) (xs : List α), enuL i (xs.map enc) = (xs.zipIdx i).map fun p => .tuple [.int (p.2 : Nat), enc p.1]
  | _, [] => rfl
  | i, x :: xs => by
    simp only [List.map_cons, enuL, List.zipIdx_cons]
    rw [enu_map enc (i + 1) xs]
theorem i_enu {α : Type} {enc : α → D} {xs : List α} (ha : Gv u gc c a ρ x ρ1) (h : itemsE x = some (xs.map enc)) : evIt u gc c (.enu a) ρ = some (.ok ((xs.zipIdx 0).map fun p => .tuple [.int (p.2 : Nat), enc p.1]) ρ1) := by
  simp only [evIt]; rw [gv_of ha, h, ← enu_map]; rfl
theorem i_rev {xs : List D} (ha : Gv u gc c a ρ x ρ1) (h : itemsD x = some xs) : evIt u gc c (.rev a) ρ = some (.ok xs.reverse ρ1) := by
  simp only [evIt]; rw [gv_of ha, h]; rfl
/-! ### comprehensions that change nothing -/
section
variable {α : Type} {own : List Nat} {g : G} {it : It} {cs : Es} {xs : List α} {enc : α → D}
theorem stp_yes {d0 : D} (h1 : asgG g d0 ρ = some ρ1) (h2 : evTs u gc c cs ρ1 = some (.ok true ρ2)) (h3 : Gv u gc c e ρ2 x ρ3) : stpOf u gc c g cs e d0 ρ = some (some x, ρ3) := by
  unfold stpOf
  rw [h1, Option.bind_some, h2]
  show Option.map _ (noEx (bnd (evE u gc c e ρ2) _)) = _
  unfold Gv at h3
  rw [h3]; rfl
theorem stp_no {d0 : D} (h1 : asgG g d0 ρ = some ρ1) (h2 : evTs u gc c cs ρ1 = some (.ok false ρ2)) : stpOf u gc c g cs e d0 ρ = some (none, ρ2) := by
  unfold stpOf
  rw [h1, Option.bind_some, h2]; rfl
theorem ts_nil : evTs u gc c .nil ρ = some (.ok true ρ) := by simp only [evTs]
theorem ts_one' {s : Bool} (ha : evE u gc c t ρ = some (.ok p ρ1)) (hp : p.rd ρ1 = some x) (ht : truD x = some s) : evTs u gc c (.cons t .nil) ρ = some (.ok s ρ1) := by
  simp only [evTs]
  rw [ha]; simp only [tstO, bnd_ok, hp, Option.bind_some, ht, Option.map_some]
  cases s <;> rfl
theorem fm_map {β γ : Type} (f : β → γ) : ∀ xs : List β, xs.filterMap (fun a => some (f a)) = xs.map f
  | [] => rfl
  | x :: xs => by rw [List.filterMap_cons, fm_map f xs]; rfl
theorem fm_filt {β γ : Type} (f : β → γ) (pr : β → Bool) : ∀ xs : List β, xs.filterMap (fun a => if pr a then some (f a) else none) = (xs.filter pr).map f
  | [] => rfl
  | x :: xs => by
    rw [List.filterMap_cons, fm_filt f pr xs, List.filter_cons]
    cases pr x <;> rfl
theorem lcL_map {stp : D → Env → Option (Option D × Env)} (f : α → Option D) : ∀ {xs : List α} {ρ ρ0 : Env}, wip ρ own = wip ρ0 own → (∀ a ∈ xs, ∃ ρ', stp (enc a) (wip ρ0 own) = some (f a, ρ') ∧ wip ρ' own = wip ρ0 own) → ∃ ρ', lcL own stp (xs.map enc) ρ = some (xs.filterMap f, ρ') ∧ wip ρ' own = wip ρ0 own
  | [], ρ, ρ0, hw, _ => ⟨ρ, rfl, hw⟩
  | d :: ds, ρ, ρ0, hw, h => by
    obtain ⟨ρ1, e1, e2⟩ := h d List.mem_cons_self
    obtain ⟨ρ2, e3, e4⟩ := lcL_map f (xs := ds) e2 fun d hd => h d (List.mem_cons_of_mem _ hd)
    refine ⟨ρ2, ?_, e4⟩
    simp only [List.map_cons, lcL, hw, e1, Option.bind_some, e3, Option.map_some]
    cases hf : f d <;> simp [ocons, hf]
theorem v_lcM (f : α → Option D) (hi : evIt u gc c it ρ = some (.ok (xs.map enc) ρ1)) (hl : xs.length ≤ line) (h : ∀ a ∈ xs, ∃ ρ', stpOf u gc c g cs e (enc a) (wip ρ1 own) = some (f a, ρ') ∧ wip ρ' own = wip ρ1 own) : evE u gc c (.lc own g it cs e) ρ = some (.ok (.new (xs.filterMap f)) ρ1) := by
  obtain ⟨ρ', e1, e2⟩ := lcL_map (own := own) f (ρ := ρ1) (ρ0 := ρ1) rfl h
  rw [evE_lc, hi]
  simp only [bnd_ok, List.length_map, if_pos hl, e1, Option.map_some, unw_wip e2, unw_self]
theorem v_lc {F : α → D} (hi : evIt u gc c it ρ = some (.ok (xs.map enc) ρ1)) (hl : xs.length ≤ line) (h : ∀ a ∈ xs, ∃ ρ2 ρ3, asgG g (enc a) (wip ρ1 own) = some ρ2 ∧ Gv u gc c e ρ2 (F a) ρ3 ∧ wip ρ3 own = wip ρ1 own) :
    evE u gc c (.lc own g it .nil e) ρ = some (.ok (.new (xs.map F)) ρ1) := by
  rw [← fm_map F xs]
  exact v_lcM _ hi hl fun a ha => let ⟨ρ2, ρ3, h1, h2, h3⟩ := h a ha; ⟨ρ3, stp_yes h1 ts_nil h2, h3⟩
theorem v_lcI {F : α → Int} (hi : evIt u gc c it ρ = some (.ok (xs.map enc) ρ1)) (hl : xs.length ≤ line) (h : ∀ a ∈ xs, ∃ ρ2 ρ3, asgG g (enc a) (wip ρ1 own) = some ρ2 ∧ Gv u gc c e ρ2 (.int (F a)) ρ3 ∧ wip ρ3 own = wip ρ1 own) :
    evE u gc c (.lc own g it .nil e) ρ = some (.ok (.new ((xs.map F).map .int)) ρ1) := by
  rw [List.map_map]
  exact v_lc (F := fun a => .int (F a)) hi hl h
theorem v_lcf {F : α → D} {pr : α → Bool} (hi : evIt u gc c it ρ = some (.ok (xs.map enc) ρ1)) (hl : xs.length ≤ line) (h : ∀ a ∈ xs, ∃ ρ2 ρ3, asgG g (enc a) (wip ρ1 own) = some ρ2 ∧ evTs u gc c cs ρ2 = some (.ok (pr a) ρ3) ∧ wip ρ3 own = wip ρ1 own ∧ (pr a = true → ∃ ρ4, Gv u gc c e ρ3 (F a) ρ4 ∧ wip ρ4 own = wip ρ1 own)) :
    evE u gc c (.lc own g it cs e) ρ = some (.ok (.new ((xs.filter pr).map F)) ρ1) := by
  rw [← fm_filt F pr xs]
  refine v_lcM _ hi hl fun a ha => ?_
  obtain ⟨ρ2, ρ3, h1, h2, h3, h4⟩ := h a ha
  cases hp : pr a with
  | false => rw [hp] at h2; exact ⟨ρ3, by simpa using stp_no h1 h2, h3⟩
  | true =>
    rw [hp] at h2
    obtain ⟨ρ4, h5, h6⟩ := h4 hp
    exact ⟨ρ4, by simpa using stp_yes h1 h2 h5, h6⟩
theorem v_lcfI {F : α → Int} {pr : α → Bool} (hi : evIt u gc c it ρ = some (.ok (xs.map enc) ρ1)) (hl : xs.length ≤ line) (h : ∀ a ∈ xs, ∃ ρ2 ρ3, asgG g (enc a) (wip ρ1 own) = some ρ2 ∧ evTs u gc c cs ρ2 = some (.ok (pr a) ρ3) ∧ wip ρ3 own = wip ρ1 own ∧ (pr a = true → ∃ ρ4, Gv u gc c e ρ3 (.int (F a)) ρ4 ∧ wip ρ4 own = wip ρ1 own)) :
    evE u gc c (.lc own g it cs e) ρ = some (.ok (.new (((xs.filter pr).map F).map .int)) ρ1) := by
  rw [List.map_map]
  exact v_lcf (F := fun a => .int (F a)) hi hl h
/-! ### generator expressions that change nothing -/
theorem evE_gq {gk : GK} : evE u gc c (.gq gk own g it cs e) ρ = bnd (evIt u gc c it ρ) fun xs ρ => if xs.length ≤ line then (gqR gk own (stpOf u gc c g cs e) xs ρ).map fun p => .ok (.val p.1) (unw ρ p.2 own) else none := by
  simp only [evE]; rfl
theorem untL_map {stp : D → Env → Option (Option D × Env)} {b0 : Bool} (f : α → Bool) : ∀ {xs : List α} {ρ ρ0 : Env}, wip ρ own = wip ρ0 own → (∀ a ∈ xs, ∃ ρ', stp (enc a) (wip ρ0 own) = some (some (.bool (f a)), ρ') ∧ wip ρ' own = wip ρ0 own) → ∃ ρ', untL own stp b0 (xs.map enc) ρ = some ((if b0 then xs.any f else xs.all f), ρ') ∧ wip ρ' own = wip ρ0 own
  | [], ρ, ρ0, hw, _ => ⟨ρ, by cases b0 <;> rfl, hw⟩
  | d :: ds, ρ, ρ0, hw, h => by
    obtain ⟨ρ1, e1, e2⟩ := h d List.mem_cons_self
    obtain ⟨ρ2, e3, e4⟩ := untL_map (b0 := b0) f (xs := ds) e2 fun d hd => h d (List.mem_cons_of_mem _ hd)
    simp only [List.map_cons, untL, hw, e1, Option.bind_some, List.any_cons, List.all_cons]
    by_cases hf : f d = b0
    · refine ⟨ρ1, ?_, e2⟩
      rw [if_pos hf, hf]
      cases b0 <;> simp
    · refine ⟨ρ2, ?_, e4⟩
      rw [if_neg hf, e3]
      have : f d = !b0 := by
        cases b0 <;> cases hd : f d
        · exact (hf hd).elim
        · rfl
        · rfl
        · exact (hf hd).elim
      rw [this]
      cases b0 <;> simp
theorem v_all {F : α → Bool} (hi : evIt u gc c it ρ = some (.ok (xs.map enc) ρ1)) (hl : xs.length ≤ line) (h : ∀ a ∈ xs, ∃ ρ2 ρ3, asgG g (enc a) (wip ρ1 own) = some ρ2 ∧ Gv u gc c e ρ2 (.bool (F a)) ρ3 ∧ wip ρ3 own = wip ρ1 own) :
    evE u gc c (.gq .all own g it .nil e) ρ = some (.ok (.val (.bool (xs.all F))) ρ1) := by
  obtain ⟨ρ', e1, e2⟩ := untL_map (own := own) (enc := enc) (stp := stpOf u gc c g .nil e) (b0 := false) F (ρ := ρ1) (ρ0 := ρ1) rfl fun a ha => let ⟨ρ2, ρ3, h1, h2, h3⟩ := h a ha; ⟨ρ3, stp_yes h1 ts_nil h2, h3⟩
  rw [evE_gq, hi]
  simp only [bnd_ok, List.length_map, if_pos hl, gqR, e1, Option.map_some, unw_wip e2, unw_self]
  rfl
theorem v_any {F : α → Bool} (hi : evIt u gc c it ρ = some (.ok (xs.map enc) ρ1)) (hl : xs.length ≤ line) (h : ∀ a ∈ xs, ∃ ρ2 ρ3, asgG g (enc a) (wip ρ1 own) = some ρ2 ∧ Gv u gc c e ρ2 (.bool (F a)) ρ3 ∧ wip ρ3 own = wip ρ1 own) :
    evE u gc c (.gq .any own g it .nil e) ρ = some (.ok (.val (.bool (xs.any F))) ρ1) := by
  obtain ⟨ρ', e1, e2⟩ := untL_map (own := own) (enc := enc) (stp := stpOf u gc c g .nil e) (b0 := true) F (ρ := ρ1) (ρ0 := ρ1) rfl fun a ha => let ⟨ρ2, ρ3, h1, h2, h3⟩ := h a ha; ⟨ρ3, stp_yes h1 ts_nil h2, h3⟩
  rw [evE_gq, hi]
  simp only [bnd_ok, List.length_map, if_pos hl, gqR, e1, Option.map_some, unw_wip e2, unw_self]
  rfl
theorem intsOf_map : ∀ ns : List Int, intsOf (ns.map .int) = some ns
  | [] => rfl
  | n :: ns => by simp only [List.map_cons, intsOf, intsOf_map ns, Option.map_some]
theorem v_gsum {F : α → Int} (hi : evIt u gc c it ρ = some (.ok (xs.map enc) ρ1)) (hl : xs.length ≤ line) (h : ∀ a ∈ xs, ∃ ρ2 ρ3, asgG g (enc a) (wip ρ1 own) = some ρ2 ∧ Gv u gc c e ρ2 (.int (F a)) ρ3 ∧ wip ρ3 own = wip ρ1 own) :
    evE u gc c (.gq .sum own g it .nil e) ρ = some (.ok (.val (.int (xs.map F).sum)) ρ1) := by
  obtain ⟨ρ', e1, e2⟩ := lcL_map (own := own) (enc := enc) (stp := stpOf u gc c g .nil e) (fun a => some (.int (F a))) (ρ := ρ1) (ρ0 := ρ1) rfl fun a ha => let ⟨ρ2, ρ3, h1, h2, h3⟩ := h a ha; ⟨ρ3, stp_yes h1 ts_nil h2, h3⟩
  rw [evE_gq, hi]
  have e4 : xs.filterMap (fun a => some (PyData.int (F a))) = (xs.map F).map .int := by rw [fm_map (fun a => PyData.int (F a)), List.map_map]; rfl
  simp only [bnd_ok, List.length_map, if_pos hl, gqR, e1, e4, intsOf_map, Option.bind_some, Option.map_some, unw_wip e2, unw_self]
theorem v_gtup {F : α → D} (hi : evIt u gc c it ρ = some (.ok (xs.map enc) ρ1)) (hl : xs.length ≤ line) (h : ∀ a ∈ xs, ∃ ρ2 ρ3, asgG g (enc a) (wip ρ1 own) = some ρ2 ∧ Gv u gc c e ρ2 (F a) ρ3 ∧ wip ρ3 own = wip ρ1 own) :
    evE u gc c (.gq .tuple own g it .nil e) ρ = some (.ok (.val (.tuple (xs.map F))) ρ1) := by
  obtain ⟨ρ', e1, e2⟩ := lcL_map (own := own) (enc := enc) (stp := stpOf u gc c g .nil e) (fun a => some (F a)) (ρ := ρ1) (ρ0 := ρ1) rfl fun a ha => let ⟨ρ2, ρ3, h1, h2, h3⟩ := h a ha; ⟨ρ3, stp_yes h1 ts_nil h2, h3⟩
  rw [evE_gq, hi]
  simp only [bnd_ok, List.length_map, if_pos hl, gqR, e1, fm_map F xs, Option.map_some, unw_wip e2, unw_self]
theorem v_gtupI {F : α → Int} (hi : evIt u gc c it ρ = some (.ok (xs.map enc) ρ1)) (hl : xs.length ≤ line) (h : ∀ a ∈ xs, ∃ ρ2 ρ3, asgG g (enc a) (wip ρ1 own) = some ρ2 ∧ Gv u gc c e ρ2 (.int (F a)) ρ3 ∧ wip ρ3 own = wip ρ1 own) :
    evE u gc c (.gq .tuple own g it .nil e) ρ = some (.ok (.val (.tuple ((xs.map F).map .int))) ρ1) := by
  rw [List.map_map]
  exact v_gtup (F := fun a => .int (F a)) hi hl h
end
/-! ### statements -/
theorem w_asg {i : Nat} (h : Gv u gc c e ρ x ρ1) (hs : setSlot i (.sh x) ρ1 = some ρ2) : exS u gc c (.asg i e) ρ = some (.nx ρ2) := by
  rw [S_asg]
  unfold Gv at h
  cases he : evE u gc c e ρ with
  | none => rw [he] at h; cases h
  | some o =>
    cases o with
    | ex s ρ' => rw [he] at h; cases h
    | ok o ρ' =>
      rw [he, bnd_ok] at h
      rw [bnS_ok, h, bnS_ok, hs]; rfl
theorem w_asgO {i : Nat} {xs : List D} (h : evE u gc c e ρ = some (.ok (.new xs) ρ1)) (hs : setSlot i (.ol false xs) ρ1 = some ρ2) : exS u gc c (.asgO i e) ρ = some (.nx ρ2) := by
  rw [S_asgO, h, bnS_ok]; simp only [hs, Option.map_some]
theorem w_asgG {g : G} (h : Gv u gc c e ρ x ρ1) (hs : asgG g x ρ1 = some ρ2) : exS u gc c (.asgG g e) ρ = some (.nx ρ2) := by
  rw [S_asgG]
  unfold Gv at h
  cases he : evE u gc c e ρ with
  | none => rw [he] at h; cases h
  | some o =>
    cases o with
    | ex s ρ' => rw [he] at h; cases h
    | ok o ρ' =>
      rw [he, bnd_ok] at h
      rw [bnS_ok, h, bnS_ok, hs]; rfl
theorem w_ret (h : Gv u gc c e ρ x ρ1) : exS u gc c (.ret e) ρ = some (.rt x ρ1) := by
  rw [S_ret]
  unfold Gv at h
  cases he : evE u gc c e ρ with
  | none => rw [he] at h; cases h
  | some o =>
    cases o with
    | ex s ρ' => rw [he] at h; cases h
    | ok o ρ' =>
      rw [he, bnd_ok] at h
      rw [bnS_ok, h, bnS_ok]
theorem w_retO {xs : List D} (h : evE u gc c e ρ = some (.ok (.new xs) ρ1)) : exS u gc c (.retO e) ρ = some (.ro xs ρ1) := by
  rw [S_retO, h, bnS_ok]
theorem w_aug {i : Nat} {o : Operator} {m n k : Int} (h0 : ρ[i]? = some (.sh (.int m))) (h : evE u gc c e ρ = some (.ok p ρ1)) (hp : p.rd ρ1 = some (.int n)) (hb : binD o (.int m) (.int n) = some (.val (.int k))) (hs : setSlot i (.sh (.int k)) ρ1 = some ρ2) : exS u gc c (.aug i o e) ρ = some (.nx ρ2) := by
  rw [S_aug, h0]
  show bnS (evE u gc c e ρ) _ = _
  rw [h, bnS_ok, hp]
  have : binI o m n = some k := by
    simp only [binD] at hb
    cases hbi : binI o m n with
    | none => rw [hbi] at hb; cases hb
    | some k' => rw [hbi] at hb; simp at hb; rw [hb]
  simp only [this, Option.bind_some, hs, Option.map_some]
theorem w_st {ar : Nat} {s0 : Bool} {xs0 xs : List D} {k : Int} {j : Nat} (he : Gv u gc c e ρ x ρ1) (h0 : ρ1[ar]? = some (.ol s0 xs0)) (hi : evE u gc c a ρ1 = some (.ok p ρ2)) (h1 : ρ2[ar]? = some (.ol s0 xs)) (hp : p.rd ρ2 = some (.int k)) (hx : ixOf xs.length k = some j) (h2 : ρ2.set ar (.ol s0 (xs.set j x)) = ρ3) : exS u gc c (.st ar a e) ρ = some (.nx ρ3) := by
  rw [S_st]
  unfold Gv at he
  cases hh : evE u gc c e ρ with
  | none => rw [hh] at he; cases he
  | some o =>
    cases o with
    | ex s ρ' => rw [hh] at he; cases he
    | ok o ρ' =>
      rw [hh, bnd_ok] at he
      rw [bnS_ok, he, bnS_ok, h0]
      show bnS (evE u gc c a ρ1) _ = _
      rw [hi, bnS_ok, h1, hp]
      simp only [hx, Option.map_some, h2]
theorem w_ifT {A B : Ss} {so : Option SOut} (h : evE u gc c t ρ = some (.ok p ρ1)) (hp : p.rd ρ1 = some x) (ht : truD x = some true) (h2 : exSs u gc c A ρ1 = so) : exS u gc c (.ifs t A B) ρ = so := by
  rw [S_ifs]; unfold evT tstO; rw [h, bnd_ok, hp, Option.bind_some, ht]; exact h2
theorem w_ifF {A B : Ss} {so : Option SOut} (h : evE u gc c t ρ = some (.ok p ρ1)) (hp : p.rd ρ1 = some x) (ht : truD x = some false) (h2 : exSs u gc c B ρ1 = so) : exS u gc c (.ifs t A B) ρ = so := by
  rw [S_ifs]; unfold evT tstO; rw [h, bnd_ok, hp, Option.bind_some, ht]; exact h2
theorem w_nx {s : S} {ss : Ss} {so : Option SOut} (h : exS u gc c s ρ = some (.nx ρ1)) (h2 : exSs u gc c ss ρ1 = so) : exSs u gc c (.cons s ss) ρ = so := step_nx h h2
/-! ### comparisons -/
theorem c_ltT {x y : Int} (h : x < y) : cmpD .Lt (.int x) (.int y) = some true := c_lt (decide_eq_true h)
theorem c_ltF {x y : Int} (h : ¬ x < y) : cmpD .Lt (.int x) (.int y) = some false := c_lt (decide_eq_false h)
theorem c_ltB {x y : Int} : cmpD .Lt (.int x) (.int y) = some (decide (x < y)) := rfl
theorem c_leT {x y : Int} (h : x ≤ y) : cmpD .LtE (.int x) (.int y) = some true := c_le (decide_eq_true h)
theorem c_leF {x y : Int} (h : ¬ x ≤ y) : cmpD .LtE (.int x) (.int y) = some false := c_le (decide_eq_false h)
theorem c_leB {x y : Int} : cmpD .LtE (.int x) (.int y) = some (decide (x ≤ y)) := rfl
theorem c_gtT {x y : Int} (h : y < x) : cmpD .Gt (.int x) (.int y) = some true := c_gt (decide_eq_true h)
theorem c_gtF {x y : Int} (h : ¬ y < x) : cmpD .Gt (.int x) (.int y) = some false := c_gt (decide_eq_false h)
theorem c_gtB {x y : Int} : cmpD .Gt (.int x) (.int y) = some (decide (y < x)) := rfl
theorem c_geT {x y : Int} (h : y ≤ x) : cmpD .GtE (.int x) (.int y) = some true := c_ge (decide_eq_true h)
theorem c_geF {x y : Int} (h : ¬ y ≤ x) : cmpD .GtE (.int x) (.int y) = some false := c_ge (decide_eq_false h)
theorem c_geB {x y : Int} : cmpD .GtE (.int x) (.int y) = some (decide (y ≤ x)) := rfl
theorem c_eqT {x y : Int} (h : x = y) : cmpD .Eq (.int x) (.int y) = some true := c_eq (decide_eq_true h)
theorem c_eqF {x y : Int} (h : ¬ x = y) : cmpD .Eq (.int x) (.int y) = some false := c_eq (decide_eq_false h)
theorem c_eqB {x y : Int} : cmpD .Eq (.int x) (.int y) = some (decide (x = y)) := rfl
theorem c_neT {x y : Int} (h : ¬ x = y) : cmpD .NotEq (.int x) (.int y) = some true := c_ne (by rw [decide_eq_false h]; rfl)
theorem c_neF {x y : Int} (h : x = y) : cmpD .NotEq (.int x) (.int y) = some false := c_ne (by rw [decide_eq_true h]; rfl)
theorem c_neB {x y : Int} : cmpD .NotEq (.int x) (.int y) = some (!decide (x = y)) := rfl
theorem eqvA_ints : ∀ xs ys : List Int, PyData.eqvAll (xs.map .int) (ys.map .int) = decide (xs = ys)
  | [], [] => rfl
  | [], y :: ys => by simp [PyData.eqvAll]
  | x :: xs, [] => by simp [PyData.eqvAll]
  | x :: xs, y :: ys => by
    simp only [List.map_cons, PyData.eqvAll, eqvA_ints xs ys, PyData.eqv]
    by_cases h : x = y <;> simp [h]
theorem flat_ints {n : Nat} (xs : List Int) : flatAll n (xs.map .int) = true := flatAll_of fun x hx => by
  obtain ⟨i, _, rfl⟩ := List.mem_map.mp hx
  cases n <;> rfl
theorem flat_listI {xs : List Int} : flat deep (.list (xs.map .int)) = true := flat_ints (n := 29) xs
theorem flat_tupI {xs : List Int} : flat deep (.tuple (xs.map .int)) = true := flat_ints (n := 29) xs
theorem c_eqLL {xs ys : List D} (hx : flatAll 29 xs = true) (hy : flatAll 29 ys = true) : cmpD .Eq (.list xs) (.list ys) = some (PyData.eqvAll xs ys) := by
  show (if flatAll 29 xs && flatAll 29 ys then some (PyData.eqv (.list xs) (.list ys)) else none) = _
  rw [hx, hy]; simp only [PyData.eqv]; rfl
theorem c_neLL {xs ys : List D} (hx : flatAll 29 xs = true) (hy : flatAll 29 ys = true) : cmpD .NotEq (.list xs) (.list ys) = some (!PyData.eqvAll xs ys) := by
  show (if flatAll 29 xs && flatAll 29 ys then some (!PyData.eqv (.list xs) (.list ys)) else none) = _
  rw [hx, hy]; simp only [PyData.eqv]; rfl
theorem c_eqTT {xs ys : List D} (hx : flatAll 29 xs = true) (hy : flatAll 29 ys = true) : cmpD .Eq (.tuple xs) (.tuple ys) = some (PyData.eqvAll xs ys) := by
  show (if flatAll 29 xs && flatAll 29 ys then some (PyData.eqv (.tuple xs) (.tuple ys)) else none) = _
  rw [hx, hy]; simp only [PyData.eqv]; rfl
theorem c_neTT {xs ys : List D} (hx : flatAll 29 xs = true) (hy : flatAll 29 ys = true) : cmpD .NotEq (.tuple xs) (.tuple ys) = some (!PyData.eqvAll xs ys) := by
  show (if flatAll 29 xs && flatAll 29 ys then some (!PyData.eqv (.tuple xs) (.tuple ys)) else none) = _
  rw [hx, hy]; simp only [PyData.eqv]; rfl
theorem c_eqL {xs ys : List Int} : cmpD .Eq (.list (xs.map .int)) (.list (ys.map .int)) = some (decide (xs = ys)) := by rw [c_eqLL (flat_ints xs) (flat_ints ys), eqvA_ints]
theorem c_neL {xs ys : List Int} : cmpD .NotEq (.list (xs.map .int)) (.list (ys.map .int)) = some (!decide (xs = ys)) := by rw [c_neLL (flat_ints xs) (flat_ints ys), eqvA_ints]
theorem c_eqU {xs ys : List Int} : cmpD .Eq (.tuple (xs.map .int)) (.tuple (ys.map .int)) = some (decide (xs = ys)) := by rw [c_eqTT (flat_ints xs) (flat_ints ys), eqvA_ints]
theorem c_neU {xs ys : List Int} : cmpD .NotEq (.tuple (xs.map .int)) (.tuple (ys.map .int)) = some (!decide (xs = ys)) := by rw [c_neTT (flat_ints xs) (flat_ints ys), eqvA_ints]
theorem c_eqL0 {xs : List D} (hx : flatAll 29 xs = true) : cmpD .Eq (.list xs) (.list []) = some xs.isEmpty := by
  rw [c_eqLL hx rfl]; cases xs <;> rfl
theorem c_neL0 {xs : List D} (hx : flatAll 29 xs = true) : cmpD .NotEq (.list xs) (.list []) = some (!xs.isEmpty) := by
  rw [c_neLL hx rfl]; cases xs <;> rfl
/-! ### built-ins -/
theorem f_sumL {xs : List Int} : biD .sum [.list (xs.map .int)] = some (.val (.int xs.sum)) := by simp only [biD, intsOf_map, Option.map_some]
theorem f_sumT {xs : List Int} : biD .sum [.tuple (xs.map .int)] = some (.val (.int xs.sum)) := by simp only [biD, intsOf_map, Option.map_some]
def minI : List Int → Int
  | [] => 0
  | n :: ns => minL n ns
def maxI : List Int → Int
  | [] => 0
  | n :: ns => maxL n ns
theorem f_minL {xs : List Int} (h : xs ≠ []) : biD .min [.list (xs.map .int)] = some (.val (.int (minI xs))) := by
  cases xs with
  | nil => exact (h rfl).elim
  | cons n ns => simp only [biD, intsOf_map, Option.bind_some]; rfl
theorem f_maxL {xs : List Int} (h : xs ≠ []) : biD .max [.list (xs.map .int)] = some (.val (.int (maxI xs))) := by
  cases xs with
  | nil => exact (h rfl).elim
  | cons n ns => simp only [biD, intsOf_map, Option.bind_some]; rfl
theorem f_minT {xs : List Int} (h : xs ≠ []) : biD .min [.tuple (xs.map .int)] = some (.val (.int (minI xs))) := by
  cases xs with
  | nil => exact (h rfl).elim
  | cons n ns => simp only [biD, intsOf_map, Option.bind_some]; rfl
theorem f_maxT {xs : List Int} (h : xs ≠ []) : biD .max [.tuple (xs.map .int)] = some (.val (.int (maxI xs))) := by
  cases xs with
  | nil => exact (h rfl).elim
  | cons n ns => simp only [biD, intsOf_map, Option.bind_some]; rfl
theorem f_lenL {xs : List D} : biD .len [.list xs] = some (.val (.int (xs.length : Nat))) := rfl
theorem f_lenT {xs : List D} : biD .len [.tuple xs] = some (.val (.int (xs.length : Nat))) := rfl
theorem f_lenLm {α : Type} {f : α → D} {xs : List α} : biD .len [.list (xs.map f)] = some (.val (.int (xs.length : Nat))) := by simp [biD]
theorem f_lenTm {α : Type} {f : α → D} {xs : List α} : biD .len [.tuple (xs.map f)] = some (.val (.int (xs.length : Nat))) := by simp [biD]
theorem f_sortedT {xs : List Int} : biD .sorted [.tuple (xs.map .int)] = some (.new ((sortI xs).map .int)) := by simp only [biD, intsOf_map, Option.map_some]
theorem pairsI_map : ∀ ps : List (Int × Int), pairsI (ps.map pD) = some ps
  | [] => rfl
  | p :: ps => by simp only [List.map_cons, pD, pairsI, pairsI_map ps, Option.map_some]
theorem f_sortedP {ps : List (Int × Int)} : biD .sorted [.list (ps.map pD)] = some (.new ((sortP ps).map pD)) := by
  cases ps with
  | nil => rfl
  | cons p ps =>
    have h : intsOf ((p :: ps).map pD) = none := rfl
    simp only [biD, h, pairsI_map, Option.map_some]
theorem f_sorted {xs : List Int} : biD .sorted [.list (xs.map .int)] = some (.new ((sortI xs).map .int)) := by simp only [biD, intsOf_map]
theorem f_int {i : Int} : biD .int [.int i] = some (.val (.int i)) := rfl
theorem f_intB {s : Bool} : biD .int [.bool s] = some (.val (.int (if s then 1 else 0))) := rfl
theorem f_list {xs : List D} : biD .list [.tuple xs] = some (.new xs) := rfl
theorem f_listL {xs : List D} : biD .list [.list xs] = some (.new xs) := rfl
theorem f_tuple {xs : List D} : biD .tuple [.list xs] = some (.val (.tuple xs)) := rfl
theorem f_tupleT {xs : List D} : biD .tuple [.tuple xs] = some (.val (.tuple xs)) := rfl
theorem f_min2 {i j : Int} : biD .min [.int i, .int j] = some (.val (.int (min i j))) := by
  show some (Opd.val (.int (if j < i then j else i))) = _
  rw [show (if j < i then j else i) = min i j by omega]
theorem f_max2 {i j : Int} : biD .max [.int i, .int j] = some (.val (.int (max i j))) := by
  show some (Opd.val (.int (if j > i then j else i))) = _
  rw [show (if j > i then j else i) = max i j by split <;> omega]
/-! ### items -/
theorem x_list {xs : List D} {i : Nat} {x : D} (h : xs[i]? = some x) : ixD (.list xs) (.int (i : Nat)) = some x := ix_list h
theorem x_tup {xs : List D} {i : Nat} {x : D} (h : xs[i]? = some x) : ixD (.tuple xs) (.int (i : Nat)) = some x := ix_tuple h
/-- an item of integers at a place that is there -/
def at0 (xs : List Int) (i : Int) : Int := xs.getD (if 0 ≤ i then i.toNat else (i + xs.length).toNat) 0
theorem ixOf_in {n : Nat} {i : Int} (h : -(n : Int) ≤ i ∧ i < n) : ixOf n i = some (if 0 ≤ i then i.toNat else (i + n).toNat) := by
  unfold ixOf
  by_cases h0 : 0 ≤ i
  · rw [if_pos h0, if_pos h0, if_pos h.2]
  · rw [if_neg h0, if_neg h0, if_pos h.1]
theorem at0_get {xs : List Int} {i : Int} (h : -(xs.length : Int) ≤ i ∧ i < xs.length) : (xs.map PyData.int)[if 0 ≤ i then i.toNat else (i + xs.length).toNat]? = some (.int (at0 xs i)) := by
  have hl : (if 0 ≤ i then i.toNat else (i + xs.length).toNat) < xs.length := by split <;> omega
  rw [List.getElem?_map]
  unfold at0
  rw [List.getD_eq_getElem?_getD, List.getElem?_eq_getElem hl]; rfl
theorem x_listI {xs : List Int} {i : Int} (h : -(xs.length : Int) ≤ i ∧ i < xs.length) : ixD (.list (xs.map .int)) (.int i) = some (.int (at0 xs i)) := by
  simp only [ixD, List.length_map, ixOf_in h, Option.bind_some]; exact at0_get h
theorem x_tupI {xs : List Int} {i : Int} (h : -(xs.length : Int) ≤ i ∧ i < xs.length) : ixD (.tuple (xs.map .int)) (.int i) = some (.int (at0 xs i)) := by
  simp only [ixD, List.length_map, ixOf_in h, Option.bind_some]; exact at0_get h
theorem okR_by {i : Int} (h : -(2 ^ 62) ≤ i ∧ i < 2 ^ 62) : okR i = true := by
  unfold okR; rw [decide_eq_true h.1, decide_eq_true h.2]; rfl
/-! ### one statement ahead of the rest -/
theorem v_notT (ha : evE u gc c a ρ = some (.ok p ρ1)) (hp : p.rd ρ1 = some x) (ht : truD x = some false) : evE u gc c (.no a) ρ = some (.ok (.val (.bool true)) ρ1) := v_not ha hp ht
theorem v_notF (ha : evE u gc c a ρ = some (.ok p ρ1)) (hp : p.rd ρ1 = some x) (ht : truD x = some true) : evE u gc c (.no a) ρ = some (.ok (.val (.bool false)) ρ1) := v_not ha hp ht
theorem v_anT {ou : Option (Out Opd)} (ha : evE u gc c a ρ = some (.ok (.val (.bool true)) ρ1)) (hb : evE u gc c b ρ1 = ou) : evE u gc c (.an a b) ρ = ou := (e_anT ha).trans hb
theorem v_orF {ou : Option (Out Opd)} (ha : evE u gc c a ρ = some (.ok (.val (.bool false)) ρ1)) (hb : evE u gc c b ρ1 = ou) : evE u gc c (.orr a b) ρ = ou := (e_orF ha).trans hb
theorem v_var {i : Nat} (h : ρ[i]? = some (.sh x)) : evE u gc c (.v i) ρ = some (.ok (.val x) ρ) := E_var h
theorem n_asg {i : Nat} {ss : Ss} {so : Option SOut} (h : Gv u gc c e ρ x ρ1) (hs : setSlot i (.sh x) ρ1 = some ρ2) (h2 : exSs u gc c ss ρ2 = so) : exSs u gc c (.cons (.asg i e) ss) ρ = so := step_nx (w_asg h hs) h2
theorem n_asgO {i : Nat} {xs : List D} {ss : Ss} {so : Option SOut} (h : evE u gc c e ρ = some (.ok (.new xs) ρ1)) (hs : setSlot i (.ol false xs) ρ1 = some ρ2) (h2 : exSs u gc c ss ρ2 = so) : exSs u gc c (.cons (.asgO i e) ss) ρ = so := step_nx (w_asgO h hs) h2
theorem n_par {gs : Gs} {es : Es} {ds : List D} {ss : Ss} {so : Option SOut} (h : evEs u gc c es ρ = some (.ok ds ρ1)) (hs : asgGs gs ds ρ1 = some ρ2) (h2 : exSs u gc c ss ρ2 = so) : exSs u gc c (.cons (.par gs es) ss) ρ = so := step_nx (s_par h hs) h2
theorem n_asgG {g : G} {ss : Ss} {so : Option SOut} (h : Gv u gc c e ρ x ρ1) (hs : asgG g x ρ1 = some ρ2) (h2 : exSs u gc c ss ρ2 = so) : exSs u gc c (.cons (.asgG g e) ss) ρ = so := step_nx (w_asgG h hs) h2
theorem n_aug {i : Nat} {o : Operator} {m n k : Int} {ss : Ss} {so : Option SOut} (h0 : ρ[i]? = some (.sh (.int m))) (h : evE u gc c e ρ = some (.ok p ρ1)) (hp : p.rd ρ1 = some (.int n)) (hb : binD o (.int m) (.int n) = some (.val (.int k))) (hs : setSlot i (.sh (.int k)) ρ1 = some ρ2) (h2 : exSs u gc c ss ρ2 = so) : exSs u gc c (.cons (.aug i o e) ss) ρ = so := step_nx (w_aug h0 h hp hb hs) h2
theorem n_exp {ss : Ss} {so : Option SOut} (h : evE u gc c e ρ = some (.ok r ρ1)) (h2 : exSs u gc c ss ρ1 = so) : exSs u gc c (.cons (.ex e) ss) ρ = so := step_nx (s_exp h) h2
theorem n_st {ar : Nat} {s0 : Bool} {xs0 xs : List D} {k : Int} {j : Nat} {ss : Ss} {so : Option SOut} (he : Gv u gc c e ρ x ρ1) (h0 : ρ1[ar]? = some (.ol s0 xs0)) (hi : evE u gc c a ρ1 = some (.ok p ρ2)) (h1 : ρ2[ar]? = some (.ol s0 xs)) (hp : p.rd ρ2 = some (.int k)) (hx : ixOf xs.length k = some j) (h2 : ρ2.set ar (.ol s0 (xs.set j x)) = ρ3) (h3 : exSs u gc c ss ρ3 = so) : exSs u gc c (.cons (.st ar a e) ss) ρ = so := step_nx (w_st he h0 hi h1 hp hx h2) h3
theorem n_ret {ss : Ss} (h : Gv u gc c e ρ x ρ1) : exSs u gc c (.cons (.ret e) ss) ρ = some (.rt x ρ1) := step_rt (w_ret h)
theorem n_retO {xs : List D} {ss : Ss} (h : evE u gc c e ρ = some (.ok (.new xs) ρ1)) : exSs u gc c (.cons (.retO e) ss) ρ = some (.ro xs ρ1) := step_ro (w_retO h)
theorem n_rais {s : Str} {ss : Ss} : exSs u gc c (.cons (.rais s) ss) ρ = some (.ex s ρ) := step_ex (S_rais _)
theorem n_ifF0 {A ss : Ss} {so : Option SOut} (h : evE u gc c t ρ = some (.ok p ρ1)) (hp : p.rd ρ1 = some x) (ht : truD x = some false) (h2 : exSs u gc c ss ρ1 = so) : exSs u gc c (.cons (.ifs t A .nil) ss) ρ = so := step_nx (w_ifF h hp ht ss_nil) h2
theorem n_ifTr {A B ss : Ss} (h : evE u gc c t ρ = some (.ok p ρ1)) (hp : p.rd ρ1 = some x) (ht : truD x = some true) (h2 : exSs u gc c A ρ1 = some (.rt y ρ2)) : exSs u gc c (.cons (.ifs t A B) ss) ρ = some (.rt y ρ2) := step_rt (w_ifT h hp ht h2)
theorem n_ifTx {A B ss : Ss} {s : Str} (h : evE u gc c t ρ = some (.ok p ρ1)) (hp : p.rd ρ1 = some x) (ht : truD x = some true) (h2 : exSs u gc c A ρ1 = some (.ex s ρ2)) : exSs u gc c (.cons (.ifs t A B) ss) ρ = some (.ex s ρ2) := step_ex (w_ifT h hp ht h2)
theorem n_ifT {A B ss : Ss} {so : Option SOut} (h : evE u gc c t ρ = some (.ok p ρ1)) (hp : p.rd ρ1 = some x) (ht : truD x = some true) (h2 : exSs u gc c A ρ1 = some (.nx ρ2)) (h3 : exSs u gc c ss ρ2 = so) : exSs u gc c (.cons (.ifs t A B) ss) ρ = so := step_nx (w_ifT h hp ht h2) h3
theorem n_ifF {A B ss : Ss} {so : Option SOut} (h : evE u gc c t ρ = some (.ok p ρ1)) (hp : p.rd ρ1 = some x) (ht : truD x = some false) (h2 : exSs u gc c B ρ1 = some (.nx ρ2)) (h3 : exSs u gc c ss ρ2 = so) : exSs u gc c (.cons (.ifs t A B) ss) ρ = so := step_nx (w_ifF h hp ht h2) h3
theorem n_ifFr {A B ss : Ss} (h : evE u gc c t ρ = some (.ok p ρ1)) (hp : p.rd ρ1 = some x) (ht : truD x = some false) (h2 : exSs u gc c B ρ1 = some (.rt y ρ2)) : exSs u gc c (.cons (.ifs t A B) ss) ρ = some (.rt y ρ2) := step_rt (w_ifF h hp ht h2)
theorem n_for {g : G} {it : It} {bd ss : Ss} {ds : List D} {so : Option SOut} (hi : evIt u gc c it ρ = some (.ok ds ρ1)) (h : forL (fun d ρ => (asgG g d ρ).bind fun ρ => exSs u gc c bd ρ) ds ρ1 = some (.nx ρ2)) (h2 : exSs u gc c ss ρ2 = so) : exSs u gc c (.cons (.forr g it bd) ss) ρ = so := step_nx (s_forL hi h) h2
theorem n_whl {bd ss : Ss} {so : Option SOut} (h : whL (fun ρ => evT u gc c t ρ) (fun ρ => exSs u gc c bd ρ) ρ = some (.nx ρ1)) (h2 : exSs u gc c ss ρ1 = so) : exSs u gc c (.cons (.whl t bd) ss) ρ = so := step_nx ((S_whl _ _).trans h) h2
theorem os_nil : evOs u gc c [] .nil ρ = some (.ok [] ρ) := rfl
theorem os_val {i : Nat} {ts : List (Nat × Bool)} {es : Es} {zs : List Opd} (h : Gv u gc c e ρ x ρ1) (h2 : evOs u gc c ts es ρ1 = some (.ok zs ρ2)) : evOs u gc c ((i, false) :: ts) (.cons e es) ρ = some (.ok (.val x :: zs) ρ2) := by
  show bnd (evE u gc c e ρ) (fun o ρ => bnd (frz o ρ) fun d ρ => bnd (evOs u gc c ts es ρ) fun zs ρ => some (.ok (.val d :: zs) ρ)) = _
  rw [gv_of h, h2]; rfl
theorem os_new {i : Nat} {ts : List (Nat × Bool)} {es : Es} {xs : List D} {zs : List Opd} (h : evE u gc c e ρ = some (.ok (.new xs) ρ1)) (h2 : evOs u gc c ts es ρ1 = some (.ok zs ρ2)) : evOs u gc c ((i, true) :: ts) (.cons e es) ρ = some (.ok (.new xs :: zs) ρ2) := by
  show bnd (evE u gc c e ρ) _ = _
  rw [h, bnd_ok]
  show bnd (evOs u gc c ts es ρ1) _ = _
  rw [h2]; rfl
theorem n_parO {ts : List (Nat × Bool)} {es : Es} {zs : List Opd} {ss : Ss} {so : Option SOut} (h : evOs u gc c ts es ρ = some (.ok zs ρ1)) (hs : setOs ts zs ρ1 = some ρ2) (h2 : exSs u gc c ss ρ2 = so) : exSs u gc c (.cons (.parO ts es) ss) ρ = so := by
  refine step_nx ?_ h2
  rw [S_parO, h, bnS_ok, hs]; rfl
theorem fin_rt {as : List CArg} {ss : Ss} {os : List (List D)} (h : exSs u gc c ss ρ = some (.rt x ρ1)) (ho : outsL as ρ1 = some os) : finF as (exSs u gc c ss ρ) = some (.ok x os) := by
  rw [h]; simp only [finF, ho, Option.map_some]
theorem fin_ro {as : List CArg} {ss : Ss} {os : List (List D)} {xs : List D} (h : exSs u gc c ss ρ = some (.ro xs ρ1)) (ho : outsL as ρ1 = some os) : finF as (exSs u gc c ss ρ) = some (.ow xs os) := by
  rw [h]; simp only [finF, ho, Option.map_some]
theorem fin_ex {as : List CArg} {ss : Ss} {os : List (List D)} {s : Str} (h : exSs u gc c ss ρ = some (.ex s ρ1)) (ho : outsL as ρ1 = some os) : finF as (exSs u gc c ss ρ) = some (.ex s os) := by
  rw [h]; simp only [finF, ho, Option.map_some]
theorem call_rt {T : List Fn} {m f : Nat} {as : List CArg} {fn : Fn} {os : List (List D)} (h : T[f]? = some fn) (hl : as.length = fn.np) (he : enter fn as = ρ) (h1 : exSs u gc (callF u gc T m) fn.body ρ = some (.rt x ρ1)) (ho : outsL as ρ1 = some os) : callF u gc T (m + 1) f as = some (.ok x os) := by
  rw [callF_at h hl, he]; exact fin_rt h1 ho
theorem call_rtE {T : List Fn} {m f : Nat} {as : List CArg} {fn : Fn} {os : List (List D)} (h : T[f]? = some fn) (hl : as.length = fn.np) (he : enter fn as = ρ) (h1 : exSs u gc (callF u gc T m) fn.body ρ = some (.rt y ρ1)) (ho : outsL as ρ1 = some os) (hx : y = x) : callF u gc T (m + 1) f as = some (.ok x os) := hx ▸ call_rt h hl he h1 ho
theorem call_ro {T : List Fn} {m f : Nat} {as : List CArg} {fn : Fn} {os : List (List D)} {xs : List D} (h : T[f]? = some fn) (hl : as.length = fn.np) (he : enter fn as = ρ) (h1 : exSs u gc (callF u gc T m) fn.body ρ = some (.ro xs ρ1)) (ho : outsL as ρ1 = some os) : callF u gc T (m + 1) f as = some (.ow xs os) := by
  rw [callF_at h hl, he]; exact fin_ro h1 ho
theorem call_ex {T : List Fn} {m f : Nat} {as : List CArg} {fn : Fn} {os : List (List D)} {s : Str} (h : T[f]? = some fn) (hl : as.length = fn.np) (he : enter fn as = ρ) (h1 : exSs u gc (callF u gc T m) fn.body ρ = some (.ex s ρ1)) (ho : outsL as ρ1 = some os) : callF u gc T (m + 1) f as = some (.ex s os) := by
  rw [callF_at h hl, he]; exact fin_ex h1 ho
theorem call_nx {T : List Fn} {m f : Nat} {as : List CArg} {fn : Fn} {os : List (List D)} (h : T[f]? = some fn) (hl : as.length = fn.np) (he : enter fn as = ρ) (h1 : exSs u gc (callF u gc T m) fn.body ρ = some (.nx ρ1)) (ho : outsL as ρ1 = some os) : callF u gc T (m + 1) f as = some (.ok .none os) := by
  rw [callF_at h hl, he, h1]; simp only [finF, ho, Option.map_some]
theorem t_lc {g : G} {d0 : D} {own : List Nat} {ρ0 : Env} (h1 : asgG g d0 ρ = some ρ2) (h2 : Gv u gc c e ρ2 x ρ3) (h3 : wip ρ3 own = ρ0) : ∃ ρ2 ρ3, asgG g d0 ρ = some ρ2 ∧ Gv u gc c e ρ2 x ρ3 ∧ wip ρ3 own = ρ0 := ⟨ρ2, ρ3, h1, h2, h3⟩
theorem t_lcf {g : G} {d0 : D} {own : List Nat} {ρ0 : Env} {cs : Es} {s : Bool} (h1 : asgG g d0 ρ = some ρ2) (h2 : evTs u gc c cs ρ2 = some (.ok s ρ3)) (h3 : wip ρ3 own = ρ0) (h4 : s = true → ∃ ρ4, Gv u gc c e ρ3 x ρ4 ∧ wip ρ4 own = ρ0) :
    ∃ ρ2 ρ3, asgG g d0 ρ = some ρ2 ∧ evTs u gc c cs ρ2 = some (.ok s ρ3) ∧ wip ρ3 own = ρ0 ∧ (s = true → ∃ ρ4, Gv u gc c e ρ3 x ρ4 ∧ wip ρ4 own = ρ0) := ⟨ρ2, ρ3, h1, h2, h3, h4⟩
theorem t_lc2 {own : List Nat} {ρ0 : Env} (h1 : Gv u gc c e ρ x ρ4) (h2 : wip ρ4 own = ρ0) : ∃ ρ4, Gv u gc c e ρ x ρ4 ∧ wip ρ4 own = ρ0 := ⟨ρ4, h1, h2⟩
/-- arguments that lend nothing, as the call takes them -/
def Gc (u : Sub) (gc : List D) (c : CF) (as : As) (ρ : Env) (cs : List CArg) (ρ1 : Env) : Prop := ∃ xs : List D, cs = xs.map .av ∧ Ga u gc c as ρ xs ρ1
theorem gc_nil : Gc u gc c .nil ρ [] ρ := ⟨[], rfl, ga_nil⟩
theorem gc_cons {as : As} {cs : List CArg} (h : Gv u gc c e ρ x ρ1) (h2 : Gc u gc c as ρ1 cs ρ2) : Gc u gc c (.ex e as) ρ (.av x :: cs) ρ2 := by
  obtain ⟨xs, rfl, h3⟩ := h2
  exact ⟨x :: xs, rfl, ga_cons h h3⟩
theorem v_call {k : Nat} {as : As} {cs : List CArg} (h : Gc u gc c as ρ cs ρ1) (hc : c k cs = some (.ok x [])) : evE u gc c (.call k as) ρ = some (.ok (.val x) ρ1) := by
  obtain ⟨xs, rfl, h3⟩ := h
  exact e_call h3 hc
theorem v_callO {k : Nat} {as : As} {cs : List CArg} {ys : List D} (h : Gc u gc c as ρ cs ρ1) (hc : c k cs = some (.ow ys [])) : evE u gc c (.call k as) ρ = some (.ok (.new ys) ρ1) := by
  obtain ⟨xs, rfl, h3⟩ := h
  exact e_callO h3 hc
theorem v_callE {k : Nat} {as : As} {cs : List CArg} {s : Str} (h : Gc u gc c as ρ cs ρ1) (hc : c k cs = some (.ex s [])) : evE u gc c (.call k as) ρ = some (.ex s ρ1) := by
  obtain ⟨xs, rfl, h3⟩ := h
  exact v_callX h3 hc
/-! ### slices, places, loans -/
theorem cut_to {α : Type} {xs : List α} {i : Int} (h : 0 ≤ i) : cut xs none (some i) = xs.take i.toNat := by
  unfold cut bdOf
  simp only [if_neg (show ¬ i < 0 by omega), List.drop_zero, Nat.sub_zero]
  rcases Nat.le_total i.toNat xs.length with q | q
  · rw [Nat.min_eq_left q]
  · rw [Nat.min_eq_right q, List.take_of_length_le (Nat.le_refl _), List.take_of_length_le q]
theorem cut_from {α : Type} {xs : List α} {i : Int} (h : 0 ≤ i) : cut xs (some i) none = xs.drop i.toNat := by
  unfold cut bdOf
  simp only [if_neg (show ¬ i < 0 by omega)]
  rcases Nat.le_total i.toNat xs.length with q | q
  · rw [Nat.min_eq_left q, List.take_of_length_le (by simp)]
  · rw [Nat.min_eq_right q, List.drop_of_length_le (Nat.le_refl _), List.drop_of_length_le q, List.take_nil]
theorem sl_toU {xs : List Int} {i : Int} (h : 0 ≤ i) : slD (.tuple (xs.map .int)) none (some i) = some (.val (.tuple ((xs.take i.toNat).map .int))) := by
  show some (Opd.val (.tuple (cut _ _ _))) = _; rw [cut_to h, List.map_take]
theorem sl_fromU {xs : List Int} {i : Int} (h : 0 ≤ i) : slD (.tuple (xs.map .int)) (some i) none = some (.val (.tuple ((xs.drop i.toNat).map .int))) := by
  show some (Opd.val (.tuple (cut _ _ _))) = _; rw [cut_from h, List.map_drop]
theorem sl_toL {xs : List Int} {i : Int} (h : 0 ≤ i) : slD (.list (xs.map .int)) none (some i) = some (.new ((xs.take i.toNat).map .int)) := by
  show some (Opd.new (cut _ _ _)) = _; rw [cut_to h, List.map_take]
theorem sl_fromL {xs : List Int} {i : Int} (h : 0 ≤ i) : slD (.list (xs.map .int)) (some i) none = some (.new ((xs.drop i.toNat).map .int)) := by
  show some (Opd.new (cut _ _ _)) = _; rw [cut_from h, List.map_drop]
theorem f_abs {i : Int} : biD .abs [.int i] = some (.val (.int (i.natAbs : Nat))) := by
  show some (Opd.val (.int (if i < 0 then -i else i))) = _
  rw [show (if i < 0 then -i else i) = (i.natAbs : Nat) by split <;> omega]
theorem v_idx {xs0 xs : List D} {j : Nat} (ha : evE u gc c a ρ = some (.ok p ρ1)) (h0 : p.rd ρ1 = some (.list xs0)) (hb : evE u gc c b ρ1 = some (.ok q ρ2)) (hp : p.rd ρ2 = some (.list xs)) (hq : q.rd ρ2 = some y) (hf : (flat deep y && flatAll deep xs) = true) (hi : idxL y xs = some j) :
    evE u gc c (.idx a b) ρ = some (.ok (.val (.int (j : Nat))) ρ2) := by
  rw [E_idx, ha, bnd_ok, h0]
  show bnd (evE u gc c b ρ1) _ = _
  rw [hb, bnd_ok, hp, Option.bind_some, hq, Option.bind_some]
  show (if flat deep y && flatAll deep xs then _ else none) = _
  rw [if_pos hf, hi]; rfl
theorem v_cntT {xs : List D} (ha : evE u gc c a ρ = some (.ok (.val (.tuple xs)) ρ1)) (hb : evE u gc c b ρ1 = some (.ok q ρ2)) (hq : q.rd ρ2 = some y) (hf : (flat deep y && flatAll deep xs) = true) :
    evE u gc c (.cntT a b) ρ = some (.ok (.val (.int ((xs.countP fun z => PyData.eqv z y : Nat) : Int))) ρ2) := by
  rw [E_cntT, ha, bnd_ok]
  show bnd (evE u gc c b ρ1) _ = _
  rw [hb, bnd_ok, hq, Option.bind_some, if_pos hf]
theorem v_idxT {ns : List Int} {i : Int} (ha : evE u gc c a ρ = some (.ok (.val (.tuple (ns.map .int))) ρ1)) (hb : evE u gc c b ρ1 = some (.ok (.val (.int i)) ρ2)) (hi : i ∈ ns) :
    evE u gc c (.idxT a b) ρ = some (.ok (.val (.int ((ns.idxOf i : Nat) : Int))) ρ2) := by
  rw [E_idxT, ha, bnd_ok]
  show bnd (evE u gc c b ρ1) _ = _
  rw [hb, bnd_ok, intsOf_map]
  show (if i ∈ ns then _ else _) = _
  rw [if_pos hi]
theorem v_cnt {xs0 xs : List D} (ha : evE u gc c a ρ = some (.ok p ρ1)) (h0 : p.rd ρ1 = some (.list xs0)) (hb : evE u gc c b ρ1 = some (.ok q ρ2)) (hp : p.rd ρ2 = some (.list xs)) (hq : q.rd ρ2 = some y) (hf : (flat deep y && flatAll deep xs) = true) :
    evE u gc c (.cnt a b) ρ = some (.ok (.val (.int ((xs.countP fun z => PyData.eqv z y : Nat) : Int))) ρ2) := by
  rw [E_cnt, ha, bnd_ok, h0]
  show bnd (evE u gc c b ρ1) _ = _
  rw [hb, bnd_ok, hp, Option.bind_some, hq, Option.bind_some]
  show (if flat deep y && flatAll deep xs then _ else none) = _
  rw [if_pos hf]
theorem flat_iI {i : Int} {xs : List Int} : (flat deep (.int i) && flatAll deep (xs.map .int)) = true := by
  rw [flat_ints]; rfl
theorem v_lend {k j : Nat} {s0 : Bool} {xs ys : List D} (h : ρ[j]? = some (.ol s0 xs)) (hc : c k [.al xs] = some (.ok x [ys])) (h2 : ρ.set j (.ol s0 ys) = ρ2) : evE u gc c (.call k (.bo j .nil)) ρ = some (.ok (.val x) ρ2) := by
  rw [E_call]
  have e1 : evAs u gc c (.bo j .nil) ρ = some (.ok [.al j] ρ) := by
    simp only [evAs, h]; rfl
  rw [e1, bnd_ok, doCall]
  simp only [bos, collect, h, Option.map_some, Option.bind_some, hc, putB, h2]
  simp
theorem v_gcd {i j : Int} (ha : evE u gc c a ρ = some (.ok p ρ1)) (hb : evE u gc c b ρ1 = some (.ok q ρ2)) (hp : p.rd ρ2 = some (.int i)) (hq : q.rd ρ2 = some (.int j)) : evE u gc c (.gcd a b) ρ = some (.ok (.val (.int ((Nat.gcd i.natAbs j.natAbs : Nat) : Int))) ρ2) := by
  rw [E_gcd, ha, bnd_ok, hb, bnd_ok, hp, Option.bind_some, hq]; rfl
theorem v_rvL {xs : List D} (ha : evE u gc c a ρ = some (.ok p ρ1)) (hp : p.rd ρ1 = some (.list xs)) : evE u gc c (.rv a) ρ = some (.ok (.new xs.reverse) ρ1) := by
  rw [E_rv, ha, bnd_ok, hp]
theorem v_rvT {xs : List D} (ha : evE u gc c a ρ = some (.ok p ρ1)) (hp : p.rd ρ1 = some (.tuple xs)) : evE u gc c (.rv a) ρ = some (.ok (.val (.tuple xs.reverse)) ρ1) := by
  rw [E_rv, ha, bnd_ok, hp]
/-! ### list(range(..)) -/
def rgI (lo st : Int) (n : Nat) : List Int := (List.range n).map fun (i : Nat) => lo + (i : Nat) * st
theorem rngL_I {lo st : Int} {n : Nat} : rngL lo st n = (rgI lo st n).map .int := by
  unfold rngL rgI
  rw [List.map_map]; rfl
theorem v_lr1 {j : Int} (ha : evE u gc c a ρ = some (.ok (.val (.int j)) ρ1)) (hj : okR j = true) (hl : j.toNat ≤ line) : evE u gc c (.lr1 a) ρ = some (.ok (.new ((rgI 0 1 j.toNat).map .int)) ρ1) := by
  rw [E_lr1, ha, bnd_ok]
  show (if _ then _ else _) = _
  rw [hj, decide_eq_true hl, rngL_I]; rfl
theorem v_lr2 {i j : Int} (ha : evE u gc c a ρ = some (.ok (.val (.int i)) ρ1)) (hb : evE u gc c b ρ1 = some (.ok (.val (.int j)) ρ2)) (hi : okR i = true) (hj : okR j = true) (hl : (j - i).toNat ≤ line) : evE u gc c (.lr2 a b) ρ = some (.ok (.new ((rgI i 1 (j - i).toNat).map .int)) ρ2) := by
  rw [E_lr2, ha, bnd_ok, hb, bnd_ok]
  show (if _ then _ else _) = _
  rw [hi, hj, decide_eq_true hl, rngL_I]; rfl
theorem v_lr3 {i j s : Int} (ha : evE u gc c a ρ = some (.ok (.val (.int i)) ρ1)) (hb : evE u gc c b ρ1 = some (.ok (.val (.int j)) ρ2)) (hd : evE u gc c d ρ2 = some (.ok (.val (.int s)) ρ3)) (hi : okR i = true) (hj : okR j = true) (hs : (decide (0 < s) && decide (s ≤ 1000000) || s == -1) = true) (hl : rngN i j s ≤ line) : evE u gc c (.lr3 a b d) ρ = some (.ok (.new ((rgI i s (rngN i j s)).map .int)) ρ3) := by
  rw [E_lr3, ha, bnd_ok, hb, bnd_ok, hd, bnd_ok]
  show (if _ then _ else _) = _
  rw [hi, hj, hs, decide_eq_true hl, rngL_I]; rfl
/-- try: a suite that returns -/
theorem n_triR {B h ss : Ss} {s : Str} {i : Nat} (hb : exSs u gc c B ρ = some (.rt x ρ1)) : exSs u gc c (.cons (.tri B s i h) ss) ρ = some (.rt x ρ1) := by
  refine step_rt ?_
  rw [S_tri, hb]
/-- try: a suite that raises; the handler returns -/
theorem n_triX {B h ss : Ss} {s s' : Str} {i : Nat} (hb : exSs u gc c B ρ = some (.ex s' ρ1)) (hu : u s' s = some true) (hs : setSlot i (.ex s') ρ1 = some ρ2) (hh : exSs u gc c h ρ2 = some (.rt x ρ3)) (hc : clrX i ρ3 = some ρ4) : exSs u gc c (.cons (.tri B s i h) ss) ρ = some (.rt x ρ4) := by
  refine step_rt ?_
  rw [S_tri, hb]
  simp only [hu, Option.bind_some, hs, hh, hc, Option.map_some]
/-! ### raising -/
theorem v_ifeTO {ou : Option (Out Opd)} (ha : evE u gc c d ρ = some (.ok p ρ1)) (hp : p.rd ρ1 = some x) (ht : truD x = some true) (h : evE u gc c a ρ1 = ou) : evE u gc c (.ife d a b) ρ = ou := by
  rw [E_ife, ha]; simp only [tstO, bnd_ok, hp, Option.bind_some, ht, Option.map_some]; exact h
theorem v_ifeFO {ou : Option (Out Opd)} (ha : evE u gc c d ρ = some (.ok p ρ1)) (hp : p.rd ρ1 = some x) (ht : truD x = some false) (h : evE u gc c b ρ1 = ou) : evE u gc c (.ife d a b) ρ = ou := by
  rw [E_ife, ha]; simp only [tstO, bnd_ok, hp, Option.bind_some, ht, Option.map_some]; exact h
theorem n_retX {s : Str} {ss : Ss} (h : evE u gc c e ρ = some (.ex s ρ1)) : exSs u gc c (.cons (.ret e) ss) ρ = some (.ex s ρ1) := by
  refine step_ex ?_
  rw [S_ret, h]; rfl
theorem n_asgX {s : Str} {ss : Ss} {i : Nat} (h : evE u gc c e ρ = some (.ex s ρ1)) : exSs u gc c (.cons (.asg i e) ss) ρ = some (.ex s ρ1) := by
  refine step_ex ?_
  rw [S_asg, h]; rfl
theorem n_expX {s : Str} {ss : Ss} (h : evE u gc c e ρ = some (.ex s ρ1)) : exSs u gc c (.cons (.ex e) ss) ρ = some (.ex s ρ1) := by
  refine step_ex ?_
  simp only [exS, h]; rfl
theorem ss_nil' {ρ ρ' : Env} (h : ρ = ρ') : exSs u gc c .nil ρ = some (.nx ρ') := by subst h; exact ss_nil
end
end RX

end
section
set_option Elab.async false
set_option linter.all false
set_option maxRecDepth 100000
set_option maxHeartbeats 4000000
set_option autoImplicit false
/-! plain: draws one by one, comprehensions that draw -/
namespace RX
open PySem
section
variable {u : Sub} {gc : List D} {c : CF} {e : E} {ρ ρ1 : Env}
def tkV (xs : List Int) (b : Int) : Int := (xs.getLast?.getD 0) % b
def tkR (xs : List Int) : List Int := xs.dropLast
theorem tkV_lt {b : Int} (xs : List Int) (h : 0 < b) : 0 ≤ tkV xs b ∧ tkV xs b < b := ⟨Int.emod_nonneg _ (by omega), Int.emod_lt_of_pos _ h⟩
theorem take_at (xs : List Int) {b : Int} (hb : 0 < b) : finF [.al (xs.map .int), .av (.int b)] (exSs u gc c irTake (enter ⟨2, 2, irTake⟩ [.al (xs.map .int), .av (.int b)])) = some (.ok (.int (tkV xs b)) [(tkR xs).map .int]) := by
  rcases List.eq_nil_or_concat xs with rfl | ⟨ys, x, rfl⟩
  · have : tkV [] b = 0 := by simp [tkV]
    rw [this]; rfl
  · have h1 : (List.map PyData.int (ys ++ [x])).getLast? = some (PyData.int x) := by simp
    have h2 : (List.map PyData.int (ys ++ [x])).dropLast = List.map PyData.int ys := by simp
    have h3 : ((ys.length : Int) + 1 = 0) = False := by simp; omega
    have h4 : ¬ b = 0 := by omega
    have h5 : tkV (ys ++ [x]) b = x.fmod b := by
      unfold tkV
      rw [Int.fmod_eq_emod_of_nonneg _ (by omega)]; simp
    have h6 : tkR (ys ++ [x]) = ys := by simp [tkR]
    rw [List.concat_eq_append, h5, h6]
    simp [irTake, exSs, exS, evE, evT, tstO, enter, slotOf, bnd, bnS, biD, cmpD, cmpI, truD, Opd.rd, binD, binI, frz, Opd.fz, finF, outsL, h1, h2, h3, h4]
theorem take_c {T : List Fn} {k m : Nat} (hT : T[k]? = some ⟨2, 2, irTake⟩) (xs : List Int) {b : Int} (hb : 0 < b) : callF u gc T (m + 1) k [.al (xs.map .int), .av (.int b)] = some (.ok (.int (tkV xs b)) [(tkR xs).map .int]) := by
  rw [callF_at hT rfl]; exact take_at xs hb
theorem draws_c {T : List Fn} {k m : Nat} (hT : T[k]? = some ⟨1, 7, irDraws⟩) (ns : List Int) (h : ns.length ≤ 63) : ∃ xs : List Int, callF u gc T (m + 1) k [.av (.list (ns.map .int))] = some (.ow (xs.map .int) []) := by
  obtain ⟨xs, e⟩ := draws_ok (u := u) (gc := gc) (c := callF u gc T m) ns h
  refine ⟨xs, ?_⟩
  rw [callF_at hT rfl]; exact e
section
variable {α β : Type} {own : List Nat} {g : G} {it : It} {xs : List α} {enc : α → D}
/-- [e for x in ..] where e draws: the frame is E of a state -/
theorem v_lcE {E : β → Env} {Pv : D → Prop} {Ps : β → Prop} {s0 : β} (hi : evIt u gc c it ρ = some (.ok (xs.map enc) (E s0))) (hl : xs.length ≤ line) (hs : Ps s0) (hE : ∀ s, unw (E s0) (E s) own = E s)
    (h : ∀ a ∈ xs, ∀ s, Ps s → ∃ s' v ρ2 ρ3, asgG g (enc a) (wip (E s) own) = some ρ2 ∧ Gv u gc c e ρ2 v ρ3 ∧ wip ρ3 own = wip (E s') own ∧ Pv v ∧ Ps s') :
    ∃ vs s', evE u gc c (.lc own g it .nil e) ρ = some (.ok (.new vs) (E s')) ∧ vs.length = xs.length ∧ (∀ v ∈ vs, Pv v) ∧ Ps s' := by
  have core : ∀ (ys : List α) (s : β) (ρ' : Env), (∀ a ∈ ys, a ∈ xs) → Ps s → wip ρ' own = wip (E s) own → ∃ vs s' ρ'', lcL own (stpOf u gc c g .nil e) (ys.map enc) ρ' = some (vs, ρ'') ∧ wip ρ'' own = wip (E s') own ∧ vs.length = ys.length ∧ (∀ v ∈ vs, Pv v) ∧ Ps s' := by
    intro ys
    induction ys with
    | nil => exact fun s ρ' _ hp hw => ⟨[], s, ρ', rfl, hw, rfl, by simp, hp⟩
    | cons a ys ih =>
      intro s ρ' hm hp hw
      obtain ⟨s', v, ρ2, ρ3, h1, h2, h3, h4, h5⟩ := h a (hm a List.mem_cons_self) s hp
      obtain ⟨vs, s'', ρ'', e1, e2, e3, e4, e5⟩ := ih s' ρ3 (fun b hb => hm b (List.mem_cons_of_mem _ hb)) h5 h3
      refine ⟨v :: vs, s'', ρ'', ?_, e2, by simp [e3], fun w hw' => ?_, e5⟩
      · simp only [List.map_cons, lcL, hw, stp_yes h1 ts_nil h2, Option.bind_some, e1, Option.map_some, ocons]
      · rcases List.mem_cons.mp hw' with rfl | hw'
        · exact h4
        · exact e4 w hw'
  obtain ⟨vs, s', ρ', e1, e2, e3, e4, e5⟩ := core xs s0 (E s0) (fun _ h => h) hs rfl
  refine ⟨vs, s', ?_, e3, e4, e5⟩
  rw [evE_lc, hi]
  simp only [bnd_ok, List.length_map, if_pos hl, e1, Option.map_some, unw_wip e2, hE]
theorem ints_of {Q : Int → Prop} : ∀ {vs : List D}, (∀ v ∈ vs, ∃ i, v = .int i ∧ Q i) → ∃ is : List Int, vs = is.map .int ∧ ∀ i ∈ is, Q i
  | [], _ => ⟨[], rfl, by simp⟩
  | v :: vs, h => by
    obtain ⟨i, rfl, hi⟩ := h v List.mem_cons_self
    obtain ⟨is, rfl, h2⟩ := ints_of (vs := vs) fun w hw => h w (List.mem_cons_of_mem _ hw)
    exact ⟨i :: is, rfl, fun j hj => by
      rcases List.mem_cons.mp hj with rfl | hj
      · exact hi
      · exact h2 j hj⟩
/-- a list of integers is made -/
theorem v_lcEI {E : β → Env} {Q : Int → Prop} {Ps : β → Prop} {s0 : β} (hi : evIt u gc c it ρ = some (.ok (xs.map enc) (E s0))) (hl : xs.length ≤ line) (hs : Ps s0) (hE : ∀ s, unw (E s0) (E s) own = E s)
    (h : ∀ a ∈ xs, ∀ s, Ps s → ∃ s' i ρ2 ρ3, asgG g (enc a) (wip (E s) own) = some ρ2 ∧ Gv u gc c e ρ2 (.int i) ρ3 ∧ wip ρ3 own = wip (E s') own ∧ Q i ∧ Ps s') :
    ∃ (is : List Int) (s' : β), evE u gc c (.lc own g it .nil e) ρ = some (.ok (.new (is.map .int)) (E s')) ∧ is.length = xs.length ∧ (∀ i ∈ is, Q i) ∧ Ps s' := by
  obtain ⟨vs, s', h1, h2, h3, h4⟩ := v_lcE (Pv := fun v => ∃ i, v = .int i ∧ Q i) hi hl hs hE fun a ha s hp => let ⟨s', i, ρ2, ρ3, q1, q2, q3, q4, q5⟩ := h a ha s hp; ⟨s', .int i, ρ2, ρ3, q1, q2, q3, ⟨i, rfl, q4⟩, q5⟩
  obtain ⟨is, rfl, h5⟩ := ints_of h3
  exact ⟨is, s', h1, by simpa using h2, h5, h4⟩
/-- [.. for x in xs if t]: none has it -/
theorem v_lcN {cs : Es} {ds : List D} (hi : evIt u gc c it ρ = some (.ok ds ρ1)) (hl : ds.length ≤ line) (h : ∀ d ∈ ds, ∃ ρ2 ρ3, asgG g d (wip ρ1 own) = some ρ2 ∧ evTs u gc c cs ρ2 = some (.ok false ρ3) ∧ wip ρ3 own = wip ρ1 own) :
    evE u gc c (.lc own g it cs e) ρ = some (.ok (.new []) ρ1) := by
  have := v_lcM (α := D) (enc := id) (e := e) (g := g) (cs := cs) (own := own) (fun _ => none) (xs := ds) (by rw [List.map_id]; exact hi) hl fun d hd => let ⟨ρ2, ρ3, h1, h2, h3⟩ := h d hd; ⟨ρ3, stp_no h1 h2, h3⟩
  rw [this]; simp
end
theorem ix_last {xs : List D} {x : D} : ixD (.list (xs ++ [x])) (.int (-1)) = some x := by
  have h : ixOf (xs ++ [x]).length (-1) = some xs.length := by
    unfold ixOf
    rw [if_neg (by decide), if_pos (by simp; omega), List.length_append]
    congr 1
    simp
    omega
  simp only [ixD, h, Option.bind_some]
  simp
theorem says_c {T : List Fn} {k m : Nat} (hT : T[k]? = some ⟨2, 2, irSays⟩) (b : Bool) : callF u gc T (m + 1) k [.av (.bool b), .av (.bool b)] = some (.ok (.bool true) []) := by
  rw [callF_at hT rfl]; exact says_ok b
/-! ### values of any kind -/
def irNum : Ss := (.cons (.ret (.an (.isi (.v 0) .int) (.an (.no (.isi (.v 0) .bool)) (.ch .LtE .LtE (.v 1) (.v 0) (.v 2))))) .nil)
def numD (lo hi : Int) : D → Bool
  | .int i => decide (lo ≤ i) && decide (i ≤ hi)
  | _ => false
def noDict : D → Bool
  | .dict _ => false
  | _ => true
theorem num_any {T : List Fn} {k : Nat} (hT : T[k]? = some ⟨3, 3, irNum⟩) (m : Nat) {d : D} (h : noDict d = true) (lo hi : Int) : callF u gc T (m + 1) k [.av d, .av (.int lo), .av (.int hi)] = some (.ok (.bool (numD lo hi d)) []) := by
  rw [callF_at hT rfl]
  cases d with
  | dict _ => cases h
  | int v => by_cases h1 : lo ≤ v <;> by_cases h2 : v ≤ hi <;> simp [irNum, exSs, exS, evE, enter, slotOf, bnd, bnS, isD, cmpD, cmpI, tstO, truD, Opd.rd, frz, Opd.fz, finF, outsL, numD, h1, h2]
  | none => rfl
  | bool b => rfl
  | str s => rfl
  | list xs => rfl
  | tuple xs => rfl
section
variable {own : List Nat} {g : G} {it : It} {ds : List D}
theorem v_allD {F : D → Bool} (hi : evIt u gc c it ρ = some (.ok ds ρ1)) (hl : ds.length ≤ line) (h : ∀ a ∈ ds, ∃ ρ2 ρ3, asgG g a (wip ρ1 own) = some ρ2 ∧ Gv u gc c e ρ2 (.bool (F a)) ρ3 ∧ wip ρ3 own = wip ρ1 own) :
    evE u gc c (.gq .all own g it .nil e) ρ = some (.ok (.val (.bool (ds.all F))) ρ1) :=
  v_all (enc := id) (by rw [List.map_id]; exact hi) hl h
end
section
variable {own : List Nat} {g : G} {it : It} {ds : List D}
theorem v_lcD {F : D → D} (hi : evIt u gc c it ρ = some (.ok ds ρ1)) (hl : ds.length ≤ line) (h : ∀ a ∈ ds, ∃ ρ2 ρ3, asgG g a (wip ρ1 own) = some ρ2 ∧ Gv u gc c e ρ2 (F a) ρ3 ∧ wip ρ3 own = wip ρ1 own) :
    evE u gc c (.lc own g it .nil e) ρ = some (.ok (.new (ds.map F)) ρ1) :=
  v_lc (enc := id) (by rw [List.map_id]; exact hi) hl h
end
/-- a for loop, by an invariant -/
theorem for_inv {g : G} {bd : Ss} {ds : List D} (I : Nat → Env → Prop) (h0 : I 0 ρ) (h : ∀ (j : Nat) (d : D) (ρ : Env), ds[j]? = some d → I j ρ → ∃ ρ2 ρ3, asgG g d ρ = some ρ2 ∧ exSs u gc c bd ρ2 = some (.nx ρ3) ∧ I (j + 1) ρ3) :
    ∃ ρ', forL (fun d ρ => (asgG g d ρ).bind fun ρ => exSs u gc c bd ρ) ds ρ = some (.nx ρ') ∧ I ds.length ρ' := by
  have := forL_inv (b := fun d ρ => (asgG g d ρ).bind fun ρ => exSs u gc c bd ρ) I (ds := ds) (k := 0) (ρ := ρ) (fun j d ρ hj hI => by
    rw [Nat.zero_add] at hI ⊢
    obtain ⟨ρ2, ρ3, h1, h2, h3⟩ := h j d ρ hj hI
    exact ⟨ρ3, .inl (by show (asgG g d ρ).bind _ = _; rw [h1]; exact h2), h3⟩) h0
  rw [Nat.zero_add] at this
  exact this
/-- over range(n) -/
theorem for_rng {g : G} {bd : Ss} {n : Nat} (I : Nat → Env → Prop) (h0 : I 0 ρ) (h : ∀ (j : Nat) (ρ : Env), j < n → I j ρ → ∃ ρ2 ρ3, asgG g (.int (j : Nat)) ρ = some ρ2 ∧ exSs u gc c bd ρ2 = some (.nx ρ3) ∧ I (j + 1) ρ3) :
    ∃ ρ', forL (fun d ρ => (asgG g d ρ).bind fun ρ => exSs u gc c bd ρ) ((List.range n).map natD) ρ = some (.nx ρ') ∧ I n ρ' := by
  obtain ⟨ρ', h1, h2⟩ := for_inv (u := u) (gc := gc) (c := c) (g := g) (bd := bd) (ds := (List.range n).map natD) I h0 fun j d ρ hj hI => by
    rw [List.getElem?_map] at hj
    obtain ⟨i, hi, rfl⟩ := Option.map_eq_some_iff.mp hj
    obtain ⟨hlt, he⟩ := List.getElem?_eq_some_iff.mp hi
    rw [List.length_range] at hlt
    rw [List.getElem_range] at he
    subst he
    exact h j ρ hlt hI
  exact ⟨ρ', h1, by simpa using h2⟩
/-- [x for x in odd if f(x) is not False] == [] -/
theorem v_odds {i j f : Nat} {ds : List D} (hi : ρ[i]? = some (.sh (.list ds))) (hl : ds.length ≤ 1000) (hj : j < ρ.length) (h : ∀ d ∈ ds, c f [.av d] = some (.ok (.bool false) [])) :
    evE u gc c (.cmp .Eq (.lc [j] (.n j) (.seq (.v i)) (.cons (.cmp .IsNot (.call f (.ex (.v j) .nil)) (.k (.bool false))) .nil) (.v j)) (.lst .nil)) ρ = some (.ok (.val (.bool true)) ρ) := by
  have e1 : evE u gc c (.lc [j] (.n j) (.seq (.v i)) (.cons (.cmp .IsNot (.call f (.ex (.v j) .nil)) (.k (.bool false))) .nil) (.v j)) ρ = some (.ok (.new []) ρ) := by
    refine v_lcN (i_seq (gv (E_var hi)) rfl) (by unfold line; omega) fun d hd => ?_
    have hj2 : j < (wip ρ [j]).length := by rw [wip_len']; exact hj
    have hv : ((wip ρ [j]).set j (.sh d))[j]? = some (.sh d) := by rw [List.getElem?_set_self hj2]
    refine ⟨(wip ρ [j]).set j (.sh d), (wip ρ [j]).set j (.sh d), ?_, ?_, ?_⟩
    · show setSlot j _ _ = _
      unfold setSlot
      rw [if_pos hj2]
    · exact ts_one' (v_cmp (v_call (gc_cons (gv (E_var hv)) gc_nil) (h d hd)) e_k rfl rfl rfl) rfl rfl
    · show ((ρ.set j .no).set j (.sh d)).set j .no = ρ.set j .no
      rw [List.set_set, List.set_set]
  exact v_cmp e1 (e_lst es_nil (by decide)) rfl rfl rfl
end
theorem fineAll_ints (n : Nat) : ∀ xs : List Int, fineAll n (xs.map .int) = true
  | [] => by cases n <;> rfl
  | x :: xs => by
    rw [List.map_cons, fineAll, fineAll_ints n xs]
    cases n <;> rfl
theorem fine_tupI {n : Nat} {xs : List Int} (h : xs.length ≤ line) : fine (n + 1) (.tuple (xs.map .int)) = true := by
  rw [fine, fineAll_ints, List.length_map, decide_eq_true h]; rfl
theorem fine_listI {n : Nat} {xs : List Int} (h : xs.length ≤ line) : fine (n + 1) (.list (xs.map .int)) = true := by
  rw [fine, fineAll_ints, List.length_map, decide_eq_true h]; rfl
theorem pick3 {a b c t : Int} {P : Int → Prop} (h0 : 0 ≤ t) (h1 : t < 3) (pa : P a) (pb : P b) (pc : P c) : ∃ d, ixD (.list [.int a, .int b, .int c]) (.int t) = some (.int d) ∧ P d := by
  have : t = 0 ∨ t = 1 ∨ t = 2 := by omega
  rcases this with rfl | rfl | rfl
  · exact ⟨a, rfl, pa⟩
  · exact ⟨b, rfl, pb⟩
  · exact ⟨c, rfl, pc⟩
theorem pick2 {a b t : Int} {P : Int → Prop} (h0 : 0 ≤ t) (h1 : t < 2) (pa : P a) (pb : P b) : ∃ d, ixD (.list [.int a, .int b]) (.int t) = some (.int d) ∧ P d := by
  have : t = 0 ∨ t = 1 := by omega
  rcases this with rfl | rfl
  · exact ⟨a, rfl, pa⟩
  · exact ⟨b, rfl, pb⟩
theorem fineAll_nil (n : Nat) : fineAll n [] = true := by cases n <;> rfl
theorem fineAll_cons {n : Nat} {x : D} {xs : List D} (h : fine n x = true) (h2 : fineAll n xs = true) : fineAll n (x :: xs) = true := by rw [fineAll, h, h2]; rfl
theorem fine_list {n : Nat} {xs : List D} (hl : xs.length ≤ line) (h : fineAll n xs = true) : fine (n + 1) (.list xs) = true := by rw [fine, h, decide_eq_true hl]; rfl
theorem fine_tup {n : Nat} {xs : List D} (hl : xs.length ≤ line) (h : fineAll n xs = true) : fine (n + 1) (.tuple xs) = true := by rw [fine, h, decide_eq_true hl]; rfl
theorem t_lcn {u : Sub} {gc : List D} {c : CF} {g : G} {d0 : D} {own : List Nat} {ρ ρ0 ρ2 ρ3 : Env} {cs : Es} (h1 : asgG g d0 ρ = some ρ2) (h2 : evTs u gc c cs ρ2 = some (.ok false ρ3)) (h3 : wip ρ3 own = ρ0) :
    ∃ ρ2 ρ3, asgG g d0 ρ = some ρ2 ∧ evTs u gc c cs ρ2 = some (.ok false ρ3) ∧ wip ρ3 own = ρ0 := ⟨ρ2, ρ3, h1, h2, h3⟩
end RX

end
section
set_option Elab.async false
set_option linter.all false
set_option maxRecDepth 100000
set_option maxHeartbeats 400000
set_option autoImplicit false
/-! heights in gusts: plain -/
namespace M04
open PySem RX
/-! ### greatest, least -/
theorem maxL_ok : ∀ (xs : List Int) (m : Int), m ≤ maxL m xs ∧ (∀ x ∈ xs, x ≤ maxL m xs) ∧ (maxL m xs = m ∨ maxL m xs ∈ xs)
  | [], m => ⟨Int.le_refl _, fun _ h => by simp at h, .inl rfl⟩
  | y :: ys, m => by
    unfold maxL
    have h := maxL_ok ys (if y > m then y else m)
    refine ⟨by have := h.1; split at this <;> omega, fun x hx => ?_, ?_⟩
    · rcases List.mem_cons.mp hx with rfl | hx
      · have := h.1; split at this <;> omega
      · exact h.2.1 x hx
    · rcases h.2.2 with e | e
      · split at e
        · rename_i hy; rw [if_pos hy, e]; exact .inr List.mem_cons_self
        · rename_i hy; rw [if_neg hy]; exact .inl e
      · exact .inr (List.mem_cons_of_mem _ e)
theorem max_ok {c : List Int} (h : c ≠ []) : maxI c ∈ c ∧ ∀ x ∈ c, x ≤ maxI c := by
  cases c with
  | nil => exact (h rfl).elim
  | cons a l =>
    have q := maxL_ok l a
    refine ⟨?_, fun x hx => ?_⟩
    · rcases q.2.2 with e | e
      · show maxL a l ∈ _; rw [e]; exact List.mem_cons_self
      · exact List.mem_cons_of_mem _ e
    · rcases List.mem_cons.mp hx with rfl | hx
      · exact q.1
      · exact q.2.1 x hx
theorem max_is {c : List Int} {m : Int} (h : m ∈ c) (h2 : ∀ x ∈ c, x ≤ m) : maxI c = m := by
  have q := max_ok (c := c) fun z => by rw [z] at h; simp at h
  have h3 := q.2 _ h
  have h4 := h2 _ q.1
  omega
/-! ### heights, sums from the start -/
section
variable (g : List Int)
def pre : Nat → Int
  | 0 => 0
  | j + 1 => pre j + at0 g (j : Nat)
def hh (s : Int) : Nat → Int
  | 0 => s
  | j + 1 => max 0 (hh s j + at0 g (j : Nat))
def hl (s : Int) (m : Nat) : List Int := (List.range (m + 1)).map (hh g s)
variable {g}
theorem hl_succ (s : Int) (m : Nat) : hl g s (m + 1) = hl g s m ++ [hh g s (m + 1)] := by
  unfold hl
  rw [List.range_succ, List.map_append]; rfl
theorem hl_len (s : Int) (m : Nat) : (hl g s m).length = m + 1 := by simp [hl]
theorem hl_ne (s : Int) (m : Nat) : hl g s m ≠ [] := fun z => by have := hl_len (g := g) s m; rw [z] at this; simp at this
theorem hl_at {s : Int} {m j : Nat} (h : j ≤ m) : at0 (hl g s m) (j : Nat) = hh g s j := by
  unfold at0
  rw [if_pos (by omega)]
  have : ((j : Nat) : Int).toNat = j := by omega
  rw [this, List.getD_eq_getElem?_getD]
  unfold hl
  rw [List.getElem?_map, List.getElem?_range (by omega)]; rfl
theorem hl_last {s : Int} {m : Nat} : at0 (hl g s m) (-1) = hh g s m := by
  unfold at0
  rw [if_neg (by omega), hl_len]
  have : ((-1 : Int) + ((m + 1 : Nat) : Int)).toNat = m := by omega
  rw [this, List.getD_eq_getElem?_getD]
  unfold hl
  rw [List.getElem?_map, List.getElem?_range (by omega)]; rfl
theorem hl_mem {s : Int} {m : Nat} {x : Int} : x ∈ hl g s m ↔ ∃ j, j ≤ m ∧ x = hh g s j := by
  unfold hl
  simp only [List.mem_map, List.mem_range]
  exact ⟨fun ⟨j, h, e⟩ => ⟨j, by omega, e.symm⟩, fun ⟨j, h, e⟩ => ⟨j, by omega, e.symm⟩⟩
theorem at0_nat {xs : List Int} {j : Nat} (h : j < xs.length) : at0 xs (j : Nat) = xs[j] := by
  unfold at0
  rw [if_pos (by omega)]
  have : ((j : Nat) : Int).toNat = j := by omega
  rw [this, List.getD_eq_getElem?_getD, List.getElem?_eq_getElem h]; rfl
theorem at0_out {xs : List Int} {j : Nat} (h : xs.length ≤ j) : at0 xs (j : Nat) = 0 := by
  unfold at0
  rw [if_pos (by omega)]
  have : ((j : Nat) : Int).toNat = j := by omega
  rw [this, List.getD_eq_getElem?_getD, List.getElem?_eq_none h]; rfl
theorem pre_take : ∀ {k : Nat}, k ≤ g.length → (g.take k).sum = pre g k
  | 0, _ => by simp [pre]
  | k + 1, h => by
    rw [List.take_succ_eq_append_getElem (by omega), List.sum_append, pre_take (by omega), pre, at0_nat (by omega)]; simp
theorem pre_all : g.sum = pre g g.length := by
  have := pre_take (g := g) (k := g.length) (Nat.le_refl _)
  rwa [List.take_length] at this
theorem pre_drop {k : Nat} (h : k ≤ g.length) : (g.drop k).sum = pre g g.length - pre g k := by
  have h1 := pre_take h
  have h2 : g.sum = (g.take k).sum + (g.drop k).sum := by conv => lhs; rw [← List.take_append_drop k g, List.sum_append]
  have h3 := pre_all (g := g)
  omega
theorem pre_cut {a b : Nat} (h : a ≤ b) (h2 : b ≤ g.length) : ((g.drop a).take (b - a)).sum = pre g b - pre g a := by
  have h1 := pre_take (g := g) (k := a) (by omega)
  have h3 := pre_take (g := g) (k := b) h2
  have e : g.take b = g.take a ++ (g.drop a).take (b - a) := by
    conv => lhs; rw [show b = a + (b - a) by omega, List.take_add]
  have h4 : (g.take b).sum = (g.take a).sum + ((g.drop a).take (b - a)).sum := by rw [e, List.sum_append]
  omega
theorem hh_0 {s : Int} (h : 0 ≤ s) : ∀ j, 0 ≤ hh g s j
  | 0 => h
  | j + 1 => by rw [hh]; omega
theorem hh_ge {s : Int} : ∀ j, s + pre g j ≤ hh g s j
  | 0 => by simp [pre, hh]
  | j + 1 => by have := hh_ge (s := s) j; rw [hh, pre]; omega
theorem hh_st {s : Int} (h : 0 ≤ s) {i : Nat} : ∀ {j}, i ≤ j → pre g j - pre g i ≤ hh g s j
  | j, hi => by
    rcases Nat.lt_or_ge i j with h1 | h1
    · cases j with
      | zero => omega
      | succ j => have := hh_st h (i := i) (j := j) (by omega); rw [hh, pre]; omega
    · obtain rfl : i = j := by omega
      have := hh_0 (g := g) h i
      omega
theorem hh_is {s : Int} : ∀ j, hh g s j = s + pre g j ∨ ∃ i, 1 ≤ i ∧ i ≤ j ∧ hh g s j = pre g j - pre g i
  | 0 => .inl (by simp [pre, hh])
  | j + 1 => by
    rw [hh, pre]
    rcases Int.lt_or_le (hh g s j + at0 g (j : Nat)) 0 with h1 | h1
    · exact .inr ⟨j + 1, by omega, by omega, by rw [pre]; omega⟩
    · rcases hh_is (s := s) j with e | ⟨i, h2, h3, e⟩
      · exact .inl (by omega)
      · exact .inr ⟨i, h2, by omega, by omega⟩
/-- the last height -/
theorem last_ok {s : Int} (h : 0 ≤ s) : maxI ([s + g.sum] ++ (List.range g.length).map fun k => (g.drop (k + 1)).sum) = hh g s g.length := by
  refine max_is ?_ fun x hx => ?_
  · rcases hh_is (g := g) (s := s) g.length with e | ⟨i, h1, h2, e⟩
    · rw [e, ← pre_all]; simp
    · refine List.mem_append_right _ (List.mem_map.mpr ⟨i - 1, List.mem_range.mpr (by omega), ?_⟩)
      rw [show i - 1 + 1 = i by omega, pre_drop h2, e]
  · rcases List.mem_append.mp hx with hx | hx
    · have : x = s + g.sum := by simpa using hx
      have := hh_ge (g := g) (s := s) g.length
      have := pre_all (g := g)
      omega
    · obtain ⟨k, hk, rfl⟩ := List.mem_map.mp hx
      have hk := List.mem_range.mp hk
      rw [pre_drop (by omega)]
      exact hh_st h (by omega)
theorem gap (s : Int) : ∀ j, (hh g (s + 1) j - hh g s j = 0 ∨ hh g (s + 1) j - hh g s j = 1) ∧ hh g (s + 1) (j + 1) - hh g s (j + 1) ≤ hh g (s + 1) j - hh g s j
  | 0 => by
    have e1 : hh g (s + 1) 1 = max 0 (s + 1 + at0 g (0 : Nat)) := rfl
    have e2 : hh g s 1 = max 0 (s + at0 g (0 : Nat)) := rfl
    have e3 : hh g (s + 1) 0 = s + 1 := rfl
    have e4 : hh g s 0 = s := rfl
    rw [e1, e2, e3, e4]; omega
  | j + 1 => by
    have h := (gap s j).1
    have e1 : hh g (s + 1) (j + 1) = max 0 (hh g (s + 1) j + at0 g (j : Nat)) := rfl
    have e2 : hh g s (j + 1) = max 0 (hh g s j + at0 g (j : Nat)) := rfl
    have e3 : hh g (s + 1) (j + 1 + 1) = max 0 (hh g (s + 1) (j + 1) + at0 g ((j + 1 : Nat) : Int)) := rfl
    have e4 : hh g s (j + 1 + 1) = max 0 (hh g s (j + 1) + at0 g ((j + 1 : Nat) : Int)) := rfl
    generalize at0 g ((j + 1 : Nat) : Int) = x at *
    generalize at0 g (j : Nat) = y at *
    omega
theorem hh_mono {g' : List Int} (h : ∀ j : Nat, at0 g (j : Nat) ≤ at0 g' (j : Nat)) (s : Int) : ∀ j, hh g s j ≤ hh g' s j
  | 0 => Int.le_refl _
  | j + 1 => by have := hh_mono h s j; have := h j; rw [hh, hh]; omega
/-! ### stretches -/
/-- the stretches that begin at a, then those of all before a -/
def rowS (g : List Int) (a : Nat) : List (Int × Int × Int) := (List.range (g.length - a)).map fun i => (pre g (a + 1 + i) - pre g a, ((a + 1 + i : Nat) : Int), -((a : Nat) : Int))
def sumS (g : List Int) : Nat → List (Int × Int × Int)
  | 0 => []
  | a + 1 => sumS g a ++ rowS g a
theorem sumS_mem {m : Nat} {t : Int × Int × Int} (hm : m ≤ g.length) : t ∈ sumS g m ↔ ∃ a b : Nat, a < m ∧ a < b ∧ b ≤ g.length ∧ t = (pre g b - pre g a, (b : Int), -(a : Int)) := by
  induction m with
  | zero => simp [sumS]
  | succ m ih =>
    rw [sumS, List.mem_append, ih (by omega)]
    constructor
    · rintro (⟨a, b, h1, h2, h3, e⟩ | h)
      · exact ⟨a, b, by omega, h2, h3, e⟩
      · obtain ⟨i, hi, e⟩ := List.mem_map.mp h
        have hi := List.mem_range.mp hi
        exact ⟨m, m + 1 + i, by omega, by omega, by omega, e.symm⟩
    · rintro ⟨a, b, h1, h2, h3, e⟩
      rcases Nat.lt_or_ge a m with h4 | h4
      · exact .inl ⟨a, b, h4, h2, h3, e⟩
      · obtain rfl : a = m := by omega
        refine .inr (List.mem_map.mpr ⟨b - (a + 1), List.mem_range.mpr (by omega), ?_⟩)
        rw [show a + 1 + (b - (a + 1)) = b by omega, e]
theorem sumS_len : ∀ {m : Nat}, (sumS g m).length ≤ m * g.length
  | 0 => by simp [sumS]
  | m + 1 => by
    have := sumS_len (m := m)
    simp only [sumS, rowS, List.length_append, List.length_map, List.length_range]
    rw [Nat.add_mul]; omega
def topI (g : List Int) : Int := maxI (hl g 0 g.length)
theorem top_0 : 0 ≤ topI g := (max_ok (hl_ne (g := g) 0 g.length)).2 _ (hl_mem.mpr ⟨0, by omega, rfl⟩)
theorem top_ge {j : Nat} (h : j ≤ g.length) : hh g 0 j ≤ topI g := (max_ok (hl_ne (g := g) 0 g.length)).2 _ (hl_mem.mpr ⟨j, h, rfl⟩)
theorem top_ok : maxI ([0] ++ (sumS g g.length).map (·.1)) = topI g := by
  obtain ⟨j, hj, e⟩ := hl_mem.mp (max_ok (hl_ne (g := g) 0 g.length)).1
  refine max_is ?_ fun x hx => ?_
  · show maxI (hl g 0 g.length) ∈ _
    rw [e]
    have : hh g 0 j = 0 ∨ ∃ a, a < j ∧ hh g 0 j = pre g j - pre g a := by
      rcases hh_is (g := g) (s := 0) j with e | ⟨i, h1, h2, e⟩
      · cases j with
        | zero => exact .inl rfl
        | succ j => exact .inr ⟨0, by omega, by rw [e, pre.eq_1]; omega⟩
      · rcases Nat.lt_or_ge i j with h3 | h3
        · exact .inr ⟨i, h3, e⟩
        · obtain rfl : i = j := by omega
          exact .inl (by omega)
    rcases this with h | ⟨a, ha, h⟩
    · rw [h]; simp
    · rw [h]
      exact List.mem_append_right _ (List.mem_map.mpr ⟨_, (sumS_mem (Nat.le_refl _)).mpr ⟨a, j, by omega, ha, hj, rfl⟩, rfl⟩)
  · rcases List.mem_append.mp hx with hx | hx
    · have : x = 0 := by simpa using hx
      have := top_0 (g := g)
      omega
    · obtain ⟨t, ht, rfl⟩ := List.mem_map.mp hx
      obtain ⟨a, b, h1, h2, h3, rfl⟩ := (sumS_mem (Nat.le_refl _)).mp ht
      exact Int.le_trans (hh_st (Int.le_refl _) (by omega)) (top_ge h3)
/-- the told spell -/
structure Spell (g : List Int) (f t : Nat) : Prop where
  tn : t ≤ g.length
  ft : f < t
  top : hh g 0 t = topI g
  fst : ∀ j, j < t → hh g 0 j ≠ topI g
  sum : pre g t - pre g f = topI g
  lst : ∀ a, f < a → a ≤ t → pre g t - pre g a ≠ topI g
theorem SeqAt_ne {xs : List Int} {x : Int} {j : Nat} (hj : j < xs.idxOf x) (h1 : j < xs.length) (h2 : xs[j] = x) : False := by
  induction xs generalizing j with
  | nil => simp at h1
  | cons y ys ih =>
    rw [List.idxOf_cons] at hj
    by_cases hy : (y == x) = true
    · rw [hy] at hj; simp at hj
    · have hy' : (y == x) = false := by simpa using hy
      rw [hy'] at hj
      simp only [cond_false] at hj
      cases j with
      | zero =>
        have : y = x := h2
        subst this; simp at hy
      | succ j => exact ih (j := j) (by omega) (by simpa using h1) (by simpa using h2)
theorem idx_ok (h : 0 < topI g) : ∃ t, t ≤ g.length ∧ (hl g 0 g.length).idxOf (topI g) = t ∧ topI g ∈ hl g 0 g.length ∧ hh g 0 t = topI g ∧ ∀ j, j < t → hh g 0 j ≠ topI g := by
  have hm : topI g ∈ hl g 0 g.length := (max_ok (hl_ne (g := g) 0 g.length)).1
  have hlt := List.idxOf_lt_length_iff.mpr hm
  have hl2 := hlt
  rw [hl_len] at hl2
  refine ⟨_, by omega, rfl, hm, ?_, fun j hj e => ?_⟩
  · have h3 := List.getElem_idxOf hlt
    have h4 : (hl g 0 g.length)[(hl g 0 g.length).idxOf (topI g)] = hh g 0 ((hl g 0 g.length).idxOf (topI g)) := by
      simp only [hl, List.getElem_map, List.getElem_range]
    rw [← h4]; exact h3
  · have h1 : j < (hl g 0 g.length).length := by omega
    have h2 : (hl g 0 g.length)[j] = topI g := by simpa [hl] using e
    exact SeqAt_ne hj h1 h2
theorem spell_ex {t : Nat} (h : 0 < topI g) (ht : t ≤ g.length) (h1 : hh g 0 t = topI g) : ∃ a, a < t ∧ pre g t - pre g a = topI g := by
  rcases hh_is (g := g) (s := 0) t with e | ⟨i, h2, h3, e⟩
  · cases t with
    | zero =>
      have : hh g 0 0 = 0 := rfl
      omega
    | succ t => exact ⟨0, by omega, by rw [← h1, e, pre.eq_1]; omega⟩
  · refine ⟨i, ?_, by omega⟩
    rcases Nat.lt_or_ge i t with h3 | h3
    · exact h3
    · obtain rfl : i = t := by omega
      omega
theorem down {P : Nat → Prop} [DecidablePred P] : ∀ t : Nat, (∃ a, a ≤ t ∧ P a) → ∃ f, f ≤ t ∧ P f ∧ ∀ a, f < a → a ≤ t → ¬ P a := by
  intro t
  induction t with
  | zero =>
    rintro ⟨a, h1, h2⟩
    obtain rfl : a = 0 := by omega
    exact ⟨0, Nat.le_refl _, h2, fun a h h' => by omega⟩
  | succ t ih =>
    rintro ⟨a, h1, h2⟩
    by_cases h : P (t + 1)
    · exact ⟨t + 1, Nat.le_refl _, h, fun a h h' => by omega⟩
    · have ha : a ≤ t := by
        rcases Nat.lt_or_ge a (t + 1) with h3 | h3
        · omega
        · obtain rfl : a = t + 1 := by omega
          exact (h h2).elim
      obtain ⟨f, q1, q2, q3⟩ := ih ⟨a, ha, h2⟩
      refine ⟨f, by omega, q2, fun a h3 h4 => ?_⟩
      rcases Nat.lt_or_ge a (t + 1) with h5 | h5
      · exact q3 a h3 (by omega)
      · obtain rfl : a = t + 1 := by omega
        exact h
theorem spell_ok (h : 0 < topI g) : ∃ f t, Spell g f t ∧ (hl g 0 g.length).idxOf (topI g) = t ∧ topI g ∈ hl g 0 g.length := by
  obtain ⟨t, h1, h2, h3, h4, h5⟩ := idx_ok h
  obtain ⟨a, q1, q2⟩ := spell_ex h h1 h4
  obtain ⟨f, r1, r2, r3⟩ := down (P := fun a => pre g t - pre g a = topI g) t ⟨a, by omega, q2⟩
  refine ⟨f, t, ⟨h1, ?_, h4, h5, r2, r3⟩, h2, h3⟩
  rcases Nat.lt_or_ge f t with h6 | h6
  · exact h6
  · obtain rfl : f = t := by omega
    omega
/-- the first of the sorted pairs -/
theorem leP_iff {p q : Int × Int} : leP p q = true ↔ p.1 < q.1 ∨ (p.1 = q.1 ∧ p.2 ≤ q.2) := by
  unfold leP; simp
theorem sortP_head {l : List (Int × Int)} {p : Int × Int} (h : p ∈ l) (h2 : ∀ q ∈ l, leP p q = true) : ∃ r, sortP l = p :: r := by
  induction l with
  | nil => simp at h
  | cons x l ih =>
    rw [sortP]
    have ins : ∀ (y : Int × Int) (r : List (Int × Int)), ∃ r', insP y r = y :: r' ∨ ∃ z r0, r = z :: r0 ∧ leP y z = false ∧ insP y r = z :: r' := fun y r => by
      cases r with
      | nil => exact ⟨[], .inl rfl⟩
      | cons z r0 =>
        rw [insP]
        by_cases hz : leP y z = true
        · rw [if_pos hz]; exact ⟨_, .inl rfl⟩
        · rw [if_neg hz]; exact ⟨_, .inr ⟨z, r0, rfl, by simpa using hz, rfl⟩⟩
    by_cases hx : p ∈ l
    · obtain ⟨r, e⟩ := ih hx fun q hq => h2 q (List.mem_cons_of_mem _ hq)
      rw [e, insP]
      by_cases hz : leP x p = true
      · have h3 := leP_iff.mp (h2 x List.mem_cons_self)
        have h4 := leP_iff.mp hz
        have : x = p := by
          obtain ⟨a, b⟩ := x
          obtain ⟨c, d⟩ := p
          simp only at h3 h4
          have h5 : a = c := by omega
          have h6 : b = d := by omega
          rw [h5, h6]
        rw [if_pos hz, this]; exact ⟨_, rfl⟩
      · rw [if_neg hz]; exact ⟨_, rfl⟩
    · have hp : p = x := by
        rcases List.mem_cons.mp h with h | h
        · exact h
        · exact (hx h).elim
      subst hp
      obtain ⟨r', e | ⟨z, r0, e1, e2, e3⟩⟩ := ins p (sortP l)
      · exact ⟨r', e⟩
      · have hz : z ∈ l := (sortP_perm l).mem_iff.mp (by rw [e1]; exact List.mem_cons_self)
        rw [h2 z (List.mem_cons_of_mem _ hz)] at e2
        cases e2
theorem best_ok {f t : Nat} (S : Spell g f t) : ∃ r, sortP (((sumS g g.length).filter fun q => decide (q.1 = topI g)).map fun q => (q.2.1, q.2.2)) = ((t : Int), -(f : Int)) :: r := by
  refine sortP_head (List.mem_map.mpr ⟨_, List.mem_filter.mpr ⟨(sumS_mem (Nat.le_refl _)).mpr ⟨f, t, by have := S.ft; have := S.tn; omega, S.ft, S.tn, rfl⟩, decide_eq_true S.sum⟩, rfl⟩) fun q hq => ?_
  obtain ⟨x, hx, rfl⟩ := List.mem_map.mp hq
  obtain ⟨h1, h2⟩ := List.mem_filter.mp hx
  obtain ⟨a, b, h3, h4, h5, rfl⟩ := (sumS_mem (Nat.le_refl _)).mp h1
  have h6 : pre g b - pre g a = topI g := of_decide_eq_true h2
  have h7 : hh g 0 b = topI g := by
    have := top_ge h5
    have := hh_st (g := g) (s := 0) (Int.le_refl _) (i := a) (j := b) (by omega)
    omega
  rw [leP_iff]
  show (t : Int) < (b : Int) ∨ ((t : Int) = (b : Int) ∧ -(f : Int) ≤ -(a : Int))
  rcases Nat.lt_trichotomy b t with h8 | h8 | h8
  · exact (S.fst b h8 h7).elim
  · subst h8
    refine .inr ⟨rfl, ?_⟩
    rcases Nat.lt_or_ge f a with h9 | h9
    · exact (S.lst a h9 (by omega) h6).elim
    · omega
  · exact .inl (by omega)
/-! ### the least start, what is ahead -/
def low (g : List Int) : Nat → Int
  | 0 => 0
  | j + 1 => min (low g j) (pre g (j + 1))
def bes (g : List Int) : Nat → Int
  | 0 => 0
  | j + 1 => max (bes g j) (pre g (j + 1))
theorem low_ok : ∀ n : Nat, low g n ≤ 0 ∧ (∀ k, k ≤ n → low g n ≤ pre g k) ∧ (low g n = 0 ∨ ∃ k, 1 ≤ k ∧ k ≤ n ∧ low g n = pre g k)
  | 0 => ⟨Int.le_refl _, fun k h => by obtain rfl : k = 0 := by omega
                                       exact Int.le_refl _, .inl rfl⟩
  | n + 1 => by
    obtain ⟨h1, h2, h3⟩ := low_ok n
    rw [low]
    refine ⟨by omega, fun k hk => ?_, ?_⟩
    · rcases Nat.lt_or_ge k (n + 1) with h | h
      · have := h2 k (by omega); omega
      · obtain rfl : k = n + 1 := by omega
        omega
    · rcases Int.lt_or_le (pre g (n + 1)) (low g n) with h | h
      · exact .inr ⟨n + 1, by omega, by omega, by omega⟩
      · rcases h3 with e | ⟨k, q1, q2, e⟩
        · exact .inl (by omega)
        · exact .inr ⟨k, q1, by omega, by omega⟩
theorem bes_ok : ∀ n : Nat, 0 ≤ bes g n ∧ (∀ k, k ≤ n → pre g k ≤ bes g n) ∧ ∃ k, k ≤ n ∧ bes g n = pre g k
  | 0 => ⟨Int.le_refl _, fun k h => by obtain rfl : k = 0 := by omega
                                       exact Int.le_refl _, 0, Nat.le_refl _, rfl⟩
  | n + 1 => by
    obtain ⟨h1, h2, k0, h3, h4⟩ := bes_ok n
    rw [bes]
    refine ⟨by omega, fun k hk => ?_, ?_⟩
    · rcases Nat.lt_or_ge k (n + 1) with h | h
      · have := h2 k (by omega); omega
      · obtain rfl : k = n + 1 := by omega
        omega
    · rcases Int.lt_or_le (bes g n) (pre g (n + 1)) with h | h
      · exact ⟨n + 1, by omega, by omega⟩
      · exact ⟨k0, by omega, by omega⟩
theorem need_ok : maxI ([1] ++ (List.range g.length).map fun i => 1 - (g.take (1 + i)).sum) = 1 - low g g.length := by
  obtain ⟨h1, h2, h3⟩ := low_ok (g := g) g.length
  refine max_is ?_ fun x hx => ?_
  · rcases h3 with e | ⟨k, q1, q2, e⟩
    · rw [e]; simp
    · refine List.mem_append_right _ (List.mem_map.mpr ⟨k - 1, List.mem_range.mpr (by omega), ?_⟩)
      rw [show 1 + (k - 1) = k by omega, pre_take q2, e]
  · rcases List.mem_append.mp hx with hx | hx
    · have : x = 1 := by simpa using hx
      omega
    · obtain ⟨k, hk, rfl⟩ := List.mem_map.mp hx
      have hk := List.mem_range.mp hk
      rw [pre_take (by omega)]
      have := h2 (1 + k) (by omega)
      omega
theorem ahead_ok : maxI ((List.range (g.length + 1)).map fun i => (g.take i).sum) = bes g g.length := by
  obtain ⟨h1, h2, k, h3, h4⟩ := bes_ok (g := g) g.length
  refine max_is (List.mem_map.mpr ⟨k, List.mem_range.mpr (by omega), by rw [pre_take h3, h4]⟩) fun x hx => ?_
  obtain ⟨k, hk, rfl⟩ := List.mem_map.mp hx
  have hk := List.mem_range.mp hk
  rw [pre_take (by omega)]
  exact h2 k (by omega)
/-- down to nought behind the start -/
theorem zero_ok {s : Int} (h : 0 < s) : ((hl g s g.length).drop 1).any (fun x => decide (x = 0)) = decide (s < 1 - low g g.length) := by
  obtain ⟨h1, h2, h3⟩ := low_ok (g := g) g.length
  have e : ∀ x, x ∈ (hl g s g.length).drop 1 ↔ ∃ j, 1 ≤ j ∧ j ≤ g.length ∧ x = hh g s j := fun x => by
    unfold hl
    rw [List.range_succ_eq_map, List.map_cons, List.drop_one, List.tail_cons, List.map_map]
    simp only [List.mem_map, List.mem_range, Function.comp]
    exact ⟨fun ⟨j, q1, q2⟩ => ⟨j + 1, by omega, by omega, q2.symm⟩, fun ⟨j, q1, q2, q3⟩ => ⟨j - 1, by omega, by rw [q3]; congr 1; omega⟩⟩
  by_cases hs : s < 1 - low g g.length
  · rw [decide_eq_true hs]
    rcases h3 with e0 | ⟨k, q1, q2, e0⟩
    · omega
    · -- the first place at which s and what came are used up
      have key : ∀ j, j ≤ g.length → (∃ k, 1 ≤ k ∧ k ≤ j ∧ s + pre g k ≤ 0) → ∃ k, 1 ≤ k ∧ k ≤ j ∧ hh g s k = 0 := fun j => by
        induction j with
        | zero => exact fun _ ⟨k, a, b, _⟩ => by omega
        | succ j ih =>
          rintro hj ⟨k, a, b, cc⟩
          by_cases hk : ∃ k, 1 ≤ k ∧ k ≤ j ∧ s + pre g k ≤ 0
          · obtain ⟨k', a', b', c'⟩ := ih (by omega) hk
            exact ⟨k', a', by omega, c'⟩
          · have hkj : k = j + 1 := by
              rcases Nat.lt_or_ge k (j + 1) with h5 | h5
              · exact (hk ⟨k, a, by omega, cc⟩).elim
              · omega
            subst hkj
            have hpos : ∀ i, i ≤ j → hh g s i = s + pre g i := fun i => by
              induction i with
              | zero => intro _; simp [hh, pre]
              | succ i ih2 =>
                intro hi
                rw [hh, pre, ih2 (by omega)]
                have : ¬ (s + pre g (i + 1) ≤ 0) := fun z => hk ⟨i + 1, by omega, hi, z⟩
                rw [pre] at this
                omega
            refine ⟨j + 1, by omega, Nat.le_refl _, ?_⟩
            rw [hh, hpos j (Nat.le_refl _)]
            rw [pre] at cc
            omega
      obtain ⟨j, a, b, cc⟩ := key g.length (Nat.le_refl _) ⟨k, q1, q2, by omega⟩
      exact List.any_eq_true.mpr ⟨_, (e _).mpr ⟨j, a, b, rfl⟩, decide_eq_true cc⟩
  · rw [decide_eq_false hs, List.any_eq_false]
    intro x hx
    obtain ⟨j, a, b, rfl⟩ := (e _).mp hx
    have := hh_ge (g := g) (s := s) j
    have := h2 j b
    simp only [decide_eq_true_eq]
    omega
/-! ### read backwards -/
theorem pre_rev {j : Nat} (h : j ≤ g.length) : pre g.reverse j = pre g g.length - pre g (g.length - j) := by
  rw [← pre_take (g := g.reverse) (k := j) (by rw [List.length_reverse]; exact h), List.take_reverse]
  have e : ((g.drop (g.length - j)).reverse).sum = (g.drop (g.length - j)).sum := by
    exact List.sum_reverse _
  rw [e, pre_drop (by omega)]
theorem rev_ok : hh g.reverse 0 g.length = bes g g.length := by
  obtain ⟨h1, h2, k, h3, h4⟩ := bes_ok (g := g) g.length
  have a1 : bes g g.length ≤ hh g.reverse 0 g.length := by
    have := hh_st (g := g.reverse) (s := 0) (Int.le_refl _) (i := g.length - k) (j := g.length) (by omega)
    rw [pre_rev (Nat.le_refl _), pre_rev (by omega), show g.length - (g.length - k) = k by omega, Nat.sub_self] at this
    have e0 : pre g 0 = 0 := rfl
    omega
  have a2 : hh g.reverse 0 g.length ≤ bes g g.length := by
    rcases hh_is (g := g.reverse) (s := 0) g.length with e | ⟨i, q1, q2, e⟩
    · rw [pre_rev (Nat.le_refl _), Nat.sub_self] at e
      have e0 : pre g 0 = 0 := rfl
      have := h2 g.length (Nat.le_refl _)
      omega
    · rw [pre_rev (Nat.le_refl _), pre_rev q2, Nat.sub_self] at e
      have e0 : pre g 0 = 0 := rfl
      have := h2 (g.length - i) (by omega)
      omega
  omega
end
/-! ### all orders -/
def ins (x : Int) (l : List Int) : List (List Int) := (List.range (l.length + 1)).map fun k => l.take k ++ [x] ++ l.drop k
def ordF (acc : List (List Int)) (x : Int) : List (List Int) := acc.flatMap (ins x)
def ords (row : List Int) : List (List Int) := row.foldl ordF [[]]
theorem ins_rev (x : Int) (l : List Int) : ((ins x l).map List.reverse).Perm (ins x l.reverse) := by
  have e : (ins x l).map List.reverse = (ins x l.reverse).reverse := by
    refine List.ext_getElem? fun i => ?_
    by_cases hi : i < l.length + 1
    · rw [List.getElem?_reverse (by simp [ins]; exact hi)]
      simp only [ins, List.length_map, List.length_range, List.length_reverse, List.getElem?_map]
      rw [List.getElem?_range hi, List.getElem?_range (by omega)]
      simp only [Option.map_some]
      congr 1
      rw [List.reverse_append, List.reverse_append, List.take_reverse, List.drop_reverse]
      rw [show l.length - (l.length + 1 - 1 - i) = i by omega]
      simp
    · rw [List.getElem?_eq_none (by simp [ins]; omega), List.getElem?_eq_none (by simp [ins]; omega)]
  rw [e]
  exact List.reverse_perm _
theorem ordF_rev {acc : List (List Int)} (x : Int) (h : (acc.map List.reverse).Perm acc) : ((ordF acc x).map List.reverse).Perm (ordF acc x) := by
  unfold ordF
  rw [List.map_flatMap]
  have h1 : (acc.flatMap fun l => (ins x l).map List.reverse).Perm (acc.flatMap fun l => ins x l.reverse) := by
    clear h
    induction acc with
    | nil => exact .refl _
    | cons a acc ih =>
      rw [List.flatMap_cons, List.flatMap_cons]
      exact (ins_rev x a).append ih
  have h2 : (acc.flatMap fun l => ins x l.reverse) = (acc.map List.reverse).flatMap (ins x) := by rw [List.flatMap_map]
  rw [h2] at h1
  exact h1.trans (h.flatMap_right _)
theorem foldl_rev : ∀ (row : List Int) {acc : List (List Int)}, (acc.map List.reverse).Perm acc → ((row.foldl ordF acc).map List.reverse).Perm (row.foldl ordF acc)
  | [], _, h => h
  | x :: r, _, h => foldl_rev r (ordF_rev x h)
theorem ords_rev (row : List Int) : ((ords row).map List.reverse).Perm (ords row) := foldl_rev row (.refl _)
/-- how long they are, how many there are -/
def Few (k : Nat) (acc : List (List Int)) : Prop := (∀ l ∈ acc, l.length = k) ∧ acc.length ≤ 6 ^ k
theorem few_ins {x : Int} {k : Nat} (hk : k ≤ 5) {acc : List (List Int)} (h : Few k acc) : Few (k + 1) (ordF acc x) := by
  refine ⟨fun l hl => ?_, ?_⟩
  · obtain ⟨m, hm, hl⟩ := List.mem_flatMap.mp hl
    obtain ⟨i, hi, rfl⟩ := List.mem_map.mp hl
    have hi := List.mem_range.mp hi
    have := h.1 m hm
    simp; omega
  · have : (ordF acc x).length ≤ acc.length * 6 := by
      have h1 := h.1
      clear h
      unfold ordF
      induction acc with
      | nil => simp
      | cons a acc ih =>
        have h2 := ih fun l hl => h1 l (List.mem_cons_of_mem _ hl)
        have h3 := h1 a List.mem_cons_self
        rw [List.flatMap_cons, List.length_append, List.length_cons]
        have : (ins x a).length = k + 1 := by simp [ins, h3]
        omega
    have h2 := h.2
    calc (ordF acc x).length ≤ acc.length * 6 := this
      _ ≤ 6 ^ k * 6 := Nat.mul_le_mul_right _ h2
      _ = 6 ^ (k + 1) := (Nat.pow_succ ..).symm
theorem ords_sort (row : List Int) : sortI ((ords row).map fun l => hh l 0 l.length) = sortI ((ords row).map fun l => bes l l.length) := by
  refine srt_one (sortI_srt _) (sortI_srt _) ((sortI_perm _).trans (.trans ?_ (sortI_perm _).symm))
  have e : ∀ l : List Int, hh l 0 l.length = bes l.reverse l.reverse.length := fun l => by
    have := rev_ok (g := l.reverse)
    rw [List.reverse_reverse, List.length_reverse] at this
    rw [this, List.length_reverse]
  have e2 : (ords row).map (fun l => hh l 0 l.length) = ((ords row).map List.reverse).map fun l => bes l l.length := by
    rw [List.map_map]
    exact List.map_congr_left fun l _ => e l
  rw [e2]
  exact (ords_rev row).map _
/-- one gust more -/
def more (g : List Int) (k : Nat) : List Int := g.take k ++ [min 30 (at0 g (k : Nat) + 1)] ++ g.drop (k + 1)
theorem more_len {g : List Int} {k : Nat} (h : k < g.length) : (more g k).length = g.length := by simp [more]; omega
theorem more_ge {g : List Int} {k : Nat} (h : k < g.length) (hb : ∀ x ∈ g, x ≤ 30) (j : Nat) : at0 g (j : Nat) ≤ at0 (more g k) (j : Nat) := by
  rcases Nat.lt_or_ge j g.length with h1 | h1
  · have h2 : j < (more g k).length := by rw [more_len h]; exact h1
    rw [at0_nat h1, at0_nat h2]
    have e : (more g k)[j]? = some ((more g k)[j]) := List.getElem?_eq_getElem h2
    have e2 : (more g k)[j]? = (g.take k ++ [min 30 (at0 g (k : Nat) + 1)] ++ g.drop (k + 1))[j]? := rfl
    rw [e2] at e
    rcases Nat.lt_trichotomy j k with h3 | h3 | h3
    · rw [List.getElem?_append_left (by simp; omega), List.getElem?_append_left (by simp; omega), List.getElem?_take, if_pos h3, List.getElem?_eq_getElem h1] at e
      rw [← Option.some.inj e]; exact Int.le_refl _
    · subst h3
      rw [List.getElem?_append_left (by simp; omega), List.getElem?_append_right (by simp; omega)] at e
      have hb' := hb _ (List.getElem_mem h1)
      have : j - (g.take j).length = 0 := by simp; omega
      rw [this] at e
      have e3 := Option.some.inj e
      rw [at0_nat h1] at e3
      omega
    · rw [List.getElem?_append_right (by simp; omega), List.getElem?_drop] at e
      simp only [List.length_append, List.length_take, List.length_singleton] at e
      rw [show k + 1 + (j - (min k g.length + 1)) = j by omega, List.getElem?_eq_getElem h1] at e
      rw [← Option.some.inj e]; exact Int.le_refl _
  · rw [at0_out h1, at0_out (by rw [more_len h]; exact h1)]; exact Int.le_refl _
end M04

end
section
set_option maxRecDepth 100000
set_option maxHeartbeats 4000000
namespace K04
open PySem PySem.Spec PyProof.Rows L2 RX
def top (i : Nat) : Stmt := PySem.Challenge.pw_kiteheld_k04_whole_heights_in_gusts.main.body.getD i (.Pass ⟨0, 0, 0, 0⟩)
abbrev s_is_number_1 : S :=
  (.ret (.an (.isi (.v 0) .int) (.an (.no (.isi (.v 0) .bool)) (.ch .LtE .LtE (.v 1) (.v 0) (.v 2)))))
abbrev ir_is_number : Ss :=
  (.cons s_is_number_1 .nil)
abbrev f_is_number : Fn := ⟨3, 3, ir_is_number⟩
def r_is_number : RX.Row := ⟨"is_number", top 8, ["value", "least", "most"], ["value", "least", "most"], f_is_number⟩
abbrev s_are_gusts_1 : S :=
  (.ifs (.orr (.no (.isi (.v 0) .tuple)) (.cmp .Gt (.b1 .len (.v 0)) (.gi 0))) (.cons (.ret (.k (.bool false)))
  .nil) .nil)
abbrev s_are_gusts_2 : S :=
  (.ret (.gq .all [1] (.n 1) (.seq (.v 0)) .nil (.call 0 (.ex (.v 1) (.ex (.neg (.gi 1)) (.ex (.gi 1) .nil))))))
abbrev ir_are_gusts : Ss :=
  (.cons s_are_gusts_1 (.cons s_are_gusts_2 .nil))
abbrev f_are_gusts : Fn := ⟨1, 2, ir_are_gusts⟩
def r_are_gusts : RX.Row := ⟨"are_gusts", top 13, ["value", "one"], ["value"], f_are_gusts⟩
abbrev s_check_start_1 : S :=
  (.ifs (.no (.call 0 (.ex (.v 0) (.ex (.k (.int 0)) (.ex (.gi 2) .nil))))) (.cons (.rais "OutOfRange")
  .nil) .nil)
abbrev ir_check_start : Ss :=
  (.cons s_check_start_1 .nil)
abbrev f_check_start : Fn := ⟨1, 1, ir_check_start⟩
def r_check_start : RX.Row := ⟨"check_start", top 14, ["start"], ["start"], f_check_start⟩
abbrev s_heights_of_1 : S :=
  (.ex (.call 2 (.ex (.v 1) .nil)))
abbrev s_heights_of_2 : S :=
  (.asgO 2 (.lst (.cons (.v 1) .nil)))
abbrev b_heights_of_1 : Ss :=
  (.cons (.ex (.app 2 (.b2 .max (.k (.int 0)) (.bin .Add (.ix (.v 2) (.neg (.k (.int 1)))) (.v 3)))))
  .nil)
abbrev s_heights_of_3 : S :=
  (.forr (.n 3) (.seq (.v 0)) b_heights_of_1)
abbrev s_heights_of_4 : S :=
  (.ret (.b1 .tuple (.v 2)))
abbrev ir_heights_of : Ss :=
  (.cons s_heights_of_1 (.cons s_heights_of_2 (.cons s_heights_of_3 (.cons s_heights_of_4 .nil))))
abbrev f_heights_of : Fn := ⟨2, 4, ir_heights_of⟩
def r_heights_of : RX.Row := ⟨"heights_of", top 15, ["gusts", "start", "found", "gust"], ["gusts", "start"], f_heights_of⟩
abbrev s_top_of_1 : S :=
  (.ret (.b1 .max (.call 3 (.ex (.v 0) (.ex (.v 1) .nil)))))
abbrev ir_top_of : Ss :=
  (.cons s_top_of_1 .nil)
abbrev f_top_of : Fn := ⟨2, 2, ir_top_of⟩
def r_top_of : RX.Row := ⟨"top_of", top 16, ["gusts", "start"], ["gusts", "start"], f_top_of⟩
abbrev s_spell_of_1 : S :=
  (.asg 1 (.call 4 (.ex (.v 0) (.ex (.k (.int 0)) .nil))))
abbrev s_spell_of_2 : S :=
  (.ifs (.cmp .Eq (.v 1) (.k (.int 0))) (.cons (.ret (.k .none))
  .nil) .nil)
abbrev s_spell_of_3 : S :=
  (.asg 2 (.idxT (.call 3 (.ex (.v 0) (.ex (.k (.int 0)) .nil))) (.v 1)))
abbrev s_spell_of_4 : S :=
  (.asg 3 (.k (.int 0)))
abbrev s_spell_of_5 : S :=
  (.asg 4 (.v 2))
abbrev t_spell_of_1 : E :=
  (.cmp .NotEq (.v 3) (.v 1))
abbrev b_spell_of_1 : Ss :=
  (.cons (.aug 4 .Sub (.k (.int 1)))
  (.cons (.aug 3 .Add (.ix (.v 0) (.v 4)))
  .nil))
abbrev s_spell_of_6 : S :=
  (.whl t_spell_of_1 b_spell_of_1)
abbrev s_spell_of_7 : S :=
  (.ret (.tup (.cons (.v 4) (.cons (.v 2) .nil))))
abbrev ir_spell_of : Ss :=
  (.cons s_spell_of_1 (.cons s_spell_of_2 (.cons s_spell_of_3 (.cons s_spell_of_4 (.cons s_spell_of_5 (.cons s_spell_of_6 (.cons s_spell_of_7 .nil)))))))
abbrev f_spell_of : Fn := ⟨1, 5, ir_spell_of⟩
def r_spell_of : RX.Row := ⟨"spell_of", top 17, ["gusts", "top", "to", "total", "first"], ["gusts"], f_spell_of⟩
abbrev s_landings_of_1 : S :=
  (.asg 2 (.call 3 (.ex (.v 0) (.ex (.v 1) .nil))))
abbrev s_landings_of_2 : S :=
  (.ret (.b1 .tuple (.lc [3] (.n 3) (.r1 (.b1 .len (.v 0))) (.cons (.an (.cmp .Eq (.ix (.v 2) (.bin .Add (.v 3) (.k (.int 1)))) (.k (.int 0))) (.cmp .Gt (.ix (.v 2) (.v 3)) (.k (.int 0)))) .nil) (.v 3))))
abbrev ir_landings_of : Ss :=
  (.cons s_landings_of_1 (.cons s_landings_of_2 .nil))
abbrev f_landings_of : Fn := ⟨2, 4, ir_landings_of⟩
def r_landings_of : RX.Row := ⟨"landings_of", top 19, ["gusts", "start", "heights", "at"], ["gusts", "start"], f_landings_of⟩
abbrev s_least_start_1 : S :=
  (.asg 1 (.k (.int 0)))
abbrev s_least_start_2 : S :=
  (.asg 2 (.k (.int 0)))
abbrev b_least_start_1 : Ss :=
  (.cons (.aug 1 .Add (.v 3))
  (.cons (.asg 2 (.b2 .min (.v 2) (.v 1)))
  .nil))
abbrev s_least_start_3 : S :=
  (.forr (.n 3) (.seq (.v 0)) b_least_start_1)
abbrev s_least_start_4 : S :=
  (.asg 4 (.bin .Sub (.k (.int 1)) (.v 2)))
abbrev s_least_start_5 : S :=
  (.ret (.ife (.cmp .LtE (.v 4) (.gi 2)) (.v 4) (.k .none)))
abbrev ir_least_start : Ss :=
  (.cons s_least_start_1 (.cons s_least_start_2 (.cons s_least_start_3 (.cons s_least_start_4 (.cons s_least_start_5 .nil)))))
abbrev f_least_start : Fn := ⟨1, 5, ir_least_start⟩
def r_least_start : RX.Row := ⟨"least_start", top 20, ["gusts", "total", "lowest", "gust", "found"], ["gusts"], f_least_start⟩
abbrev s_greatest_ahead_1 : S :=
  (.asg 1 (.k (.int 0)))
abbrev s_greatest_ahead_2 : S :=
  (.asg 2 (.k (.int 0)))
abbrev b_greatest_ahead_1 : Ss :=
  (.cons (.aug 1 .Add (.v 3))
  (.cons (.asg 2 (.b2 .max (.v 2) (.v 1)))
  .nil))
abbrev s_greatest_ahead_3 : S :=
  (.forr (.n 3) (.seq (.v 0)) b_greatest_ahead_1)
abbrev s_greatest_ahead_4 : S :=
  (.ret (.v 2))
abbrev ir_greatest_ahead : Ss :=
  (.cons s_greatest_ahead_1 (.cons s_greatest_ahead_2 (.cons s_greatest_ahead_3 (.cons s_greatest_ahead_4 .nil))))
abbrev f_greatest_ahead : Fn := ⟨1, 4, ir_greatest_ahead⟩
def r_greatest_ahead : RX.Row := ⟨"greatest_ahead", top 21, ["gusts", "total", "best", "gust"], ["gusts"], f_greatest_ahead⟩
abbrev s__law_draws_1 : S :=
  (.asgO 1 (.lst .nil))
abbrev b__law_draws_1 : Ss :=
  (.cons (.ifs (.cmp .Gt (.v 5) (.k (.int 0))) (.cons (.ex (.app 1 (.bin .Mod (.b1 .int (.v 5)) (.k (.int 997)))))
  (.cons (.asg 5 (.bin .FloorDiv (.v 5) (.k (.int 997))))
  .nil)) .nil)
  .nil)
abbrev b__law_draws_2 : Ss :=
  (.cons (.asg 5 (.b1 .abs (.v 2)))
  (.cons (.ifs (.cmp .Lt (.v 5) (.bin .Pow (.k (.int 10)) (.k (.int 18)))) (.cons (.asg 6 (.bin .Mod (.b1 .int (.bin .Add (.bin .Mult (.v 5) (.k (.int 48271))) (.k (.int 11)))) (.k (.int 2147483647))))
  (.cons (.ex (.app 1 (.bin .Mod (.b1 .int (.bin .Add (.bin .Mult (.v 6) (.k (.int 69621))) (.v 5))) (.k (.int 2147483629)))))
  (.cons (.ex (.app 1 (.bin .Mod (.b1 .int (.bin .Add (.v 6) (.bin .FloorDiv (.v 5) (.k (.int 7))))) (.k (.int 1000003)))))
  (.cons (.asg 5 (.k (.int 0)))
  .nil)))) .nil)
  (.cons (.forr (.n 4) (.r1 (.k (.int 60))) b__law_draws_1)
  .nil)))
abbrev s__law_draws_2 : S :=
  (.forr (.n 2) (.seq (.v 0)) b__law_draws_2)
abbrev s__law_draws_3 : S :=
  (.asg 3 (.k (.int 1)))
abbrev s__law_draws_4 : S :=
  (.ifs (.cmp .Gt (.b1 .len (.v 0)) (.k (.int 0))) (.cons (.asg 3 (.bin .Add (.k (.int 1)) (.b1 .abs (.ix (.v 0) (.k (.int 0))))))
  .nil) .nil)
abbrev b__law_draws_3 : Ss :=
  (.cons (.asg 3 (.bin .Mod (.b1 .int (.bin .Add (.bin .Mult (.v 3) (.k (.int 48271))) (.k (.int 69621)))) (.k (.int 2147483647))))
  (.cons (.ex (.app 1 (.bin .FloorDiv (.v 3) (.k (.int 5)))))
  .nil))
abbrev s__law_draws_5 : S :=
  (.forr (.n 4) (.r1 (.k (.int 900))) b__law_draws_3)
abbrev s__law_draws_6 : S :=
  (.retO (.lrev (.v 1)))
abbrev ir__law_draws : Ss :=
  (.cons s__law_draws_1 (.cons s__law_draws_2 (.cons s__law_draws_3 (.cons s__law_draws_4 (.cons s__law_draws_5 (.cons s__law_draws_6 .nil))))))
abbrev f__law_draws : Fn := ⟨1, 7, ir__law_draws⟩
def r__law_draws : RX.Row := ⟨"_law_draws", top 23, ["script", "draws", "cell", "seed", "k", "number", "first"], ["script"], f__law_draws⟩
abbrev s__law_take_1 : S :=
  (.ifs (.cmp .Eq (.b1 .len (.v 0)) (.k (.int 0))) (.cons (.ret (.k (.int 0)))
  .nil) .nil)
abbrev s__law_take_2 : S :=
  (.ret (.bin .Mod (.b1 .int (.pop 0)) (.v 1)))
abbrev ir__law_take : Ss :=
  (.cons s__law_take_1 (.cons s__law_take_2 .nil))
abbrev f__law_take : Fn := ⟨2, 2, ir__law_take⟩
def r__law_take : RX.Row := ⟨"_law_take", top 24, ["draws", "bound"], ["draws", "bound"], f__law_take⟩
abbrev s__law_alike_1 : S :=
  (.ifs (.orr (.isi (.v 1) .list) (.isi (.v 1) .tuple)) (.cons (.ifs (.orr (.cmp .NotEq (.isi (.v 0) .list) (.isi (.v 1) .list)) (.cmp .NotEq (.isi (.v 0) .tuple) (.isi (.v 1) .tuple))) (.cons (.ret (.k (.bool false)))
  .nil) .nil)
  (.cons (.ret (.an (.cmp .Eq (.b1 .len (.v 0)) (.b1 .len (.v 1))) (.cmp .Eq (.lc [2] (.n 2) (.r1 (.b1 .len (.v 1))) (.cons (.no (.call 11 (.ex (.ix (.v 0) (.v 2)) (.ex (.ix (.v 1) (.v 2)) .nil)))) .nil) (.v 2)) (.lst .nil))))
  .nil)) .nil)
abbrev s__law_alike_2 : S :=
  (.ifs (.cmp .Is (.v 1) (.k .none)) (.cons (.ret (.cmp .Is (.v 0) (.k .none)))
  .nil) .nil)
abbrev s__law_alike_3 : S :=
  (.ifs (.orr (.isi (.v 1) .bool) (.isi (.v 0) .bool)) (.cons (.ret (.an (.isi (.v 0) .bool) (.an (.isi (.v 1) .bool) (.cmp .Eq (.v 0) (.v 1)))))
  .nil) .nil)
abbrev s__law_alike_4 : S :=
  (.ifs (.isi (.v 1) .int) (.cons (.ret (.an (.isi (.v 0) .int) (.cmp .Eq (.v 0) (.v 1))))
  .nil) .nil)
abbrev s__law_alike_5 : S :=
  (.ret (.an (.isi (.v 0) .str) (.cmp .Eq (.v 0) (.v 1))))
abbrev ir__law_alike : Ss :=
  (.cons s__law_alike_1 (.cons s__law_alike_2 (.cons s__law_alike_3 (.cons s__law_alike_4 (.cons s__law_alike_5 .nil)))))
abbrev f__law_alike : Fn := ⟨2, 3, ir__law_alike⟩
def r__law_alike : RX.Row := ⟨"_law_alike", top 25, ["found", "due", "k"], ["found", "due"], f__law_alike⟩
abbrev s__law_says_1 : S :=
  (.ret (.an (.isi (.v 0) .bool) (.cmp .Eq (.v 0) (.v 1))))
abbrev ir__law_says : Ss :=
  (.cons s__law_says_1 .nil)
abbrev f__law_says : Fn := ⟨2, 2, ir__law_says⟩
def r__law_says : RX.Row := ⟨"_law_says", top 26, ["told", "due"], ["told", "due"], f__law_says⟩
abbrev s__law_word_hot_1 : S :=
  (.asg 1 (.lst (.cons (.isx 0 "OutOfRange") (.cons (.isx 0 "Malformed") (.cons (.isx 0 "NotThere") (.cons (.isx 0 "Refused") (.cons (.isx 0 "TooMuch") .nil)))))))
abbrev s__law_word_hot_2 : S :=
  (.ifs (.cmp .NotEq (.b1 .len (.lch [2] (.n 2) (.v 1) (.cons (.v 2) .nil) (.v 2))) (.k (.int 1))) (.cons (.ret (.k (.str "many")))
  .nil) .nil)
abbrev s__law_word_hot_3 : S :=
  (.ret (.ix (.lst (.cons (.k (.str "range")) (.cons (.k (.str "form")) (.cons (.k (.str "none")) (.cons (.k (.str "refused")) (.cons (.k (.str "much")) .nil)))))) (.idx (.v 1) (.k (.bool true)))))
abbrev ir__law_word_hot : Ss :=
  (.cons s__law_word_hot_1 (.cons s__law_word_hot_2 (.cons s__law_word_hot_3 .nil)))
abbrev f__law_word_hot : Fn := ⟨1, 3, ir__law_word_hot⟩
def r__law_word_hot : RX.Row := ⟨"_law_word", top 27, ["e", "kinds", "one"], ["e"], f__law_word_hot⟩
abbrev s__law_told_1 : S :=
  (.tri (.cons (.ifs (.cmp .Eq (.v 0) (.k (.int 0))) (.cons (.ret (.call 3 (.ex (.v 1) (.ex (.v 2) .nil))))
  .nil) .nil)
  (.cons (.ret (.ife (.cmp .Eq (.v 0) (.k (.int 1))) (.call 4 (.ex (.v 1) (.ex (.v 2) .nil))) (.call 6 (.ex (.v 1) (.ex (.v 2) .nil)))))
  .nil)) "KiteError" 3 (.cons (.ret (.call 13 (.xv 3 .nil)))
  .nil))
abbrev ir__law_told : Ss :=
  (.cons s__law_told_1 .nil)
abbrev f__law_told : Fn := ⟨3, 4, ir__law_told⟩
def r__law_told : RX.Row := ⟨"_law_told", top 28, ["which", "gusts", "start", "e"], ["which", "gusts", "start"], f__law_told⟩
abbrev s__law_heights_1 : S :=
  (.asgO 2 (.lst (.cons (.v 1) .nil)))
abbrev b__law_heights_1 : Ss :=
  (.cons (.ex (.app 2 (.ife (.cmp .Gt (.bin .Add (.ix (.v 2) (.neg (.k (.int 1)))) (.v 3)) (.k (.int 0))) (.bin .Add (.ix (.v 2) (.neg (.k (.int 1)))) (.v 3)) (.k (.int 0)))))
  .nil)
abbrev s__law_heights_2 : S :=
  (.forr (.n 3) (.seq (.v 0)) b__law_heights_1)
abbrev s__law_heights_3 : S :=
  (.ret (.b1 .tuple (.v 2)))
abbrev ir__law_heights : Ss :=
  (.cons s__law_heights_1 (.cons s__law_heights_2 (.cons s__law_heights_3 .nil)))
abbrev f__law_heights : Fn := ⟨2, 4, ir__law_heights⟩
def r__law_heights : RX.Row := ⟨"_law_heights", top 29, ["gusts", "start", "row", "gust"], ["gusts", "start"], f__law_heights⟩
abbrev s__law_gusts_1 : S :=
  (.asg 1 (.call 10 (.bo 0 (.ex (.ix (.lst (.cons (.k (.int 4)) (.cons (.k (.int 12)) (.cons (.k (.int 41)) .nil)))) (.call 10 (.bo 0 (.ex (.k (.int 3)) .nil)))) .nil))))
abbrev s__law_gusts_2 : S :=
  (.asg 2 (.ix (.lst (.cons (.k (.int 1)) (.cons (.k (.int 4)) (.cons (.k (.int 30)) .nil)))) (.call 10 (.bo 0 (.ex (.k (.int 3)) .nil)))))
abbrev s__law_gusts_3 : S :=
  (.asg 3 (.lc [4] (.n 4) (.r1 (.v 1)) .nil (.bin .Sub (.call 10 (.bo 0 (.ex (.bin .Add (.bin .Mult (.k (.int 2)) (.v 2)) (.k (.int 1))) .nil))) (.v 2))))
abbrev s__law_gusts_4 : S :=
  (.ifs (.cmp .Eq (.call 10 (.bo 0 (.ex (.k (.int 3)) .nil))) (.k (.int 0))) (.cons (.asg 3 (.lc [5] (.n 5) (.r1 (.v 1)) .nil (.ife (.cmp .Eq (.bin .Mult (.bin .FloorDiv (.v 5) (.k (.int 2))) (.k (.int 2))) (.v 5)) (.b1 .abs (.ix (.v 3) (.v 5))) (.bin .Sub (.k (.int 0)) (.b1 .abs (.ix (.v 3) (.v 5)))))))
  .nil) .nil)
abbrev s__law_gusts_5 : S :=
  (.ret (.b1 .tuple (.v 3)))
abbrev ir__law_gusts : Ss :=
  (.cons s__law_gusts_1 (.cons s__law_gusts_2 (.cons s__law_gusts_3 (.cons s__law_gusts_4 (.cons s__law_gusts_5 .nil)))))
abbrev f__law_gusts : Fn := ⟨1, 6, ir__law_gusts⟩
def r__law_gusts : RX.Row := ⟨"_law_gusts", top 30, ["draws", "many", "wide", "row", "gust", "k"], ["draws"], f__law_gusts⟩
abbrev s__law_orders_1 : S :=
  (.asg 1 (.lst (.cons (.tup .nil) .nil)))
abbrev b__law_orders_1 : Ss :=
  (.cons (.asg 3 (.bin .Add (.v 3) (.lc [5] (.n 5) (.r1 (.bin .Add (.b1 .len (.v 4)) (.k (.int 1)))) .nil (.bin .Add (.bin .Add (.sl (.v 4) .no (.so (.v 5))) (.tup (.cons (.v 2) .nil))) (.sl (.v 4) (.so (.v 5)) .no)))))
  .nil)
abbrev b__law_orders_2 : Ss :=
  (.cons (.asg 3 (.lst .nil))
  (.cons (.forr (.n 4) (.seq (.v 1)) b__law_orders_1)
  (.cons (.asg 1 (.v 3))
  .nil)))
abbrev s__law_orders_2 : S :=
  (.forr (.n 2) (.seq (.v 0)) b__law_orders_2)
abbrev s__law_orders_3 : S :=
  (.ret (.v 1))
abbrev ir__law_orders : Ss :=
  (.cons s__law_orders_1 (.cons s__law_orders_2 (.cons s__law_orders_3 .nil)))
abbrev f__law_orders : Fn := ⟨1, 6, ir__law_orders⟩
def r__law_orders : RX.Row := ⟨"_law_orders", top 31, ["row", "found", "one", "later", "some", "k"], ["row"], f__law_orders⟩
abbrev s_law_1 : S :=
  (.asgO 1 (.call 9 (.ex (.v 0) .nil)))
abbrev s_law_2 : S :=
  (.asg 2 (.call 16 (.bo 1 .nil)))
abbrev s_law_3 : S :=
  (.asg 3 (.b1 .len (.v 2)))
abbrev s_law_4 : S :=
  (.ifs (.no (.call 12 (.ex (.call 1 (.ex (.v 2) .nil)) (.ex (.k (.bool true)) .nil)))) (.cons (.ret (.k (.bool false)))
  .nil) .nil)
abbrev b_law_1 : Ss :=
  (.cons (.asg 16 (.call 15 (.ex (.v 2) (.ex (.v 4) .nil))))
  (.cons (.asg 17 (.b1 .tuple (.lc [19] (.n 19) (.r1 (.v 3)) (.cons (.an (.cmp .Eq (.ix (.v 16) (.bin .Add (.v 19) (.k (.int 1)))) (.k (.int 0))) (.cmp .Gt (.ix (.v 16) (.v 19)) (.k (.int 0)))) .nil) (.v 19))))
  (.cons (.ifs (.no (.call 11 (.ex (.lc [26] (.n 26) (.r1 (.k (.int 3))) .nil (.call 14 (.ex (.v 26) (.ex (.v 2) (.ex (.v 4) .nil))))) (.ex (.lst (.cons (.v 16) (.cons (.b1 .max (.v 16)) (.cons (.v 17) .nil)))) .nil)))) (.cons (.ret (.k (.bool false)))
  .nil) .nil)
  (.cons (.ifs (.cmp .NotEq (.ix (.v 16) (.neg (.k (.int 1)))) (.b1 .max (.bin .Add (.lst (.cons (.bin .Add (.v 4) (.b1 .sum (.v 2))) .nil)) (.lc [19] (.n 19) (.r1 (.v 3)) .nil (.b1 .sum (.sl (.v 2) (.so (.bin .Add (.v 19) (.k (.int 1)))) .no)))))) (.cons (.ret (.k (.bool false)))
  .nil) .nil)
  (.cons (.ifs (.cmp .Lt (.v 4) (.k (.int 100))) (.cons (.asg 21 (.call 3 (.ex (.v 2) (.ex (.bin .Add (.v 4) (.k (.int 1))) .nil))))
  (.cons (.asg 22 (.lc [19] (.n 19) (.r1 (.bin .Add (.v 3) (.k (.int 1)))) .nil (.bin .Sub (.ix (.v 21) (.v 19)) (.ix (.v 16) (.v 19)))))
  (.cons (.ifs (.cmp .NotEq (.lc [19] (.n 19) (.r1 (.bin .Add (.v 3) (.k (.int 1)))) (.cons (.orr (.cmp .NotIn (.ix (.v 22) (.v 19)) (.lst (.cons (.k (.int 0)) (.cons (.k (.int 1)) .nil)))) (.an (.cmp .Gt (.v 19) (.k (.int 0))) (.cmp .Gt (.ix (.v 22) (.v 19)) (.ix (.v 22) (.bin .Sub (.v 19) (.k (.int 1))))))) .nil) (.v 19)) (.lst .nil)) (.cons (.ret (.k (.bool false)))
  .nil) .nil)
  .nil))) .nil)
  .nil)))))
abbrev s_law_5 : S :=
  (.forr (.n 4) (.seq (.lst (.cons (.k (.int 0)) (.cons (.k (.int 1)) (.cons (.k (.int 100)) (.cons (.call 10 (.bo 1 (.ex (.k (.int 100)) .nil))) .nil)))))) b_law_1)
abbrev s_law_6 : S :=
  (.asg 5 (.lst .nil))
abbrev b_law_2 : Ss :=
  (.cons (.asg 5 (.bin .Add (.v 5) (.lc [23] (.n 23) (.r2 (.bin .Add (.v 6) (.k (.int 1))) (.bin .Add (.v 3) (.k (.int 1)))) .nil (.tup (.cons (.b1 .sum (.sl (.v 2) (.so (.v 6)) (.so (.v 23)))) (.cons (.v 23) (.cons (.bin .Sub (.k (.int 0)) (.v 6)) .nil)))))))
  .nil)
abbrev s_law_7 : S :=
  (.forr (.n 6) (.r1 (.v 3)) b_law_2)
abbrev s_law_8 : S :=
  (.asg 7 (.b1 .max (.bin .Add (.lst (.cons (.k (.int 0)) .nil)) (.lc [24] (.n 24) (.seq (.v 5)) .nil (.ix (.v 24) (.k (.int 0)))))))
abbrev s_law_9 : S :=
  (.asg 8 (.k .none))
abbrev s_law_10 : S :=
  (.ifs (.cmp .Gt (.v 7) (.k (.int 0))) (.cons (.asg 18 (.ix (.b1 .sorted (.lc [28, 23, 6] (.t (.cons (.n 28) (.cons (.n 23) (.cons (.n 6) .nil)))) (.seq (.v 5)) (.cons (.cmp .Eq (.v 28) (.v 7)) .nil) (.tup (.cons (.v 23) (.cons (.v 6) .nil))))) (.k (.int 0))))
  (.cons (.asg 8 (.tup (.cons (.bin .Sub (.k (.int 0)) (.ix (.v 18) (.k (.int 1)))) (.cons (.ix (.v 18) (.k (.int 0))) .nil))))
  .nil)) .nil)
abbrev s_law_11 : S :=
  (.ifs (.orr (.cmp .NotEq (.call 4 (.ex (.v 2) (.ex (.k (.int 0)) .nil))) (.v 7)) (.no (.call 11 (.ex (.call 5 (.ex (.v 2) .nil)) (.ex (.v 8) .nil))))) (.cons (.ret (.k (.bool false)))
  .nil) .nil)
abbrev s_law_12 : S :=
  (.asg 9 (.b1 .max (.bin .Add (.lst (.cons (.k (.int 1)) .nil)) (.lc [19] (.n 19) (.r2 (.k (.int 1)) (.bin .Add (.v 3) (.k (.int 1)))) .nil (.bin .Sub (.k (.int 1)) (.b1 .sum (.sl (.v 2) .no (.so (.v 19)))))))))
abbrev s_law_13 : S :=
  (.ifs (.no (.call 11 (.ex (.call 7 (.ex (.v 2) .nil)) (.ex (.ife (.cmp .LtE (.v 9) (.k (.int 100))) (.v 9) (.k .none)) .nil)))) (.cons (.ret (.k (.bool false)))
  .nil) .nil)
abbrev b_law_3 : Ss :=
  (.cons (.ifs (.an (.ch .Lt .LtE (.k (.int 0)) (.v 4) (.k (.int 100))) (.cmp .NotEq (.cmp .In (.k (.int 0)) (.sl (.call 15 (.ex (.v 2) (.ex (.v 4) .nil))) (.so (.k (.int 1))) .no)) (.cmp .Lt (.v 4) (.v 9)))) (.cons (.ret (.k (.bool false)))
  .nil) .nil)
  .nil)
abbrev s_law_14 : S :=
  (.forr (.n 4) (.seq (.lst (.cons (.bin .Sub (.v 9) (.k (.int 1))) (.cons (.v 9) .nil)))) b_law_3)
abbrev s_law_15 : S :=
  (.asg 10 (.b1 .max (.lc [19] (.n 19) (.r1 (.bin .Add (.v 3) (.k (.int 1)))) .nil (.b1 .sum (.sl (.v 2) .no (.so (.v 19)))))))
abbrev s_law_16 : S :=
  (.ifs (.orr (.no (.call 11 (.ex (.call 8 (.ex (.v 2) .nil)) (.ex (.v 10) .nil)))) (.cmp .NotEq (.ix (.call 3 (.ex (.rv (.v 2)) (.ex (.k (.int 0)) .nil))) (.neg (.k (.int 1)))) (.v 10))) (.cons (.ret (.k (.bool false)))
  .nil) .nil)
abbrev s_law_17 : S :=
  (.asg 11 (.sl (.v 2) .no (.so (.k (.int 5)))))
abbrev s_law_18 : S :=
  (.asg 12 (.call 17 (.ex (.v 11) .nil)))
abbrev s_law_19 : S :=
  (.ifs (.cmp .NotEq (.b1 .sorted (.lc [24] (.n 24) (.seq (.v 12)) .nil (.ix (.call 3 (.ex (.v 24) (.ex (.k (.int 0)) .nil))) (.neg (.k (.int 1)))))) (.b1 .sorted (.lc [24] (.n 24) (.seq (.v 12)) .nil (.call 8 (.ex (.v 24) .nil))))) (.cons (.ret (.k (.bool false)))
  .nil) .nil)
abbrev s_law_20 : S :=
  (.ifs (.cmp .Gt (.v 3) (.k (.int 0))) (.cons (.asg 19 (.call 10 (.bo 1 (.ex (.v 3) .nil))))
  (.cons (.asg 20 (.bin .Add (.bin .Add (.sl (.v 2) .no (.so (.v 19))) (.tup (.cons (.b2 .min (.k (.int 30)) (.bin .Add (.ix (.v 2) (.v 19)) (.k (.int 1)))) .nil))) (.sl (.v 2) (.so (.bin .Add (.v 19) (.k (.int 1)))) .no)))
  (.cons (.ifs (.cmp .NotEq (.lc [25] (.n 25) (.r1 (.bin .Add (.v 3) (.k (.int 1)))) (.cons (.cmp .Lt (.ix (.call 3 (.ex (.v 20) (.ex (.k (.int 3)) .nil))) (.v 25)) (.ix (.call 3 (.ex (.v 2) (.ex (.k (.int 3)) .nil))) (.v 25))) .nil) (.v 25)) (.lst .nil)) (.cons (.ret (.k (.bool false)))
  .nil) .nil)
  .nil))) .nil)
abbrev s_law_21 : S :=
  (.asg 13 (.lst .nil))
abbrev b_law_4 : Ss :=
  (.cons (.asg 13 (.bin .Add (.v 13) (.lc [26] (.n 26) (.r1 (.k (.int 3))) .nil (.call 14 (.ex (.v 26) (.ex (.v 2) (.ex (.v 14) .nil)))))))
  .nil)
abbrev s_law_22 : S :=
  (.forr (.n 14) (.seq (.lst (.cons (.neg (.k (.int 1))) (.cons (.k (.int 101)) .nil)))) b_law_4)
abbrev s_law_23 : S :=
  (.asg 15 (.lst (.cons (.k .none) (.cons (.lst (.cons (.k (.int 1)) .nil)) (.cons (.tup (.cons (.k (.int 31)) .nil)) (.cons (.tup (.cons (.neg (.k (.int 31))) .nil)) (.cons (.tup (.cons (.k (.bool true)) .nil)) (.cons (.tup (.cons (.k .none) .nil)) (.cons (.bin .Mult (.tup (.cons (.k (.int 0)) .nil)) (.k (.int 41))) .nil)))))))))
abbrev s_law_24 : S :=
  (.ret (.an (.cmp .Eq (.v 13) (.bin .Mult (.lst (.cons (.k (.str "range")) .nil)) (.k (.int 6)))) (.cmp .Eq (.lc [27] (.n 27) (.seq (.v 15)) (.cons (.no (.call 12 (.ex (.call 1 (.ex (.v 27) .nil)) (.ex (.k (.bool false)) .nil)))) .nil) (.v 27)) (.lst .nil))))
abbrev ir_law : Ss :=
  (.cons s_law_1 (.cons s_law_2 (.cons s_law_3 (.cons s_law_4 (.cons s_law_5 (.cons s_law_6 (.cons s_law_7 (.cons s_law_8 (.cons s_law_9 (.cons s_law_10 (.cons s_law_11 (.cons s_law_12 (.cons s_law_13 (.cons s_law_14 (.cons s_law_15 (.cons s_law_16 (.cons s_law_17 (.cons s_law_18 (.cons s_law_19 (.cons s_law_20 (.cons s_law_21 (.cons s_law_22 (.cons s_law_23 (.cons s_law_24 .nil))))))))))))))))))))))))
abbrev f_law : Fn := ⟨1, 29, ir_law⟩
def r_law : RX.Row := ⟨"law", top 32, ["script", "draws", "gusts", "many", "start", "sums", "a", "top", "spell", "need", "ahead", "few", "orders", "words", "bad", "odd", "due", "low", "best", "k", "higher", "more", "gaps", "b", "row", "j", "which", "value", "size"], ["script"], f_law⟩
def rows : List RX.Row := [r_is_number, r_are_gusts, r_check_start, r_heights_of, r_top_of, r_spell_of, r_landings_of, r_least_start, r_greatest_ahead, r__law_draws, r__law_take, r__law_alike, r__law_says, r__law_word_hot, r__law_told, r__law_heights, r__law_gusts, r__law_orders, r_law]
def gc : List PyData := [(.int 40), (.int 30), (.int 100)]
def nm : RX.Names := ⟨["is_number", "are_gusts", "check_start", "heights_of", "top_of", "spell_of", "landings_of", "least_start", "greatest_ahead", "_law_draws", "_law_take", "_law_alike", "_law_says", "_law_word", "_law_told", "_law_heights", "_law_gusts", "_law_orders", "law"], ["MOST_GUSTS", "MOST_GUST", "MOST_START"], ["OutOfRange"], ["KiteError"], [13], [], [1]⟩
def tab : List (Str × Str × Bool) := [("OutOfRange", "KiteError", true), ("OutOfRange", "Malformed", false), ("OutOfRange", "NotThere", false), ("OutOfRange", "OutOfRange", true), ("OutOfRange", "Refused", false), ("OutOfRange", "TooMuch", false)]
def T : List Fn := rows.map (·.fn)
theorem chk : rowsB nm rows = true := by decide +kernel
end K04

end
section
set_option Elab.async false
set_option linter.all false
set_option maxRecDepth 100000
set_option maxHeartbeats 1000000
set_option autoImplicit false
namespace K04
open PySem RX M04
local macro_rules | `(tactic| array_mem_dec) => `(tactic| first
  | with_reducible assumption | omega | sizeOf_list_dec | (simp only [List.length_map, List.length_range, List.length_append, List.length_cons, List.length_nil, List.length_replicate, List.length_reverse, List.length_drop, List.length_take, line, Nat.reduceLeDiff, Nat.reduceAdd] at *; omega) | decide | rfl | (simp; done) | (unfold line; simp; omega))
local macro_rules | `(tactic| decreasing_trivial_pre_omega) => `(tactic| first
  | with_reducible assumption | sizeOf_list_dec | with_reducible exact b_add | with_reducible exact b_sub
  | ((with_reducible apply b_mulL); array_mem_dec) | ((with_reducible apply b_mulR); array_mem_dec) | ((with_reducible apply b_mulB); array_mem_dec; array_mem_dec)
  | ((with_reducible apply b_fd); array_mem_dec; array_mem_dec) | ((with_reducible apply b_mod); array_mem_dec)
  | ((with_reducible apply b_trep1); array_mem_dec) | ((with_reducible apply b_tcatI); array_mem_dec) | ((with_reducible apply b_tcatM); array_mem_dec) | ((with_reducible apply b_lcatM); array_mem_dec)
  | ((with_reducible apply b_lcat); array_mem_dec) | ((with_reducible apply b_tcat); array_mem_dec) | ((with_reducible apply b_trep); array_mem_dec) | ((with_reducible apply b_lrep); array_mem_dec)
  | ((with_reducible apply c_ltT); omega) | ((with_reducible apply c_ltF); omega) | with_reducible exact c_ltB
  | ((with_reducible apply c_leT); omega) | ((with_reducible apply c_leF); omega) | with_reducible exact c_leB
  | ((with_reducible apply c_gtT); omega) | ((with_reducible apply c_gtF); omega) | with_reducible exact c_gtB
  | ((with_reducible apply c_geT); omega) | ((with_reducible apply c_geF); omega) | with_reducible exact c_geB
  | ((with_reducible apply c_eqT); omega) | ((with_reducible apply c_eqF); omega) | with_reducible exact c_eqB
  | ((with_reducible apply c_neT); omega) | ((with_reducible apply c_neF); omega) | with_reducible exact c_neB
  | with_reducible exact f_lenLm | with_reducible exact f_lenTm | with_reducible exact f_lenL | with_reducible exact f_lenT | with_reducible exact f_sumL | with_reducible exact f_sumT
  | (refine f_minL ?_; array_mem_dec) | (refine f_maxL ?_; array_mem_dec) | (refine f_minT ?_; array_mem_dec) | (refine f_maxT ?_; array_mem_dec)
  | (with_reducible exact f_abs) | (with_reducible exact flat_iI) | with_reducible exact f_min2 | with_reducible exact f_max2 | with_reducible exact f_sorted | with_reducible exact f_sortedT | with_reducible exact f_sortedP | with_reducible exact f_int | with_reducible exact f_intB | with_reducible exact f_list | with_reducible exact f_listL | with_reducible exact f_tuple | with_reducible exact f_tupleT
  | (refine x_listI ?_; array_mem_dec) | (refine x_tupI ?_; array_mem_dec)
  | rfl)
local macro_rules | `(tactic| array_get_dec) => `(tactic| first
  | with_reducible assumption
  | with_reducible exact e_k
  | ((with_reducible apply v_var); first | rfl | with_reducible assumption) | ((with_reducible apply e_vo); first | rfl | with_reducible assumption) | ((with_reducible apply v_gi); rfl)
  | ((with_reducible apply v_bin); array_get_dec; array_get_dec; rfl; rfl; decreasing_trivial_pre_omega)
  | ((with_reducible apply v_cmp); array_get_dec; array_get_dec; rfl; rfl; decreasing_trivial_pre_omega)
  | ((with_reducible apply v_ix); array_get_dec; array_get_dec; rfl; rfl; decreasing_trivial_pre_omega)
  | ((with_reducible apply v_b1); array_get_dec; rfl; decreasing_trivial_pre_omega)
  | ((with_reducible apply v_b2); array_get_dec; array_get_dec; rfl; rfl; decreasing_trivial_pre_omega)
  | ((with_reducible apply v_isi); array_get_dec; rfl; first | rfl | sizeOf_list_dec)
  | ((with_reducible apply v_isx); rfl; first | rfl | decide)
  | ((with_reducible apply v_neg); array_get_dec; rfl)
  | ((with_reducible apply v_notT); array_get_dec; rfl; rfl) | ((with_reducible apply v_notF); array_get_dec; rfl; rfl) | ((with_reducible apply v_not); array_get_dec; rfl; rfl)
  | ((with_reducible apply v_chF); array_get_dec; array_get_dec; rfl; rfl; decreasing_trivial_pre_omega)
  | ((with_reducible apply v_chT); array_get_dec; array_get_dec; rfl; rfl; decreasing_trivial_pre_omega; array_get_dec; rfl; rfl; decreasing_trivial_pre_omega)
  | ((with_reducible apply v_chB); array_get_dec; array_get_dec; rfl; decreasing_trivial_pre_omega; array_get_dec; rfl; decreasing_trivial_pre_omega)
  | ((with_reducible apply e_anF); array_get_dec)
  | ((with_reducible apply v_anT); array_get_dec; array_get_dec)
  | ((with_reducible apply v_anB); array_get_dec; array_get_dec)
  | ((with_reducible apply v_anC); array_get_dec; (intro hC; simp only [decide_eq_true_eq, Bool.and_eq_true] at hC; array_get_dec))
  | ((with_reducible apply e_orT); array_get_dec)
  | ((with_reducible apply v_orF); array_get_dec; array_get_dec)
  | ((with_reducible apply v_orB); array_get_dec; array_get_dec)
  | ((with_reducible apply v_orC); array_get_dec; (intro hC; simp only [decide_eq_false_iff_not, Bool.or_eq_false_iff] at hC; array_get_dec))
  | ((with_reducible apply v_ifeT); array_get_dec; rfl; rfl; array_get_dec)
  | ((with_reducible apply v_ifeF); array_get_dec; rfl; rfl; array_get_dec)
  | (focus ((with_reducible apply v_ifeTO); array_get_dec; rfl; rfl; array_get_dec; done)) | (focus ((with_reducible apply v_ifeFO); array_get_dec; rfl; rfl; array_get_dec; done))
  | ((with_reducible apply v_ifeI); array_get_dec; rfl; rfl; array_get_dec; array_get_dec)
  | ((with_reducible apply v_ifeB); array_get_dec; rfl; rfl; array_get_dec; array_get_dec)
  | ((with_reducible apply e_tup); array_get_dec; first | (refine Nat.le_of_ble_eq_true ?_; rfl) | array_mem_dec)
  | ((with_reducible apply e_lst); array_get_dec; first | (refine Nat.le_of_ble_eq_true ?_; rfl) | array_mem_dec)
  | ((with_reducible apply v_sl); array_get_dec; array_get_dec; array_get_dec; rfl; first | with_reducible assumption | sizeOf_list_dec | ((with_reducible apply sl_toU); array_mem_dec) | ((with_reducible apply sl_fromU); array_mem_dec) | ((with_reducible apply sl_toL); array_mem_dec) | ((with_reducible apply sl_fromL); array_mem_dec) | rfl)
  | ((with_reducible apply v_idx); array_get_dec; rfl; array_get_dec; rfl; rfl; decreasing_trivial_pre_omega; decreasing_trivial_pre_omega)
  | ((with_reducible apply v_cnt); array_get_dec; rfl; array_get_dec; rfl; rfl; decreasing_trivial_pre_omega)
  | ((with_reducible apply v_cntT); array_get_dec; array_get_dec; rfl; decreasing_trivial_pre_omega) | ((with_reducible apply v_idxT); array_get_dec; array_get_dec; array_mem_dec)
  | ((with_reducible apply v_rvT); array_get_dec; rfl) | ((with_reducible apply v_rvL); array_get_dec; rfl)
  | ((with_reducible apply v_lr1); array_get_dec; (first | (refine okR_by ?_; omega) | rfl); array_mem_dec)
  | ((with_reducible apply v_lr2); array_get_dec; array_get_dec; (first | (refine okR_by ?_; omega) | rfl); (first | (refine okR_by ?_; omega) | rfl); array_mem_dec)
  | ((with_reducible apply v_lr3); array_get_dec; array_get_dec; array_get_dec; (first | (refine okR_by ?_; omega) | rfl); (first | (refine okR_by ?_; omega) | rfl); (first | rfl | decide); array_mem_dec)
  | ((with_reducible apply v_gcd); array_get_dec; array_get_dec; rfl; rfl)
  | ((with_reducible apply v_lend); rfl; (first | with_reducible assumption | sizeOf_list_dec); rfl)
  | with_reducible exact p_no | ((with_reducible apply p_so); array_get_dec; rfl)
  | ((with_reducible apply v_call); array_get_dec; first | with_reducible assumption | sizeOf_list_dec)
  | ((with_reducible apply v_callE); array_get_dec; first | with_reducible assumption | sizeOf_list_dec)
  | ((with_reducible apply v_callO); array_get_dec; first | with_reducible assumption | sizeOf_list_dec)
  | ((with_reducible apply e_drawL); exact ⟨_, rfl⟩; array_get_dec; rfl; (first | with_reducible assumption | sizeOf_list_dec); rfl)
  | ((with_reducible apply e_appL); exact ⟨_, rfl⟩; array_get_dec; rfl; array_mem_dec; rfl)
  | ((with_reducible apply gv); array_get_dec) | ((with_reducible apply gvN); array_get_dec) | ((with_reducible apply v_gv); array_get_dec; rfl)
  | with_reducible exact es_nil | ((with_reducible apply es_cons); array_get_dec; array_get_dec)
  | with_reducible exact gc_nil | ((with_reducible apply gc_cons); array_get_dec; array_get_dec)
  | with_reducible exact os_nil | ((with_reducible apply os_val); array_get_dec; array_get_dec) | ((with_reducible apply os_new); array_get_dec; array_get_dec)
  | with_reducible exact ts_nil | ((with_reducible apply ts_one'); array_get_dec; rfl; rfl)
  | ((with_reducible apply i_seq); array_get_dec; rfl) | ((with_reducible apply i_enu); array_get_dec; rfl) | ((with_reducible apply i_rev); array_get_dec; rfl)
  | ((with_reducible apply i_r1n); array_get_dec; array_mem_dec) | ((with_reducible apply i_r1); array_get_dec; first | array_mem_dec | (refine okR_by ?_; omega))
  | ((with_reducible apply i_r2); array_get_dec; array_get_dec; (first | (refine okR_by ?_; omega) | rfl); (first | (refine okR_by ?_; omega) | rfl))
  | ((with_reducible apply v_lcI); array_get_dec; array_mem_dec; (intro ia hia; try simp only [List.mem_range] at hia); (with_reducible apply t_lc); rfl; array_get_dec; rfl)
  | ((with_reducible apply v_lc); array_get_dec; array_mem_dec; (intro ia hia; try simp only [List.mem_range] at hia); (with_reducible apply t_lc); rfl; array_get_dec; rfl)
  | ((with_reducible apply v_lcfI); array_get_dec; array_mem_dec; (intro ia hia; try simp only [List.mem_range] at hia); (with_reducible apply t_lcf); rfl; array_get_dec; rfl; (intro hp; try simp only [decide_eq_true_eq] at hp); (with_reducible apply t_lc2); array_get_dec; rfl)
  | ((with_reducible apply v_lcf); array_get_dec; array_mem_dec; (intro ia hia; try simp only [List.mem_range] at hia); (with_reducible apply t_lcf); rfl; array_get_dec; rfl; (intro hp; try simp only [decide_eq_true_eq] at hp); (with_reducible apply t_lc2); array_get_dec; rfl)
  | ((with_reducible apply v_all); array_get_dec; array_mem_dec; (intro ia hia; try simp only [List.mem_range] at hia); (with_reducible apply t_lc); rfl; array_get_dec; rfl)
  | ((with_reducible apply v_allD); array_get_dec; array_mem_dec; (intro ia hia); (with_reducible apply t_lc); rfl; array_get_dec; rfl)
  | ((with_reducible apply v_any); array_get_dec; array_mem_dec; (intro ia hia; try simp only [List.mem_range] at hia); (with_reducible apply t_lc); rfl; array_get_dec; rfl)
  | ((with_reducible apply v_gsum); array_get_dec; array_mem_dec; (intro ia hia; try simp only [List.mem_range] at hia); (with_reducible apply t_lc); rfl; array_get_dec; rfl)
  | ((with_reducible apply v_gtupI); array_get_dec; array_mem_dec; (intro ia hia; try simp only [List.mem_range] at hia); (with_reducible apply t_lc); rfl; array_get_dec; rfl)
  | ((with_reducible apply v_gtup); array_get_dec; array_mem_dec; (intro ia hia; try simp only [List.mem_range] at hia); (with_reducible apply t_lc); rfl; array_get_dec; rfl)
  | sizeOf_list_dec)
local macro_rules | `(tactic| fail) => `(tactic| first
  | with_reducible exact ss_nil | ((with_reducible apply ss_nil'); rfl)
  | ((with_reducible apply n_asg); array_get_dec; rfl; try dsimp only [List.set_cons_zero, List.set_cons_succ])
  | ((with_reducible apply n_asgO); array_get_dec; rfl; try dsimp only [List.set_cons_zero, List.set_cons_succ])
  | ((with_reducible apply n_parO); array_get_dec; rfl; try dsimp only [List.set_cons_zero, List.set_cons_succ])
  | ((with_reducible apply n_par); array_get_dec; rfl; try dsimp only [List.set_cons_zero, List.set_cons_succ])
  | ((with_reducible apply n_asgG); array_get_dec; rfl; try dsimp only [List.set_cons_zero, List.set_cons_succ])
  | ((with_reducible apply n_aug); rfl; array_get_dec; rfl; decreasing_trivial_pre_omega; rfl; try dsimp only [List.set_cons_zero, List.set_cons_succ])
  | ((with_reducible apply n_exp); array_get_dec; try dsimp only [List.set_cons_zero, List.set_cons_succ])
  | ((with_reducible apply n_expX); array_get_dec) | ((with_reducible apply n_asgX); array_get_dec)
  | ((with_reducible apply n_ret); array_get_dec)
  | ((with_reducible apply n_retX); array_get_dec)
  | (focus ((with_reducible apply n_triR); (repeat' fail); done))
  | (focus ((with_reducible apply n_triX); (focus ((repeat' fail); done)); rfl; rfl; (focus ((repeat' fail); done)); rfl; done))
  | ((with_reducible apply n_retO); array_get_dec)
  | with_reducible exact n_rais
  | ((with_reducible apply n_ifF0); array_get_dec; rfl; rfl; try dsimp only [List.set_cons_zero, List.set_cons_succ])
  | (focus ((with_reducible apply n_ifTr); array_get_dec; rfl; rfl; (repeat' fail); done))
  | (focus ((with_reducible apply n_ifTx); array_get_dec; rfl; rfl; (repeat' fail); done))
  | ((with_reducible apply n_ifT); array_get_dec; rfl; rfl; (focus ((repeat' fail); done)); try dsimp only [List.set_cons_zero, List.set_cons_succ])
  | ((with_reducible apply n_ifF); array_get_dec; rfl; rfl; (focus ((repeat' fail); done)); try dsimp only [List.set_cons_zero, List.set_cons_succ])
  | (focus ((with_reducible apply n_ifFr); array_get_dec; rfl; rfl; (repeat' fail); done)))
abbrev U : Sub := subT tab
abbrev C (m : Nat) : CF := callF U gc T m
theorem num_ok (m : Nat) (v lo hi : Int) : C (m + 1) 0 [.av (.int v), .av (.int lo), .av (.int hi)] = some (.ok (.bool (decide (lo ≤ v) && decide (v ≤ hi))) []) := by
  apply call_rt (fn := f_is_number) (ρ := [.sh (.int v), .sh (.int lo), .sh (.int hi)]) rfl rfl rfl
  · fail
  · rfl
local macro_rules | `(tactic| sizeOf_list_dec) => `(tactic| with_reducible exact num_ok _ _ _ _)
/-- gusts -/
structure Gst (g : List Int) : Prop where
  few : g.length ≤ 40
  bd : ∀ x ∈ g, -30 ≤ x ∧ x ≤ 30
theorem gusts_ok (m : Nat) {g : List Int} (k : Gst g) : C (m + 2) 1 [.av (.tuple (g.map .int))] = some (.ok (.bool true) []) := by
  have ha : (g.all fun x => decide (-30 ≤ x) && decide (x ≤ 30)) = true := List.all_eq_true.mpr fun x hx => by have h1 := k.bd x hx; simp [h1.1, h1.2]
  have hf := k.few
  apply call_rtE (fn := f_are_gusts) (ρ := [.sh (.tuple (g.map .int)), .no]) rfl rfl rfl
  · fail
    fail
  · rfl
  · rw [ha]
theorem check_ok (m : Nat) {s : Int} (h0 : 0 ≤ s) (h1 : s ≤ 100) : C (m + 2) 2 [.av (.int s)] = some (.ok .none []) := by
  have hn := num_ok m s 0 100
  rw [decide_eq_true h0, decide_eq_true h1] at hn
  apply call_nx (fn := f_check_start) (ρ := [.sh (.int s)]) rfl rfl rfl
  · fail
    fail
  · rfl
theorem check_bad (m : Nat) {s : Int} (h : ¬ (0 ≤ s ∧ s ≤ 100)) : C (m + 2) 2 [.av (.int s)] = some (.ex "OutOfRange" []) := by
  have hn := num_ok m s 0 100
  have e : (decide (0 ≤ s) && decide (s ≤ 100)) = false := by
    rw [← Bool.decide_and]; exact decide_eq_false h
  rw [e] at hn
  apply call_ex (fn := f_check_start) (ρ := [.sh (.int s)]) rfl rfl rfl
  · fail
  · rfl
theorem get_int {g : List Int} {j : Nat} {d : PyData} (h : (g.map PyData.int)[j]? = some d) : j < g.length ∧ d = .int (at0 g (j : Nat)) := by
  rw [List.getElem?_map] at h
  obtain ⟨x, hx, rfl⟩ := Option.map_eq_some_iff.mp h
  obtain ⟨h1, h2⟩ := List.getElem?_eq_some_iff.mp hx
  exact ⟨h1, by rw [at0_nat h1, h2]⟩
theorem hl_ix {g : List Int} {s : Int} {j : Nat} : ixD (.list ((hl g s j).map .int)) (.int (-1)) = some (.int (hh g s j)) := by
  have := hl_len (g := g) s j
  rw [x_listI (by omega), hl_last]
theorem height_loop (m : Nat) (g : List Int) (s : Int) (hg : g.length ≤ 1000) : ∃ ρ', forL (fun d ρ => (asgG (.n 3) d ρ).bind fun ρ => exSs U gc (C m) b_heights_of_1 ρ) (g.map .int) [.sh (.tuple (g.map .int)), .sh (.int s), .ol false [.int s], .no] = some (.nx ρ') ∧ ∃ a, ρ' = [.sh (.tuple (g.map .int)), .sh (.int s), .ol false ((hl g s g.length).map .int), a] := by
  have := for_inv (u := U) (gc := gc) (c := C m) (g := .n 3) (bd := b_heights_of_1) (ds := g.map .int) (ρ := [.sh (.tuple (g.map .int)), .sh (.int s), .ol false [.int s], .no])
    (fun j ρ => ∃ a, ρ = [.sh (.tuple (g.map .int)), .sh (.int s), .ol false ((hl g s j).map .int), a]) ⟨_, rfl⟩ fun j d ρ hj ⟨a, hr⟩ => by
      subst hr
      obtain ⟨h1, rfl⟩ := get_int hj
      have hx := hl_ix (g := g) (s := s) (j := j)
      have hl' : ((hl g s j).map PyData.int).length < line := by rw [List.length_map, hl_len]; unfold line; omega
      refine ⟨[.sh (.tuple (g.map .int)), .sh (.int s), .ol false ((hl g s j).map .int), .sh (.int (at0 g (j : Nat)))], _, rfl, ?_, .sh (.int (at0 g (j : Nat))), rfl⟩
      rw [hl_succ, List.map_append]
      fail
      fail
  rw [List.length_map] at this
  exact this
theorem heights_ok (m : Nat) {g : List Int} {s : Int} (hg : g.length ≤ 1000) (h0 : 0 ≤ s) (h1 : s ≤ 100) : C (m + 3) 3 [.av (.tuple (g.map .int)), .av (.int s)] = some (.ok (.tuple ((hl g s g.length).map .int)) []) := by
  obtain ⟨ρ', e, a, rfl⟩ := height_loop (m + 2) g s hg
  have hc := check_ok m h0 h1
  apply call_rt (fn := f_heights_of) (ρ := [.sh (.tuple (g.map .int)), .sh (.int s), .no, .no]) rfl rfl rfl
  · fail
    fail
    apply n_for
    · array_get_dec
    · exact e
    fail
  · rfl
theorem top_ok' (m : Nat) {g : List Int} {s : Int} (hg : g.length ≤ 1000) (h0 : 0 ≤ s) (h1 : s ≤ 100) : C (m + 4) 4 [.av (.tuple (g.map .int)), .av (.int s)] = some (.ok (.int (maxI (hl g s g.length))) []) := by
  have hh := heights_ok m hg h0 h1
  have hn := hl_ne (g := g) s g.length
  apply call_rt (fn := f_top_of) (ρ := [.sh (.tuple (g.map .int)), .sh (.int s)]) rfl rfl rfl
  · fail
  · rfl
def land (g : List Int) (s : Int) : List Int := ((List.range g.length).filter fun k => decide (at0 (hl g s g.length) ((k : Nat) + 1) = 0) && decide (0 < at0 (hl g s g.length) (k : Nat))).map fun k => ((k : Nat) : Int)
theorem land_ok (m : Nat) {g : List Int} {s : Int} (hg : g.length ≤ 1000) (h0 : 0 ≤ s) (h1 : s ≤ 100) : C (m + 4) 6 [.av (.tuple (g.map .int)), .av (.int s)] = some (.ok (.tuple ((land g s).map .int)) []) := by
  have hh := heights_ok m hg h0 h1
  have hn := hl_len (g := g) s g.length
  apply call_rtE (fn := f_landings_of) (ρ := [.sh (.tuple (g.map .int)), .sh (.int s), .no, .no]) rfl rfl rfl
  · fail
    fail
  · rfl
  · rfl
theorem least_ok (m : Nat) {g : List Int} (hg : g.length ≤ 1000) : C (m + 1) 7 [.av (.tuple (g.map .int))] = some (.ok (if decide (1 - low g g.length ≤ 100) then .int (1 - low g g.length) else .none) []) := by
  obtain ⟨ρ', e, a, hr⟩ := for_inv (u := U) (gc := gc) (c := C m) (g := .n 3) (bd := b_least_start_1) (ds := g.map .int) (ρ := [.sh (.tuple (g.map .int)), .sh (.int 0), .sh (.int 0), .no, .no])
    (fun j ρ => ∃ a, ρ = [.sh (.tuple (g.map .int)), .sh (.int (pre g j)), .sh (.int (low g j)), a, .no]) ⟨_, rfl⟩ fun j d ρ hj ⟨a, hr⟩ => by
      subst hr
      obtain ⟨h1, rfl⟩ := get_int hj
      refine ⟨[.sh (.tuple (g.map .int)), .sh (.int (pre g j)), .sh (.int (low g j)), .sh (.int (at0 g (j : Nat))), .no], _, rfl, ?_, .sh (.int (at0 g (j : Nat))), rfl⟩
      fail
      fail
      fail
  rw [List.length_map] at hr
  subst hr
  apply call_rtE (fn := f_least_start) (ρ := [.sh (.tuple (g.map .int)), .no, .no, .no, .no]) rfl rfl rfl
  · fail
    fail
    apply n_for
    · array_get_dec
    · exact e
    fail
    fail
  · rfl
  · by_cases h : 1 - low g g.length ≤ 100
    · rw [decide_eq_true h]
    · rw [decide_eq_false h]
theorem ahead_r (m : Nat) {g : List Int} (hg : g.length ≤ 1000) : C (m + 1) 8 [.av (.tuple (g.map .int))] = some (.ok (.int (bes g g.length)) []) := by
  obtain ⟨ρ', e, a, hr⟩ := for_inv (u := U) (gc := gc) (c := C m) (g := .n 3) (bd := b_greatest_ahead_1) (ds := g.map .int) (ρ := [.sh (.tuple (g.map .int)), .sh (.int 0), .sh (.int 0), .no])
    (fun j ρ => ∃ a, ρ = [.sh (.tuple (g.map .int)), .sh (.int (pre g j)), .sh (.int (bes g j)), a]) ⟨_, rfl⟩ fun j d ρ hj ⟨a, hr⟩ => by
      subst hr
      obtain ⟨h1, rfl⟩ := get_int hj
      refine ⟨[.sh (.tuple (g.map .int)), .sh (.int (pre g j)), .sh (.int (bes g j)), .sh (.int (at0 g (j : Nat)))], _, rfl, ?_, .sh (.int (at0 g (j : Nat))), rfl⟩
      fail
      fail
      fail
  rw [List.length_map] at hr
  subst hr
  apply call_rt (fn := f_greatest_ahead) (ρ := [.sh (.tuple (g.map .int)), .no, .no, .no]) rfl rfl rfl
  · fail
    fail
    apply n_for
    · array_get_dec
    · exact e
    fail
  · rfl
end K04

end
section
set_option Elab.async false
set_option linter.all false
set_option maxRecDepth 100000
set_option maxHeartbeats 1000000
set_option autoImplicit false
namespace K04
open PySem RX M04
local macro_rules | `(tactic| array_mem_dec) => `(tactic| first
  | with_reducible assumption | omega | sizeOf_list_dec | (simp only [List.length_map, List.length_range, List.length_append, List.length_cons, List.length_nil, List.length_replicate, List.length_reverse, List.length_drop, List.length_take, line, Nat.reduceLeDiff, Nat.reduceAdd] at *; omega) | decide | rfl | (simp; done) | (unfold line; simp; omega))
local macro_rules | `(tactic| decreasing_trivial_pre_omega) => `(tactic| first
  | with_reducible assumption | sizeOf_list_dec | with_reducible exact b_add | with_reducible exact b_sub
  | ((with_reducible apply b_mulL); array_mem_dec) | ((with_reducible apply b_mulR); array_mem_dec) | ((with_reducible apply b_mulB); array_mem_dec; array_mem_dec)
  | ((with_reducible apply b_fd); array_mem_dec; array_mem_dec) | ((with_reducible apply b_mod); array_mem_dec)
  | ((with_reducible apply b_trep1); array_mem_dec) | ((with_reducible apply b_tcatI); array_mem_dec) | ((with_reducible apply b_tcatM); array_mem_dec) | ((with_reducible apply b_lcatM); array_mem_dec)
  | ((with_reducible apply b_lcat); array_mem_dec) | ((with_reducible apply b_tcat); array_mem_dec) | ((with_reducible apply b_trep); array_mem_dec) | ((with_reducible apply b_lrep); array_mem_dec)
  | ((with_reducible apply c_ltT); omega) | ((with_reducible apply c_ltF); omega) | with_reducible exact c_ltB
  | ((with_reducible apply c_leT); omega) | ((with_reducible apply c_leF); omega) | with_reducible exact c_leB
  | ((with_reducible apply c_gtT); omega) | ((with_reducible apply c_gtF); omega) | with_reducible exact c_gtB
  | ((with_reducible apply c_geT); omega) | ((with_reducible apply c_geF); omega) | with_reducible exact c_geB
  | ((with_reducible apply c_eqT); omega) | ((with_reducible apply c_eqF); omega) | with_reducible exact c_eqB
  | ((with_reducible apply c_neT); omega) | ((with_reducible apply c_neF); omega) | with_reducible exact c_neB
  | with_reducible exact f_lenLm | with_reducible exact f_lenTm | with_reducible exact f_lenL | with_reducible exact f_lenT | with_reducible exact f_sumL | with_reducible exact f_sumT
  | (refine f_minL ?_; array_mem_dec) | (refine f_maxL ?_; array_mem_dec) | (refine f_minT ?_; array_mem_dec) | (refine f_maxT ?_; array_mem_dec)
  | (with_reducible exact f_abs) | (with_reducible exact flat_iI) | with_reducible exact f_min2 | with_reducible exact f_max2 | with_reducible exact f_sorted | with_reducible exact f_sortedT | with_reducible exact f_sortedP | with_reducible exact f_int | with_reducible exact f_intB | with_reducible exact f_list | with_reducible exact f_listL | with_reducible exact f_tuple | with_reducible exact f_tupleT
  | (refine x_listI ?_; array_mem_dec) | (refine x_tupI ?_; array_mem_dec)
  | rfl)
local macro_rules | `(tactic| array_get_dec) => `(tactic| first
  | with_reducible assumption
  | with_reducible exact e_k
  | ((with_reducible apply v_var); first | rfl | with_reducible assumption) | ((with_reducible apply e_vo); first | rfl | with_reducible assumption) | ((with_reducible apply v_gi); rfl)
  | ((with_reducible apply v_bin); array_get_dec; array_get_dec; rfl; rfl; decreasing_trivial_pre_omega)
  | ((with_reducible apply v_cmp); array_get_dec; array_get_dec; rfl; rfl; decreasing_trivial_pre_omega)
  | ((with_reducible apply v_ix); array_get_dec; array_get_dec; rfl; rfl; decreasing_trivial_pre_omega)
  | ((with_reducible apply v_b1); array_get_dec; rfl; decreasing_trivial_pre_omega)
  | ((with_reducible apply v_b2); array_get_dec; array_get_dec; rfl; rfl; decreasing_trivial_pre_omega)
  | ((with_reducible apply v_isi); array_get_dec; rfl; first | rfl | sizeOf_list_dec)
  | ((with_reducible apply v_isx); rfl; first | rfl | decide)
  | ((with_reducible apply v_neg); array_get_dec; rfl)
  | ((with_reducible apply v_notT); array_get_dec; rfl; rfl) | ((with_reducible apply v_notF); array_get_dec; rfl; rfl) | ((with_reducible apply v_not); array_get_dec; rfl; rfl)
  | ((with_reducible apply v_chF); array_get_dec; array_get_dec; rfl; rfl; decreasing_trivial_pre_omega)
  | ((with_reducible apply v_chT); array_get_dec; array_get_dec; rfl; rfl; decreasing_trivial_pre_omega; array_get_dec; rfl; rfl; decreasing_trivial_pre_omega)
  | ((with_reducible apply v_chB); array_get_dec; array_get_dec; rfl; decreasing_trivial_pre_omega; array_get_dec; rfl; decreasing_trivial_pre_omega)
  | ((with_reducible apply e_anF); array_get_dec)
  | ((with_reducible apply v_anT); array_get_dec; array_get_dec)
  | ((with_reducible apply v_anB); array_get_dec; array_get_dec)
  | ((with_reducible apply v_anC); array_get_dec; (intro hC; simp only [decide_eq_true_eq, Bool.and_eq_true] at hC; array_get_dec))
  | ((with_reducible apply e_orT); array_get_dec)
  | ((with_reducible apply v_orF); array_get_dec; array_get_dec)
  | ((with_reducible apply v_orB); array_get_dec; array_get_dec)
  | ((with_reducible apply v_orC); array_get_dec; (intro hC; simp only [decide_eq_false_iff_not, Bool.or_eq_false_iff] at hC; array_get_dec))
  | ((with_reducible apply v_ifeT); array_get_dec; rfl; rfl; array_get_dec)
  | ((with_reducible apply v_ifeF); array_get_dec; rfl; rfl; array_get_dec)
  | (focus ((with_reducible apply v_ifeTO); array_get_dec; rfl; rfl; array_get_dec; done)) | (focus ((with_reducible apply v_ifeFO); array_get_dec; rfl; rfl; array_get_dec; done))
  | ((with_reducible apply v_ifeI); array_get_dec; rfl; rfl; array_get_dec; array_get_dec)
  | ((with_reducible apply v_ifeB); array_get_dec; rfl; rfl; array_get_dec; array_get_dec)
  | ((with_reducible apply e_tup); array_get_dec; first | (refine Nat.le_of_ble_eq_true ?_; rfl) | array_mem_dec)
  | ((with_reducible apply e_lst); array_get_dec; first | (refine Nat.le_of_ble_eq_true ?_; rfl) | array_mem_dec)
  | ((with_reducible apply v_sl); array_get_dec; array_get_dec; array_get_dec; rfl; first | with_reducible assumption | sizeOf_list_dec | ((with_reducible apply sl_toU); array_mem_dec) | ((with_reducible apply sl_fromU); array_mem_dec) | ((with_reducible apply sl_toL); array_mem_dec) | ((with_reducible apply sl_fromL); array_mem_dec) | rfl)
  | ((with_reducible apply v_idx); array_get_dec; rfl; array_get_dec; rfl; rfl; decreasing_trivial_pre_omega; decreasing_trivial_pre_omega)
  | ((with_reducible apply v_cnt); array_get_dec; rfl; array_get_dec; rfl; rfl; decreasing_trivial_pre_omega)
  | ((with_reducible apply v_cntT); array_get_dec; array_get_dec; rfl; decreasing_trivial_pre_omega) | ((with_reducible apply v_idxT); array_get_dec; array_get_dec; array_mem_dec)
  | ((with_reducible apply v_rvT); array_get_dec; rfl) | ((with_reducible apply v_rvL); array_get_dec; rfl)
  | ((with_reducible apply v_lr1); array_get_dec; (first | (refine okR_by ?_; omega) | rfl); array_mem_dec)
  | ((with_reducible apply v_lr2); array_get_dec; array_get_dec; (first | (refine okR_by ?_; omega) | rfl); (first | (refine okR_by ?_; omega) | rfl); array_mem_dec)
  | ((with_reducible apply v_lr3); array_get_dec; array_get_dec; array_get_dec; (first | (refine okR_by ?_; omega) | rfl); (first | (refine okR_by ?_; omega) | rfl); (first | rfl | decide); array_mem_dec)
  | ((with_reducible apply v_gcd); array_get_dec; array_get_dec; rfl; rfl)
  | ((with_reducible apply v_lend); rfl; (first | with_reducible assumption | sizeOf_list_dec); rfl)
  | with_reducible exact p_no | ((with_reducible apply p_so); array_get_dec; rfl)
  | ((with_reducible apply v_call); array_get_dec; first | with_reducible assumption | sizeOf_list_dec)
  | ((with_reducible apply v_callE); array_get_dec; first | with_reducible assumption | sizeOf_list_dec)
  | ((with_reducible apply v_callO); array_get_dec; first | with_reducible assumption | sizeOf_list_dec)
  | ((with_reducible apply e_drawL); exact ⟨_, rfl⟩; array_get_dec; rfl; (first | with_reducible assumption | sizeOf_list_dec); rfl)
  | ((with_reducible apply e_appL); exact ⟨_, rfl⟩; array_get_dec; rfl; array_mem_dec; rfl)
  | ((with_reducible apply gv); array_get_dec) | ((with_reducible apply gvN); array_get_dec) | ((with_reducible apply v_gv); array_get_dec; rfl)
  | with_reducible exact es_nil | ((with_reducible apply es_cons); array_get_dec; array_get_dec)
  | with_reducible exact gc_nil | ((with_reducible apply gc_cons); array_get_dec; array_get_dec)
  | with_reducible exact os_nil | ((with_reducible apply os_val); array_get_dec; array_get_dec) | ((with_reducible apply os_new); array_get_dec; array_get_dec)
  | with_reducible exact ts_nil | ((with_reducible apply ts_one'); array_get_dec; rfl; rfl)
  | ((with_reducible apply i_seq); array_get_dec; rfl) | ((with_reducible apply i_enu); array_get_dec; rfl) | ((with_reducible apply i_rev); array_get_dec; rfl)
  | ((with_reducible apply i_r1n); array_get_dec; array_mem_dec) | ((with_reducible apply i_r1); array_get_dec; first | array_mem_dec | (refine okR_by ?_; omega))
  | ((with_reducible apply i_r2); array_get_dec; array_get_dec; (first | (refine okR_by ?_; omega) | rfl); (first | (refine okR_by ?_; omega) | rfl))
  | ((with_reducible apply v_lcI); array_get_dec; array_mem_dec; (intro ia hia; try simp only [List.mem_range] at hia); (with_reducible apply t_lc); rfl; array_get_dec; rfl)
  | ((with_reducible apply v_lc); array_get_dec; array_mem_dec; (intro ia hia; try simp only [List.mem_range] at hia); (with_reducible apply t_lc); rfl; array_get_dec; rfl)
  | ((with_reducible apply v_lcfI); array_get_dec; array_mem_dec; (intro ia hia; try simp only [List.mem_range] at hia); (with_reducible apply t_lcf); rfl; array_get_dec; rfl; (intro hp; try simp only [decide_eq_true_eq] at hp); (with_reducible apply t_lc2); array_get_dec; rfl)
  | ((with_reducible apply v_lcf); array_get_dec; array_mem_dec; (intro ia hia; try simp only [List.mem_range] at hia); (with_reducible apply t_lcf); rfl; array_get_dec; rfl; (intro hp; try simp only [decide_eq_true_eq] at hp); (with_reducible apply t_lc2); array_get_dec; rfl)
  | ((with_reducible apply v_all); array_get_dec; array_mem_dec; (intro ia hia; try simp only [List.mem_range] at hia); (with_reducible apply t_lc); rfl; array_get_dec; rfl)
  | ((with_reducible apply v_allD); array_get_dec; array_mem_dec; (intro ia hia); (with_reducible apply t_lc); rfl; array_get_dec; rfl)
  | ((with_reducible apply v_any); array_get_dec; array_mem_dec; (intro ia hia; try simp only [List.mem_range] at hia); (with_reducible apply t_lc); rfl; array_get_dec; rfl)
  | ((with_reducible apply v_gsum); array_get_dec; array_mem_dec; (intro ia hia; try simp only [List.mem_range] at hia); (with_reducible apply t_lc); rfl; array_get_dec; rfl)
  | ((with_reducible apply v_gtupI); array_get_dec; array_mem_dec; (intro ia hia; try simp only [List.mem_range] at hia); (with_reducible apply t_lc); rfl; array_get_dec; rfl)
  | ((with_reducible apply v_gtup); array_get_dec; array_mem_dec; (intro ia hia; try simp only [List.mem_range] at hia); (with_reducible apply t_lc); rfl; array_get_dec; rfl)
  | sizeOf_list_dec)
local macro_rules | `(tactic| fail) => `(tactic| first
  | with_reducible exact ss_nil | ((with_reducible apply ss_nil'); rfl)
  | ((with_reducible apply n_asg); array_get_dec; rfl; try dsimp only [List.set_cons_zero, List.set_cons_succ])
  | ((with_reducible apply n_asgO); array_get_dec; rfl; try dsimp only [List.set_cons_zero, List.set_cons_succ])
  | ((with_reducible apply n_parO); array_get_dec; rfl; try dsimp only [List.set_cons_zero, List.set_cons_succ])
  | ((with_reducible apply n_par); array_get_dec; rfl; try dsimp only [List.set_cons_zero, List.set_cons_succ])
  | ((with_reducible apply n_asgG); array_get_dec; rfl; try dsimp only [List.set_cons_zero, List.set_cons_succ])
  | ((with_reducible apply n_aug); rfl; array_get_dec; rfl; decreasing_trivial_pre_omega; rfl; try dsimp only [List.set_cons_zero, List.set_cons_succ])
  | ((with_reducible apply n_exp); array_get_dec; try dsimp only [List.set_cons_zero, List.set_cons_succ])
  | ((with_reducible apply n_expX); array_get_dec) | ((with_reducible apply n_asgX); array_get_dec)
  | ((with_reducible apply n_ret); array_get_dec)
  | ((with_reducible apply n_retX); array_get_dec)
  | (focus ((with_reducible apply n_triR); (repeat' fail); done))
  | (focus ((with_reducible apply n_triX); (focus ((repeat' fail); done)); rfl; rfl; (focus ((repeat' fail); done)); rfl; done))
  | ((with_reducible apply n_retO); array_get_dec)
  | with_reducible exact n_rais
  | ((with_reducible apply n_ifF0); array_get_dec; rfl; rfl; try dsimp only [List.set_cons_zero, List.set_cons_succ])
  | (focus ((with_reducible apply n_ifTr); array_get_dec; rfl; rfl; (repeat' fail); done))
  | (focus ((with_reducible apply n_ifTx); array_get_dec; rfl; rfl; (repeat' fail); done))
  | ((with_reducible apply n_ifT); array_get_dec; rfl; rfl; (focus ((repeat' fail); done)); try dsimp only [List.set_cons_zero, List.set_cons_succ])
  | ((with_reducible apply n_ifF); array_get_dec; rfl; rfl; (focus ((repeat' fail); done)); try dsimp only [List.set_cons_zero, List.set_cons_succ])
  | (focus ((with_reducible apply n_ifFr); array_get_dec; rfl; rfl; (repeat' fail); done)))
theorem heights_bad (m : Nat) {x : PyData} {s : Int} (h : ¬ (0 ≤ s ∧ s ≤ 100)) : C (m + 3) 3 [.av x, .av (.int s)] = some (.ex "OutOfRange" []) := by
  have hc := check_bad m h
  apply call_ex (fn := f_heights_of) (ρ := [.sh x, .sh (.int s), .no, .no]) rfl rfl rfl
  · fail
  · rfl
theorem spell_loop (m : Nat) {g : List Int} {f t : Nat} (S : Spell g f t) : ∀ d : Nat, f + d ≤ t → ∃ ρ', whL (fun ρ => evT U gc (C m) t_spell_of_1 ρ) (fun ρ => exSs U gc (C m) b_spell_of_1 ρ) [.sh (.tuple (g.map .int)), .sh (.int (topI g)), .sh (.int (t : Nat)), .sh (.int (pre g t - pre g (f + d))), .sh (.int ((f + d : Nat) : Int))] = some (.nx ρ') ∧ ρ' = [.sh (.tuple (g.map .int)), .sh (.int (topI g)), .sh (.int (t : Nat)), .sh (.int (topI g)), .sh (.int (f : Nat))]
  | 0, _ => by
    refine ⟨_, ?_, rfl⟩
    have e : cmpD .NotEq (.int (pre g t - pre g f)) (.int (topI g)) = some false := c_neF S.sum
    show whL _ _ [.sh (.tuple (g.map .int)), .sh (.int (topI g)), .sh (.int (t : Nat)), .sh (.int (pre g t - pre g f)), .sh (.int ((f : Nat) : Int))] = _
    rw [S.sum] at e ⊢
    apply whL_end
    apply evT_of
    array_get_dec
  | d + 1, h => by
    obtain ⟨ρ', h1, h2⟩ := spell_loop m S d (by omega)
    refine ⟨ρ', ?_, h2⟩
    rw [← h1]
    show whL _ _ [.sh (.tuple (g.map .int)), .sh (.int (topI g)), .sh (.int (t : Nat)), .sh (.int (pre g t - pre g (f + d + 1))), .sh (.int ((f + d + 1 : Nat) : Int))] = _
    have e : cmpD .NotEq (.int (pre g t - pre g (f + d + 1))) (.int (topI g)) = some true := c_neT (S.lst _ (by omega) (by omega))
    have hs : binD .Sub (.int ((f + d + 1 : Nat) : Int)) (.int 1) = some (.val (.int ((f + d : Nat) : Int))) := by
      rw [b_sub, show ((f + d + 1 : Nat) : Int) - 1 = ((f + d : Nat) : Int) by omega]
    have ha : binD .Add (.int (pre g t - pre g (f + d + 1))) (.int (at0 g ((f + d : Nat) : Int))) = some (.val (.int (pre g t - pre g (f + d)))) := by
      rw [b_add, show pre g t - pre g (f + d + 1) + at0 g ((f + d : Nat) : Int) = pre g t - pre g (f + d) by rw [pre]; omega]
    have hx : ixD (.tuple (g.map .int)) (.int ((f + d : Nat) : Int)) = some (.int (at0 g ((f + d : Nat) : Int))) := x_tupI (by have := S.tn; omega)
    refine whL_go (ρ1 := [.sh (.tuple (g.map .int)), .sh (.int (topI g)), .sh (.int (t : Nat)), .sh (.int (pre g t - pre g (f + d + 1))), .sh (.int ((f + d + 1 : Nat) : Int))]) ?_ ?_
    · apply evT_of
      array_get_dec
    · fail
      fail
      fail
theorem spell_r (m : Nat) {g : List Int} (hg : g.length ≤ 1000) {f t : Nat} (h : 0 < topI g) (S : Spell g f t) (hi : (hl g 0 g.length).idxOf (topI g) = t) (hm : topI g ∈ hl g 0 g.length) : C (m + 5) 5 [.av (.tuple (g.map .int))] = some (.ok (.tuple [.int (f : Nat), .int (t : Nat)]) []) := by
  have h1 : C (m + 4) 4 [.av (.tuple (g.map .int)), .av (.int 0)] = some (.ok (.int (topI g)) []) := top_ok' m hg (by decide) (by decide)
  have h2 := heights_ok (m + 1) (g := g) (s := 0) hg (by decide) (by decide)
  have e1 : cmpD .Eq (.int (topI g)) (.int 0) = some false := c_eqF (by omega)
  obtain ⟨ρ', e, rfl⟩ := spell_loop (m + 4) S (t - f) (by have := S.ft; omega)
  have eft : f + (t - f) = t := by have := S.ft; omega
  rw [eft, Int.sub_self] at e
  apply call_rt (fn := f_spell_of) (ρ := [.sh (.tuple (g.map .int)), .no, .no, .no, .no]) rfl rfl rfl
  · fail
    fail
    fail
    rw [hi]
    fail
    fail
    apply n_whl
    · exact e
    fail
  · rfl
theorem spell_none (m : Nat) {g : List Int} (hg : g.length ≤ 1000) (h : topI g = 0) : C (m + 5) 5 [.av (.tuple (g.map .int))] = some (.ok .none []) := by
  have h1 : C (m + 4) 4 [.av (.tuple (g.map .int)), .av (.int 0)] = some (.ok (.int (topI g)) []) := top_ok' m hg (by decide) (by decide)
  have e1 : cmpD .Eq (.int (topI g)) (.int 0) = some true := c_eqT h
  apply call_rt (fn := f_spell_of) (ρ := [.sh (.tuple (g.map .int)), .no, .no, .no, .no]) rfl rfl rfl
  · fail
    fail
  · rfl
theorem lheight_loop (m : Nat) (g : List Int) (s : Int) (hg : g.length ≤ 1000) : ∃ ρ', forL (fun d ρ => (asgG (.n 3) d ρ).bind fun ρ => exSs U gc (C m) b__law_heights_1 ρ) (g.map .int) [.sh (.tuple (g.map .int)), .sh (.int s), .ol false [.int s], .no] = some (.nx ρ') ∧ ∃ a, ρ' = [.sh (.tuple (g.map .int)), .sh (.int s), .ol false ((hl g s g.length).map .int), a] := by
  have := for_inv (u := U) (gc := gc) (c := C m) (g := .n 3) (bd := b__law_heights_1) (ds := g.map .int) (ρ := [.sh (.tuple (g.map .int)), .sh (.int s), .ol false [.int s], .no])
    (fun j ρ => ∃ a, ρ = [.sh (.tuple (g.map .int)), .sh (.int s), .ol false ((hl g s j).map .int), a]) ⟨_, rfl⟩ fun j d ρ hj ⟨a, hr⟩ => by
      subst hr
      obtain ⟨h1, rfl⟩ := get_int hj
      have hx := hl_ix (g := g) (s := s) (j := j)
      have hl' : ((hl g s j).map PyData.int).length < line := by rw [List.length_map, hl_len]; unfold line; omega
      refine ⟨[.sh (.tuple (g.map .int)), .sh (.int s), .ol false ((hl g s j).map .int), .sh (.int (at0 g (j : Nat)))], _, rfl, ?_, .sh (.int (at0 g (j : Nat))), rfl⟩
      by_cases hc : 0 < hh g s j + at0 g (j : Nat)
      · have e : cmpD .Gt (.int (hh g s j + at0 g (j : Nat))) (.int 0) = some true := c_gtT hc
        have e2 : hh g s (j + 1) = hh g s j + at0 g (j : Nat) := by rw [hh]; omega
        rw [hl_succ, e2, List.map_append]
        fail
        fail
      · have e : cmpD .Gt (.int (hh g s j + at0 g (j : Nat))) (.int 0) = some false := c_gtF hc
        have e2 : hh g s (j + 1) = 0 := by rw [hh]; omega
        rw [hl_succ, e2, List.map_append]
        fail
        fail
  rw [List.length_map] at this
  exact this
theorem lheights_ok (m : Nat) {g : List Int} {s : Int} (hg : g.length ≤ 1000) : C (m + 1) 15 [.av (.tuple (g.map .int)), .av (.int s)] = some (.ok (.tuple ((hl g s g.length).map .int)) []) := by
  obtain ⟨ρ', e, a, rfl⟩ := lheight_loop m g s hg
  apply call_rt (fn := f__law_heights) (ρ := [.sh (.tuple (g.map .int)), .sh (.int s), .no, .no]) rfl rfl rfl
  · fail
    apply n_for
    · array_get_dec
    · exact e
    fail
  · rfl
theorem word_ok (k : Nat) : C (k + 1) 13 [.ax "OutOfRange"] = some (.ok (.str "range") []) := by
  kernel_rfl
end K04

end
section
set_option Elab.async false
set_option linter.all false
set_option maxRecDepth 100000
set_option maxHeartbeats 1000000
set_option autoImplicit false
namespace K04
open PySem RX M04
local macro_rules | `(tactic| array_mem_dec) => `(tactic| first
  | with_reducible assumption | omega | sizeOf_list_dec | (simp only [List.length_map, List.length_range, List.length_append, List.length_cons, List.length_nil, List.length_replicate, List.length_reverse, List.length_drop, List.length_take, line, Nat.reduceLeDiff, Nat.reduceAdd] at *; omega) | decide | rfl | (simp; done) | (unfold line; simp; omega))
local macro_rules | `(tactic| decreasing_trivial_pre_omega) => `(tactic| first
  | with_reducible assumption | sizeOf_list_dec | with_reducible exact b_add | with_reducible exact b_sub
  | ((with_reducible apply b_mulL); array_mem_dec) | ((with_reducible apply b_mulR); array_mem_dec) | ((with_reducible apply b_mulB); array_mem_dec; array_mem_dec)
  | ((with_reducible apply b_fd); array_mem_dec; array_mem_dec) | ((with_reducible apply b_mod); array_mem_dec)
  | ((with_reducible apply b_trep1); array_mem_dec) | ((with_reducible apply b_tcatI); array_mem_dec) | ((with_reducible apply b_tcatM); array_mem_dec) | ((with_reducible apply b_lcatM); array_mem_dec)
  | ((with_reducible apply b_lcat); array_mem_dec) | ((with_reducible apply b_tcat); array_mem_dec) | ((with_reducible apply b_trep); array_mem_dec) | ((with_reducible apply b_lrep); array_mem_dec)
  | ((with_reducible apply c_ltT); omega) | ((with_reducible apply c_ltF); omega) | with_reducible exact c_ltB
  | ((with_reducible apply c_leT); omega) | ((with_reducible apply c_leF); omega) | with_reducible exact c_leB
  | ((with_reducible apply c_gtT); omega) | ((with_reducible apply c_gtF); omega) | with_reducible exact c_gtB
  | ((with_reducible apply c_geT); omega) | ((with_reducible apply c_geF); omega) | with_reducible exact c_geB
  | ((with_reducible apply c_eqT); omega) | ((with_reducible apply c_eqF); omega) | with_reducible exact c_eqB
  | ((with_reducible apply c_neT); omega) | ((with_reducible apply c_neF); omega) | with_reducible exact c_neB
  | with_reducible exact f_lenLm | with_reducible exact f_lenTm | with_reducible exact f_lenL | with_reducible exact f_lenT | with_reducible exact f_sumL | with_reducible exact f_sumT
  | (refine f_minL ?_; array_mem_dec) | (refine f_maxL ?_; array_mem_dec) | (refine f_minT ?_; array_mem_dec) | (refine f_maxT ?_; array_mem_dec)
  | (with_reducible exact f_abs) | (with_reducible exact flat_iI) | with_reducible exact f_min2 | with_reducible exact f_max2 | with_reducible exact f_sorted | with_reducible exact f_sortedT | with_reducible exact f_sortedP | with_reducible exact f_int | with_reducible exact f_intB | with_reducible exact f_list | with_reducible exact f_listL | with_reducible exact f_tuple | with_reducible exact f_tupleT
  | (refine x_listI ?_; array_mem_dec) | (refine x_tupI ?_; array_mem_dec)
  | rfl)
local macro_rules | `(tactic| array_get_dec) => `(tactic| first
  | with_reducible assumption
  | with_reducible exact e_k
  | ((with_reducible apply v_var); first | rfl | with_reducible assumption) | ((with_reducible apply e_vo); first | rfl | with_reducible assumption) | ((with_reducible apply v_gi); rfl)
  | ((with_reducible apply v_bin); array_get_dec; array_get_dec; rfl; rfl; decreasing_trivial_pre_omega)
  | ((with_reducible apply v_cmp); array_get_dec; array_get_dec; rfl; rfl; decreasing_trivial_pre_omega)
  | ((with_reducible apply v_ix); array_get_dec; array_get_dec; rfl; rfl; decreasing_trivial_pre_omega)
  | ((with_reducible apply v_b1); array_get_dec; rfl; decreasing_trivial_pre_omega)
  | ((with_reducible apply v_b2); array_get_dec; array_get_dec; rfl; rfl; decreasing_trivial_pre_omega)
  | ((with_reducible apply v_isi); array_get_dec; rfl; first | rfl | sizeOf_list_dec)
  | ((with_reducible apply v_isx); rfl; first | rfl | decide)
  | ((with_reducible apply v_neg); array_get_dec; rfl)
  | ((with_reducible apply v_notT); array_get_dec; rfl; rfl) | ((with_reducible apply v_notF); array_get_dec; rfl; rfl) | ((with_reducible apply v_not); array_get_dec; rfl; rfl)
  | ((with_reducible apply v_chF); array_get_dec; array_get_dec; rfl; rfl; decreasing_trivial_pre_omega)
  | ((with_reducible apply v_chT); array_get_dec; array_get_dec; rfl; rfl; decreasing_trivial_pre_omega; array_get_dec; rfl; rfl; decreasing_trivial_pre_omega)
  | ((with_reducible apply v_chB); array_get_dec; array_get_dec; rfl; decreasing_trivial_pre_omega; array_get_dec; rfl; decreasing_trivial_pre_omega)
  | ((with_reducible apply e_anF); array_get_dec)
  | ((with_reducible apply v_anT); array_get_dec; array_get_dec)
  | ((with_reducible apply v_anB); array_get_dec; array_get_dec)
  | ((with_reducible apply v_anC); array_get_dec; (intro hC; simp only [decide_eq_true_eq, Bool.and_eq_true] at hC; array_get_dec))
  | ((with_reducible apply e_orT); array_get_dec)
  | ((with_reducible apply v_orF); array_get_dec; array_get_dec)
  | ((with_reducible apply v_orB); array_get_dec; array_get_dec)
  | ((with_reducible apply v_orC); array_get_dec; (intro hC; simp only [decide_eq_false_iff_not, Bool.or_eq_false_iff] at hC; array_get_dec))
  | ((with_reducible apply v_ifeT); array_get_dec; rfl; rfl; array_get_dec)
  | ((with_reducible apply v_ifeF); array_get_dec; rfl; rfl; array_get_dec)
  | (focus ((with_reducible apply v_ifeTO); array_get_dec; rfl; rfl; array_get_dec; done)) | (focus ((with_reducible apply v_ifeFO); array_get_dec; rfl; rfl; array_get_dec; done))
  | ((with_reducible apply v_ifeI); array_get_dec; rfl; rfl; array_get_dec; array_get_dec)
  | ((with_reducible apply v_ifeB); array_get_dec; rfl; rfl; array_get_dec; array_get_dec)
  | ((with_reducible apply e_tup); array_get_dec; first | (refine Nat.le_of_ble_eq_true ?_; rfl) | array_mem_dec)
  | ((with_reducible apply e_lst); array_get_dec; first | (refine Nat.le_of_ble_eq_true ?_; rfl) | array_mem_dec)
  | ((with_reducible apply v_sl); array_get_dec; array_get_dec; array_get_dec; rfl; first | with_reducible assumption | sizeOf_list_dec | ((with_reducible apply sl_toU); array_mem_dec) | ((with_reducible apply sl_fromU); array_mem_dec) | ((with_reducible apply sl_toL); array_mem_dec) | ((with_reducible apply sl_fromL); array_mem_dec) | rfl)
  | ((with_reducible apply v_idx); array_get_dec; rfl; array_get_dec; rfl; rfl; decreasing_trivial_pre_omega; decreasing_trivial_pre_omega)
  | ((with_reducible apply v_cnt); array_get_dec; rfl; array_get_dec; rfl; rfl; decreasing_trivial_pre_omega)
  | ((with_reducible apply v_cntT); array_get_dec; array_get_dec; rfl; decreasing_trivial_pre_omega) | ((with_reducible apply v_idxT); array_get_dec; array_get_dec; array_mem_dec)
  | ((with_reducible apply v_rvT); array_get_dec; rfl) | ((with_reducible apply v_rvL); array_get_dec; rfl)
  | ((with_reducible apply v_lr1); array_get_dec; (first | (refine okR_by ?_; omega) | rfl); array_mem_dec)
  | ((with_reducible apply v_lr2); array_get_dec; array_get_dec; (first | (refine okR_by ?_; omega) | rfl); (first | (refine okR_by ?_; omega) | rfl); array_mem_dec)
  | ((with_reducible apply v_lr3); array_get_dec; array_get_dec; array_get_dec; (first | (refine okR_by ?_; omega) | rfl); (first | (refine okR_by ?_; omega) | rfl); (first | rfl | decide); array_mem_dec)
  | ((with_reducible apply v_gcd); array_get_dec; array_get_dec; rfl; rfl)
  | ((with_reducible apply v_lend); rfl; (first | with_reducible assumption | sizeOf_list_dec); rfl)
  | with_reducible exact p_no | ((with_reducible apply p_so); array_get_dec; rfl)
  | ((with_reducible apply v_call); array_get_dec; first | with_reducible assumption | sizeOf_list_dec)
  | ((with_reducible apply v_callE); array_get_dec; first | with_reducible assumption | sizeOf_list_dec)
  | ((with_reducible apply v_callO); array_get_dec; first | with_reducible assumption | sizeOf_list_dec)
  | ((with_reducible apply e_drawL); exact ⟨_, rfl⟩; array_get_dec; rfl; (first | with_reducible assumption | sizeOf_list_dec); rfl)
  | ((with_reducible apply e_appL); exact ⟨_, rfl⟩; array_get_dec; rfl; array_mem_dec; rfl)
  | ((with_reducible apply gv); array_get_dec) | ((with_reducible apply gvN); array_get_dec) | ((with_reducible apply v_gv); array_get_dec; rfl)
  | with_reducible exact es_nil | ((with_reducible apply es_cons); array_get_dec; array_get_dec)
  | with_reducible exact gc_nil | ((with_reducible apply gc_cons); array_get_dec; array_get_dec)
  | with_reducible exact os_nil | ((with_reducible apply os_val); array_get_dec; array_get_dec) | ((with_reducible apply os_new); array_get_dec; array_get_dec)
  | with_reducible exact ts_nil | ((with_reducible apply ts_one'); array_get_dec; rfl; rfl)
  | ((with_reducible apply i_seq); array_get_dec; rfl) | ((with_reducible apply i_enu); array_get_dec; rfl) | ((with_reducible apply i_rev); array_get_dec; rfl)
  | ((with_reducible apply i_r1n); array_get_dec; array_mem_dec) | ((with_reducible apply i_r1); array_get_dec; first | array_mem_dec | (refine okR_by ?_; omega))
  | ((with_reducible apply i_r2); array_get_dec; array_get_dec; (first | (refine okR_by ?_; omega) | rfl); (first | (refine okR_by ?_; omega) | rfl))
  | ((with_reducible apply v_lcI); array_get_dec; array_mem_dec; (intro ia hia; try simp only [List.mem_range] at hia); (with_reducible apply t_lc); rfl; array_get_dec; rfl)
  | ((with_reducible apply v_lc); array_get_dec; array_mem_dec; (intro ia hia; try simp only [List.mem_range] at hia); (with_reducible apply t_lc); rfl; array_get_dec; rfl)
  | ((with_reducible apply v_lcfI); array_get_dec; array_mem_dec; (intro ia hia; try simp only [List.mem_range] at hia); (with_reducible apply t_lcf); rfl; array_get_dec; rfl; (intro hp; try simp only [decide_eq_true_eq] at hp); (with_reducible apply t_lc2); array_get_dec; rfl)
  | ((with_reducible apply v_lcf); array_get_dec; array_mem_dec; (intro ia hia; try simp only [List.mem_range] at hia); (with_reducible apply t_lcf); rfl; array_get_dec; rfl; (intro hp; try simp only [decide_eq_true_eq] at hp); (with_reducible apply t_lc2); array_get_dec; rfl)
  | ((with_reducible apply v_all); array_get_dec; array_mem_dec; (intro ia hia; try simp only [List.mem_range] at hia); (with_reducible apply t_lc); rfl; array_get_dec; rfl)
  | ((with_reducible apply v_allD); array_get_dec; array_mem_dec; (intro ia hia); (with_reducible apply t_lc); rfl; array_get_dec; rfl)
  | ((with_reducible apply v_any); array_get_dec; array_mem_dec; (intro ia hia; try simp only [List.mem_range] at hia); (with_reducible apply t_lc); rfl; array_get_dec; rfl)
  | ((with_reducible apply v_gsum); array_get_dec; array_mem_dec; (intro ia hia; try simp only [List.mem_range] at hia); (with_reducible apply t_lc); rfl; array_get_dec; rfl)
  | ((with_reducible apply v_gtupI); array_get_dec; array_mem_dec; (intro ia hia; try simp only [List.mem_range] at hia); (with_reducible apply t_lc); rfl; array_get_dec; rfl)
  | ((with_reducible apply v_gtup); array_get_dec; array_mem_dec; (intro ia hia; try simp only [List.mem_range] at hia); (with_reducible apply t_lc); rfl; array_get_dec; rfl)
  | sizeOf_list_dec)
local macro_rules | `(tactic| fail) => `(tactic| first
  | with_reducible exact ss_nil | ((with_reducible apply ss_nil'); rfl)
  | ((with_reducible apply n_asg); array_get_dec; rfl; try dsimp only [List.set_cons_zero, List.set_cons_succ])
  | ((with_reducible apply n_asgO); array_get_dec; rfl; try dsimp only [List.set_cons_zero, List.set_cons_succ])
  | ((with_reducible apply n_parO); array_get_dec; rfl; try dsimp only [List.set_cons_zero, List.set_cons_succ])
  | ((with_reducible apply n_par); array_get_dec; rfl; try dsimp only [List.set_cons_zero, List.set_cons_succ])
  | ((with_reducible apply n_asgG); array_get_dec; rfl; try dsimp only [List.set_cons_zero, List.set_cons_succ])
  | ((with_reducible apply n_aug); rfl; array_get_dec; rfl; decreasing_trivial_pre_omega; rfl; try dsimp only [List.set_cons_zero, List.set_cons_succ])
  | ((with_reducible apply n_exp); array_get_dec; try dsimp only [List.set_cons_zero, List.set_cons_succ])
  | ((with_reducible apply n_expX); array_get_dec) | ((with_reducible apply n_asgX); array_get_dec)
  | ((with_reducible apply n_ret); array_get_dec)
  | ((with_reducible apply n_retX); array_get_dec)
  | (focus ((with_reducible apply n_triR); (repeat' fail); done))
  | (focus ((with_reducible apply n_triX); (focus ((repeat' fail); done)); rfl; rfl; (focus ((repeat' fail); done)); rfl; done))
  | ((with_reducible apply n_retO); array_get_dec)
  | with_reducible exact n_rais
  | ((with_reducible apply n_ifF0); array_get_dec; rfl; rfl; try dsimp only [List.set_cons_zero, List.set_cons_succ])
  | (focus ((with_reducible apply n_ifTr); array_get_dec; rfl; rfl; (repeat' fail); done))
  | (focus ((with_reducible apply n_ifTx); array_get_dec; rfl; rfl; (repeat' fail); done))
  | ((with_reducible apply n_ifT); array_get_dec; rfl; rfl; (focus ((repeat' fail); done)); try dsimp only [List.set_cons_zero, List.set_cons_succ])
  | ((with_reducible apply n_ifF); array_get_dec; rfl; rfl; (focus ((repeat' fail); done)); try dsimp only [List.set_cons_zero, List.set_cons_succ])
  | (focus ((with_reducible apply n_ifFr); array_get_dec; rfl; rfl; (repeat' fail); done)))
theorem C_at {m f : Nat} {as : List CArg} {fn : Fn} (h : T[f]? = some fn) (hl : as.length = fn.np) : C (m + 1) f as = finF as (exSs U gc (C m) fn.body (enter fn as)) := callF_at h hl
theorem sub_ok : U "OutOfRange" "KiteError" = some true := rfl
theorem take_r (m : Nat) (xs : List Int) {b : Int} (hb : 0 < b) : C (m + 1) 10 [.al (xs.map .int), .av (.int b)] = some (.ok (.int (tkV xs b)) [(tkR xs).map .int]) := take_c rfl xs hb
theorem draws_r (m : Nat) (ns : List Int) (h : ns.length ≤ 63) : ∃ xs : List Int, C (m + 1) 9 [.av (.list (ns.map .int))] = some (.ow (xs.map .int) []) := draws_c rfl ns h
theorem says_r (m : Nat) (b : Bool) : C (m + 1) 12 [.av (.bool b), .av (.bool b)] = some (.ok (.bool true) []) := says_c rfl b
theorem alike_r {m : Nat} (n : Nat) (x : PyData) (h : fine n x = true) (hm : n < m) : C m 11 [.av x, .av x] = some (.ok (.bool true) []) := alike_refl rfl n x h m hm
theorem top_bad (m : Nat) {x : PyData} {s : Int} (h : ¬ (0 ≤ s ∧ s ≤ 100)) : C (m + 4) 4 [.av x, .av (.int s)] = some (.ex "OutOfRange" []) := by
  have hc := heights_bad m (x := x) h
  apply call_ex (fn := f_top_of) (ρ := [.sh x, .sh (.int s)]) rfl rfl rfl
  · with_reducible apply n_retX
    rw [E_b1]
    rw [v_callE (cs := [.av x, .av (.int s)]) (s := "OutOfRange") ?_ hc]
    · rfl
    · array_get_dec
  · rfl
theorem land_bad (m : Nat) {x : PyData} {s : Int} (h : ¬ (0 ≤ s ∧ s ≤ 100)) : C (m + 4) 6 [.av x, .av (.int s)] = some (.ex "OutOfRange" []) := by
  have hc := heights_bad m (x := x) h
  apply call_ex (fn := f_landings_of) (ρ := [.sh x, .sh (.int s), .no, .no]) rfl rfl rfl
  · fail
  · rfl
section
variable (m : Nat) {g : List Int} {s : Int}
theorem told0 (hg : g.length ≤ 1000) (h0 : 0 ≤ s) (h1 : s ≤ 100) : C (m + 5) 14 [.av (.int 0), .av (.tuple (g.map .int)), .av (.int s)] = some (.ok (.tuple ((hl g s g.length).map .int)) []) := by
  have h := heights_ok (m + 1) hg h0 h1
  apply call_rt (fn := f__law_told) (ρ := [.sh (.int 0), .sh (.tuple (g.map .int)), .sh (.int s), .no]) rfl rfl rfl
  · fail
  · rfl
theorem told1 (hg : g.length ≤ 1000) (h0 : 0 ≤ s) (h1 : s ≤ 100) : C (m + 5) 14 [.av (.int 1), .av (.tuple (g.map .int)), .av (.int s)] = some (.ok (.int (maxI (hl g s g.length))) []) := by
  have h := top_ok' m hg h0 h1
  apply call_rt (fn := f__law_told) (ρ := [.sh (.int 1), .sh (.tuple (g.map .int)), .sh (.int s), .no]) rfl rfl rfl
  · fail
  · rfl
theorem told2 (hg : g.length ≤ 1000) (h0 : 0 ≤ s) (h1 : s ≤ 100) : C (m + 5) 14 [.av (.int 2), .av (.tuple (g.map .int)), .av (.int s)] = some (.ok (.tuple ((land g s).map .int)) []) := by
  have h := land_ok m hg h0 h1
  apply call_rt (fn := f__law_told) (ρ := [.sh (.int 2), .sh (.tuple (g.map .int)), .sh (.int s), .no]) rfl rfl rfl
  · fail
  · rfl
theorem told0b {x : PyData} (h : ¬ (0 ≤ s ∧ s ≤ 100)) : C (m + 5) 14 [.av (.int 0), .av x, .av (.int s)] = some (.ok (.str "range") []) := by
  have h : C (m + 4) 3 [.av x, .av (.int s)] = some (.ex "OutOfRange" []) := heights_bad (m + 1) (x := x) h
  have hw : C (m + 4) 13 [.ax "OutOfRange"] = some (.ok (.str "range") []) := word_ok (m + 3)
  rw [C_at (fn := f__law_told) rfl rfl]
  simp [f__law_told, ir__law_told, exSs, exS, evE, evAs, evT, doCall, bos, RX.collect, putB, enter, slotOf, bnd, bnS, tstO, truD, Opd.rd, frz, Opd.fz, finF, outsL, cmpD, cmpI, h, sub_ok, setSlot, hw, clrX, notEx]
theorem told1b {x : PyData} (h : ¬ (0 ≤ s ∧ s ≤ 100)) : C (m + 5) 14 [.av (.int 1), .av x, .av (.int s)] = some (.ok (.str "range") []) := by
  have h : C (m + 4) 4 [.av x, .av (.int s)] = some (.ex "OutOfRange" []) := top_bad m (x := x) h
  have hw : C (m + 4) 13 [.ax "OutOfRange"] = some (.ok (.str "range") []) := word_ok (m + 3)
  rw [C_at (fn := f__law_told) rfl rfl]
  simp [f__law_told, ir__law_told, exSs, exS, evE, evAs, evT, doCall, bos, RX.collect, putB, enter, slotOf, bnd, bnS, tstO, truD, Opd.rd, frz, Opd.fz, finF, outsL, cmpD, cmpI, h, sub_ok, setSlot, hw, clrX, notEx]
theorem told2b {x : PyData} (h : ¬ (0 ≤ s ∧ s ≤ 100)) : C (m + 5) 14 [.av (.int 2), .av x, .av (.int s)] = some (.ok (.str "range") []) := by
  have h : C (m + 4) 6 [.av x, .av (.int s)] = some (.ex "OutOfRange" []) := land_bad m (x := x) h
  have hw : C (m + 4) 13 [.ax "OutOfRange"] = some (.ok (.str "range") []) := word_ok (m + 3)
  rw [C_at (fn := f__law_told) rfl rfl]
  simp [f__law_told, ir__law_told, exSs, exS, evE, evAs, evT, doCall, bos, RX.collect, putB, enter, slotOf, bnd, bnS, tstO, truD, Opd.rd, frz, Opd.fz, finF, outsL, cmpD, cmpI, h, sub_ok, setSlot, hw, clrX, notEx]
end
/-! ### all orders -/
def rowD (l : List Int) : PyData := .tuple (l.map .int)
theorem ord_loop (m : Nat) {row acc done : List (List Int)} {r : Slot} {x : Int} {k5 : Slot} (hacc : ∀ l ∈ acc, l.length ≤ 10) (h : acc.length * 11 ≤ 1000000) : ∃ ρ', forL (fun d ρ => (asgG (.n 4) d ρ).bind fun ρ => exSs U gc (C m) b__law_orders_1 ρ) (acc.map rowD) [r, .sh (.list (acc.map rowD)), .sh (.int x), .sh (.list []), k5, .no] = some (.nx ρ') ∧ ∃ a, ρ' = [r, .sh (.list (acc.map rowD)), .sh (.int x), .sh (.list ((ordF acc x).map rowD)), a, .no] := by
  have bound : ∀ n : Nat, ((acc.take n).flatMap (ins x)).length ≤ 1000000 := fun n => by
    have : ∀ ys : List (List Int), (∀ l ∈ ys, l.length ≤ 10) → (ys.flatMap (ins x)).length ≤ ys.length * 11 := fun ys => by
      induction ys with
      | nil => simp
      | cons y ys ih =>
        intro hy
        have h1 := ih fun l hl => hy l (List.mem_cons_of_mem _ hl)
        have h2 := hy y List.mem_cons_self
        rw [List.flatMap_cons, List.length_append, List.length_cons]
        have : (ins x y).length = y.length + 1 := by simp [ins]
        omega
    have h1 := this (acc.take n) fun l hl => hacc l (List.mem_of_mem_take hl)
    have h2 : (acc.take n).length ≤ acc.length := by rw [List.length_take]; omega
    omega
  obtain ⟨ρ', e, a, hr⟩ := for_inv (u := U) (gc := gc) (c := C m) (g := .n 4) (bd := b__law_orders_1) (ds := acc.map rowD) (ρ := [r, .sh (.list (acc.map rowD)), .sh (.int x), .sh (.list []), k5, .no])
    (fun j ρ => ∃ a, ρ = [r, .sh (.list (acc.map rowD)), .sh (.int x), .sh (.list (((acc.take j).flatMap (ins x)).map rowD)), a, .no]) ⟨_, rfl⟩ fun j d ρ hj ⟨a, hr⟩ => by
      subst hr
      rw [List.getElem?_map] at hj
      obtain ⟨l, hl, rfl⟩ := Option.map_eq_some_iff.mp hj
      obtain ⟨hj1, hj2⟩ := List.getElem?_eq_some_iff.mp hl
      have hll := hacc l (hj2 ▸ List.getElem_mem hj1)
      refine ⟨[r, .sh (.list (acc.map rowD)), .sh (.int x), .sh (.list (((acc.take j).flatMap (ins x)).map rowD)), .sh (rowD l), .no], _, rfl, ?_, .sh (rowD l), rfl⟩
      have e1 : acc.take (j + 1) = acc.take j ++ [l] := by rw [List.take_succ_eq_append_getElem hj1, hj2]
      have e2 : (acc.take (j + 1)).flatMap (ins x) = (acc.take j).flatMap (ins x) ++ ins x l := by rw [e1, List.flatMap_append]; simp
      have hb := bound j
      have hlc : evE U gc (C m) (.lc [5] (.n 5) (.r1 (.bin .Add (.b1 .len (.v 4)) (.k (.int 1)))) .nil (.bin .Add (.bin .Add (.sl (.v 4) .no (.so (.v 5))) (.tup (.cons (.v 2) .nil))) (.sl (.v 4) (.so (.v 5)) .no))) [r, .sh (.list (acc.map rowD)), .sh (.int x), .sh (.list (((acc.take j).flatMap (ins x)).map rowD)), .sh (.tuple (l.map .int)), .no] = some (.ok (.new ((ins x l).map rowD)) [r, .sh (.list (acc.map rowD)), .sh (.int x), .sh (.list (((acc.take j).flatMap (ins x)).map rowD)), .sh (.tuple (l.map .int)), .no]) := by
        have hlen : binD .Add (.int (l.length : Nat)) (.int 1) = some (.val (.int ((l.length + 1 : Nat) : Int))) := by rw [b_add]; rfl
        have := v_lc (u := U) (gc := gc) (c := C m) (own := [5]) (g := .n 5) (it := .r1 (.bin .Add (.b1 .len (.v 4)) (.k (.int 1)))) (e := .bin .Add (.bin .Add (.sl (.v 4) .no (.so (.v 5))) (.tup (.cons (.v 2) .nil))) (.sl (.v 4) (.so (.v 5)) .no))
          (ρ := [r, .sh (.list (acc.map rowD)), .sh (.int x), .sh (.list (((acc.take j).flatMap (ins x)).map rowD)), .sh (.tuple (l.map .int)), .no]) (ρ1 := [r, .sh (.list (acc.map rowD)), .sh (.int x), .sh (.list (((acc.take j).flatMap (ins x)).map rowD)), .sh (.tuple (l.map .int)), .no])
          (xs := List.range (l.length + 1)) (enc := natD) (F := fun k => rowD (l.take k ++ [x] ++ l.drop k)) (i_r1n (by array_get_dec) (by unfold line; omega)) (by rw [List.length_range]; unfold line; omega) fun k hk => by
            have s1 : slD (.tuple (l.map .int)) none (some (k : Nat)) = some (.val (.tuple ((l.take k).map .int))) := sl_toU (by omega)
            have s2 : slD (.tuple (l.map .int)) (some (k : Nat)) none = some (.val (.tuple ((l.drop k).map .int))) := sl_fromU (by omega)
            have a1 : binD .Add (.tuple ((l.take k).map .int)) (.tuple [.int x]) = some (.val (.tuple ((l.take k ++ [x]).map .int))) := b_tcatM (ys := [x]) (by simp; unfold line; omega)
            have a2 : binD .Add (.tuple ((l.take k ++ [x]).map .int)) (.tuple ((l.drop k).map .int)) = some (.val (.tuple ((l.take k ++ [x] ++ l.drop k).map .int))) := b_tcatM (by simp; unfold line; omega)
            apply t_lc
            · rfl
            · array_get_dec
            · rfl
        rw [this]
        unfold ins
        rw [List.map_map]; rfl
      rw [e2, List.map_append]
      show exSs U gc (C m) b__law_orders_1 [r, .sh (.list (acc.map rowD)), .sh (.int x), .sh (.list (((acc.take j).flatMap (ins x)).map rowD)), .sh (.tuple (l.map .int)), .no] = _
      have hc : binD .Add (.list (((acc.take j).flatMap (ins x)).map rowD)) (.list ((ins x l).map rowD)) = some (.new (((acc.take j).flatMap (ins x)).map rowD ++ (ins x l).map rowD)) := by
        refine b_lcat ?_
        have : (ins x l).length = l.length + 1 := by simp [ins]
        rw [List.length_map, List.length_map]; unfold line; omega
      fail
      fail
  rw [List.length_map, List.take_length] at hr
  exact ⟨ρ', e, a, hr⟩
theorem orders_ok (m : Nat) {row : List Int} (h : row.length ≤ 5) : C (m + 1) 17 [.av (.tuple (row.map .int))] = some (.ok (.list ((ords row).map rowD)) []) := by
  have few : ∀ j, j ≤ row.length → Few j ((row.take j).foldl ordF [[]]) := fun j => by
    induction j with
    | zero => exact fun _ => ⟨fun l hl => by simp at hl; subst hl; rfl, by simp⟩
    | succ j ih =>
      intro hj
      rw [List.take_succ_eq_append_getElem (by omega), List.foldl_append]
      exact few_ins (by omega) (ih (by omega))
  obtain ⟨ρ', e, a2, a3, a4, hr⟩ := for_inv (u := U) (gc := gc) (c := C m) (g := .n 2) (bd := b__law_orders_2) (ds := row.map .int) (ρ := [.sh (.tuple (row.map .int)), .sh (.list [.tuple []]), .no, .no, .no, .no])
    (fun j ρ => ∃ a2 a3 a4, ρ = [.sh (.tuple (row.map .int)), .sh (.list (((row.take j).foldl ordF [[]]).map rowD)), a2, a3, a4, .no]) ⟨_, _, _, rfl⟩ fun j d ρ hj ⟨a2, a3, a4, hr⟩ => by
      subst hr
      obtain ⟨h1, rfl⟩ := get_int hj
      have hf := few j (by omega)
      have hp : 6 ^ j ≤ 6 ^ 5 := Nat.pow_le_pow_right (by decide) (by omega)
      obtain ⟨ρ2, e2, a, rfl⟩ := ord_loop m (row := []) (done := []) (r := .sh (.tuple (row.map .int))) (x := at0 row (j : Nat)) (k5 := a4) (acc := (row.take j).foldl ordF [[]]) (fun l hl => by have := hf.1 l hl; omega) (by have := hf.2; simp at hp; omega)
      refine ⟨[.sh (.tuple (row.map .int)), .sh (.list (((row.take j).foldl ordF [[]]).map rowD)), .sh (.int (at0 row (j : Nat))), a3, a4, .no], [.sh (.tuple (row.map .int)), .sh (.list ((ordF ((row.take j).foldl ordF [[]]) (at0 row (j : Nat))).map rowD)), .sh (.int (at0 row (j : Nat))), .sh (.list ((ordF ((row.take j).foldl ordF [[]]) (at0 row (j : Nat))).map rowD)), a, .no], rfl, ?_, .sh (.int (at0 row (j : Nat))), .sh (.list ((ordF ((row.take j).foldl ordF [[]]) (at0 row (j : Nat))).map rowD)), a, ?_⟩
      · fail
        apply n_for
        · array_get_dec
        · exact e2
        fail
        fail
      · rw [List.take_succ_eq_append_getElem h1, List.foldl_append, at0_nat h1]; rfl
  rw [List.length_map, List.take_length] at hr
  subst hr
  apply call_rt (fn := f__law_orders) (ρ := [.sh (.tuple (row.map .int)), .no, .no, .no, .no, .no]) rfl rfl rfl
  · fail
    apply n_for
    · array_get_dec
    · exact e
    fail
  · rfl
end K04

end
section
set_option Elab.async false
set_option linter.all false
set_option maxRecDepth 100000
set_option maxHeartbeats 1000000
set_option autoImplicit false
namespace K04
open PySem RX M04
local macro_rules | `(tactic| array_mem_dec) => `(tactic| first
  | with_reducible assumption | omega | sizeOf_list_dec | (simp only [List.length_map, List.length_range, List.length_append, List.length_cons, List.length_nil, List.length_replicate, List.length_reverse, List.length_drop, List.length_take, line, Nat.reduceLeDiff, Nat.reduceAdd] at *; omega) | decide | rfl | (simp; done) | (unfold line; simp; omega))
local macro_rules | `(tactic| decreasing_trivial_pre_omega) => `(tactic| first
  | with_reducible assumption | sizeOf_list_dec | with_reducible exact b_add | with_reducible exact b_sub
  | ((with_reducible apply b_mulL); array_mem_dec) | ((with_reducible apply b_mulR); array_mem_dec) | ((with_reducible apply b_mulB); array_mem_dec; array_mem_dec)
  | ((with_reducible apply b_fd); array_mem_dec; array_mem_dec) | ((with_reducible apply b_mod); array_mem_dec)
  | ((with_reducible apply b_trep1); array_mem_dec) | ((with_reducible apply b_tcatI); array_mem_dec) | ((with_reducible apply b_tcatM); array_mem_dec) | ((with_reducible apply b_lcatM); array_mem_dec)
  | ((with_reducible apply b_lcat); array_mem_dec) | ((with_reducible apply b_tcat); array_mem_dec) | ((with_reducible apply b_trep); array_mem_dec) | ((with_reducible apply b_lrep); array_mem_dec)
  | ((with_reducible apply c_ltT); omega) | ((with_reducible apply c_ltF); omega) | with_reducible exact c_ltB
  | ((with_reducible apply c_leT); omega) | ((with_reducible apply c_leF); omega) | with_reducible exact c_leB
  | ((with_reducible apply c_gtT); omega) | ((with_reducible apply c_gtF); omega) | with_reducible exact c_gtB
  | ((with_reducible apply c_geT); omega) | ((with_reducible apply c_geF); omega) | with_reducible exact c_geB
  | ((with_reducible apply c_eqT); omega) | ((with_reducible apply c_eqF); omega) | with_reducible exact c_eqB
  | ((with_reducible apply c_neT); omega) | ((with_reducible apply c_neF); omega) | with_reducible exact c_neB
  | with_reducible exact f_lenLm | with_reducible exact f_lenTm | with_reducible exact f_lenL | with_reducible exact f_lenT | with_reducible exact f_sumL | with_reducible exact f_sumT
  | (refine f_minL ?_; array_mem_dec) | (refine f_maxL ?_; array_mem_dec) | (refine f_minT ?_; array_mem_dec) | (refine f_maxT ?_; array_mem_dec)
  | (with_reducible exact f_abs) | (with_reducible exact flat_iI) | with_reducible exact f_min2 | with_reducible exact f_max2 | with_reducible exact f_sorted | with_reducible exact f_sortedT | with_reducible exact f_sortedP | with_reducible exact f_int | with_reducible exact f_intB | with_reducible exact f_list | with_reducible exact f_listL | with_reducible exact f_tuple | with_reducible exact f_tupleT
  | (refine x_listI ?_; array_mem_dec) | (refine x_tupI ?_; array_mem_dec)
  | rfl)
local macro_rules | `(tactic| array_get_dec) => `(tactic| first
  | with_reducible assumption
  | with_reducible exact e_k
  | ((with_reducible apply v_var); first | rfl | with_reducible assumption) | ((with_reducible apply e_vo); first | rfl | with_reducible assumption) | ((with_reducible apply v_gi); rfl)
  | ((with_reducible apply v_bin); array_get_dec; array_get_dec; rfl; rfl; decreasing_trivial_pre_omega)
  | ((with_reducible apply v_cmp); array_get_dec; array_get_dec; rfl; rfl; decreasing_trivial_pre_omega)
  | ((with_reducible apply v_ix); array_get_dec; array_get_dec; rfl; rfl; decreasing_trivial_pre_omega)
  | ((with_reducible apply v_b1); array_get_dec; rfl; decreasing_trivial_pre_omega)
  | ((with_reducible apply v_b2); array_get_dec; array_get_dec; rfl; rfl; decreasing_trivial_pre_omega)
  | ((with_reducible apply v_isi); array_get_dec; rfl; first | rfl | sizeOf_list_dec)
  | ((with_reducible apply v_isx); rfl; first | rfl | decide)
  | ((with_reducible apply v_neg); array_get_dec; rfl)
  | ((with_reducible apply v_notT); array_get_dec; rfl; rfl) | ((with_reducible apply v_notF); array_get_dec; rfl; rfl) | ((with_reducible apply v_not); array_get_dec; rfl; rfl)
  | ((with_reducible apply v_chF); array_get_dec; array_get_dec; rfl; rfl; decreasing_trivial_pre_omega)
  | ((with_reducible apply v_chT); array_get_dec; array_get_dec; rfl; rfl; decreasing_trivial_pre_omega; array_get_dec; rfl; rfl; decreasing_trivial_pre_omega)
  | ((with_reducible apply v_chB); array_get_dec; array_get_dec; rfl; decreasing_trivial_pre_omega; array_get_dec; rfl; decreasing_trivial_pre_omega)
  | ((with_reducible apply e_anF); array_get_dec)
  | ((with_reducible apply v_anT); array_get_dec; array_get_dec)
  | ((with_reducible apply v_anB); array_get_dec; array_get_dec)
  | ((with_reducible apply v_anC); array_get_dec; (intro hC; simp only [decide_eq_true_eq, Bool.and_eq_true] at hC; array_get_dec))
  | ((with_reducible apply e_orT); array_get_dec)
  | ((with_reducible apply v_orF); array_get_dec; array_get_dec)
  | ((with_reducible apply v_orB); array_get_dec; array_get_dec)
  | ((with_reducible apply v_orC); array_get_dec; (intro hC; simp only [decide_eq_false_iff_not, Bool.or_eq_false_iff] at hC; array_get_dec))
  | ((with_reducible apply v_ifeT); array_get_dec; rfl; rfl; array_get_dec)
  | ((with_reducible apply v_ifeF); array_get_dec; rfl; rfl; array_get_dec)
  | (focus ((with_reducible apply v_ifeTO); array_get_dec; rfl; rfl; array_get_dec; done)) | (focus ((with_reducible apply v_ifeFO); array_get_dec; rfl; rfl; array_get_dec; done))
  | ((with_reducible apply v_ifeI); array_get_dec; rfl; rfl; array_get_dec; array_get_dec)
  | ((with_reducible apply v_ifeB); array_get_dec; rfl; rfl; array_get_dec; array_get_dec)
  | ((with_reducible apply e_tup); array_get_dec; first | (refine Nat.le_of_ble_eq_true ?_; rfl) | array_mem_dec)
  | ((with_reducible apply e_lst); array_get_dec; first | (refine Nat.le_of_ble_eq_true ?_; rfl) | array_mem_dec)
  | ((with_reducible apply v_sl); array_get_dec; array_get_dec; array_get_dec; rfl; first | with_reducible assumption | sizeOf_list_dec | ((with_reducible apply sl_toU); array_mem_dec) | ((with_reducible apply sl_fromU); array_mem_dec) | ((with_reducible apply sl_toL); array_mem_dec) | ((with_reducible apply sl_fromL); array_mem_dec) | rfl)
  | ((with_reducible apply v_idx); array_get_dec; rfl; array_get_dec; rfl; rfl; decreasing_trivial_pre_omega; decreasing_trivial_pre_omega)
  | ((with_reducible apply v_cnt); array_get_dec; rfl; array_get_dec; rfl; rfl; decreasing_trivial_pre_omega)
  | ((with_reducible apply v_cntT); array_get_dec; array_get_dec; rfl; decreasing_trivial_pre_omega) | ((with_reducible apply v_idxT); array_get_dec; array_get_dec; array_mem_dec)
  | ((with_reducible apply v_rvT); array_get_dec; rfl) | ((with_reducible apply v_rvL); array_get_dec; rfl)
  | ((with_reducible apply v_lr1); array_get_dec; (first | (refine okR_by ?_; omega) | rfl); array_mem_dec)
  | ((with_reducible apply v_lr2); array_get_dec; array_get_dec; (first | (refine okR_by ?_; omega) | rfl); (first | (refine okR_by ?_; omega) | rfl); array_mem_dec)
  | ((with_reducible apply v_lr3); array_get_dec; array_get_dec; array_get_dec; (first | (refine okR_by ?_; omega) | rfl); (first | (refine okR_by ?_; omega) | rfl); (first | rfl | decide); array_mem_dec)
  | ((with_reducible apply v_gcd); array_get_dec; array_get_dec; rfl; rfl)
  | ((with_reducible apply v_lend); rfl; (first | with_reducible assumption | sizeOf_list_dec); rfl)
  | with_reducible exact p_no | ((with_reducible apply p_so); array_get_dec; rfl)
  | ((with_reducible apply v_call); array_get_dec; first | with_reducible assumption | sizeOf_list_dec)
  | ((with_reducible apply v_callE); array_get_dec; first | with_reducible assumption | sizeOf_list_dec)
  | ((with_reducible apply v_callO); array_get_dec; first | with_reducible assumption | sizeOf_list_dec)
  | ((with_reducible apply e_drawL); exact ⟨_, rfl⟩; array_get_dec; rfl; (first | with_reducible assumption | sizeOf_list_dec); rfl)
  | ((with_reducible apply e_appL); exact ⟨_, rfl⟩; array_get_dec; rfl; array_mem_dec; rfl)
  | ((with_reducible apply gv); array_get_dec) | ((with_reducible apply gvN); array_get_dec) | ((with_reducible apply v_gv); array_get_dec; rfl)
  | with_reducible exact es_nil | ((with_reducible apply es_cons); array_get_dec; array_get_dec)
  | with_reducible exact gc_nil | ((with_reducible apply gc_cons); array_get_dec; array_get_dec)
  | with_reducible exact os_nil | ((with_reducible apply os_val); array_get_dec; array_get_dec) | ((with_reducible apply os_new); array_get_dec; array_get_dec)
  | with_reducible exact ts_nil | ((with_reducible apply ts_one'); array_get_dec; rfl; rfl)
  | ((with_reducible apply i_seq); array_get_dec; rfl) | ((with_reducible apply i_enu); array_get_dec; rfl) | ((with_reducible apply i_rev); array_get_dec; rfl)
  | ((with_reducible apply i_r1n); array_get_dec; array_mem_dec) | ((with_reducible apply i_r1); array_get_dec; first | array_mem_dec | (refine okR_by ?_; omega))
  | ((with_reducible apply i_r2); array_get_dec; array_get_dec; (first | (refine okR_by ?_; omega) | rfl); (first | (refine okR_by ?_; omega) | rfl))
  | ((with_reducible apply v_lcI); array_get_dec; array_mem_dec; (intro ia hia; try simp only [List.mem_range] at hia); (with_reducible apply t_lc); rfl; array_get_dec; rfl)
  | ((with_reducible apply v_lc); array_get_dec; array_mem_dec; (intro ia hia; try simp only [List.mem_range] at hia); (with_reducible apply t_lc); rfl; array_get_dec; rfl)
  | ((with_reducible apply v_lcfI); array_get_dec; array_mem_dec; (intro ia hia; try simp only [List.mem_range] at hia); (with_reducible apply t_lcf); rfl; array_get_dec; rfl; (intro hp; try simp only [decide_eq_true_eq] at hp); (with_reducible apply t_lc2); array_get_dec; rfl)
  | ((with_reducible apply v_lcf); array_get_dec; array_mem_dec; (intro ia hia; try simp only [List.mem_range] at hia); (with_reducible apply t_lcf); rfl; array_get_dec; rfl; (intro hp; try simp only [decide_eq_true_eq] at hp); (with_reducible apply t_lc2); array_get_dec; rfl)
  | ((with_reducible apply v_all); array_get_dec; array_mem_dec; (intro ia hia; try simp only [List.mem_range] at hia); (with_reducible apply t_lc); rfl; array_get_dec; rfl)
  | ((with_reducible apply v_allD); array_get_dec; array_mem_dec; (intro ia hia); (with_reducible apply t_lc); rfl; array_get_dec; rfl)
  | ((with_reducible apply v_any); array_get_dec; array_mem_dec; (intro ia hia; try simp only [List.mem_range] at hia); (with_reducible apply t_lc); rfl; array_get_dec; rfl)
  | ((with_reducible apply v_gsum); array_get_dec; array_mem_dec; (intro ia hia; try simp only [List.mem_range] at hia); (with_reducible apply t_lc); rfl; array_get_dec; rfl)
  | ((with_reducible apply v_gtupI); array_get_dec; array_mem_dec; (intro ia hia; try simp only [List.mem_range] at hia); (with_reducible apply t_lc); rfl; array_get_dec; rfl)
  | ((with_reducible apply v_gtup); array_get_dec; array_mem_dec; (intro ia hia; try simp only [List.mem_range] at hia); (with_reducible apply t_lc); rfl; array_get_dec; rfl)
  | sizeOf_list_dec)
local macro_rules | `(tactic| fail) => `(tactic| first
  | with_reducible exact ss_nil | ((with_reducible apply ss_nil'); rfl)
  | ((with_reducible apply n_asg); array_get_dec; rfl; try dsimp only [List.set_cons_zero, List.set_cons_succ])
  | ((with_reducible apply n_asgO); array_get_dec; rfl; try dsimp only [List.set_cons_zero, List.set_cons_succ])
  | ((with_reducible apply n_parO); array_get_dec; rfl; try dsimp only [List.set_cons_zero, List.set_cons_succ])
  | ((with_reducible apply n_par); array_get_dec; rfl; try dsimp only [List.set_cons_zero, List.set_cons_succ])
  | ((with_reducible apply n_asgG); array_get_dec; rfl; try dsimp only [List.set_cons_zero, List.set_cons_succ])
  | ((with_reducible apply n_aug); rfl; array_get_dec; rfl; decreasing_trivial_pre_omega; rfl; try dsimp only [List.set_cons_zero, List.set_cons_succ])
  | ((with_reducible apply n_exp); array_get_dec; try dsimp only [List.set_cons_zero, List.set_cons_succ])
  | ((with_reducible apply n_expX); array_get_dec) | ((with_reducible apply n_asgX); array_get_dec)
  | ((with_reducible apply n_ret); array_get_dec)
  | ((with_reducible apply n_retX); array_get_dec)
  | (focus ((with_reducible apply n_triR); (repeat' fail); done))
  | (focus ((with_reducible apply n_triX); (focus ((repeat' fail); done)); rfl; rfl; (focus ((repeat' fail); done)); rfl; done))
  | ((with_reducible apply n_retO); array_get_dec)
  | with_reducible exact n_rais
  | ((with_reducible apply n_ifF0); array_get_dec; rfl; rfl; try dsimp only [List.set_cons_zero, List.set_cons_succ])
  | (focus ((with_reducible apply n_ifTr); array_get_dec; rfl; rfl; (repeat' fail); done))
  | (focus ((with_reducible apply n_ifTx); array_get_dec; rfl; rfl; (repeat' fail); done))
  | ((with_reducible apply n_ifT); array_get_dec; rfl; rfl; (focus ((repeat' fail); done)); try dsimp only [List.set_cons_zero, List.set_cons_succ])
  | ((with_reducible apply n_ifF); array_get_dec; rfl; rfl; (focus ((repeat' fail); done)); try dsimp only [List.set_cons_zero, List.set_cons_succ])
  | (focus ((with_reducible apply n_ifFr); array_get_dec; rfl; rfl; (repeat' fail); done)))
local macro_rules | `(tactic| sizeOf_list_dec) => `(tactic| ((with_reducible apply take_r); array_mem_dec))
def fG (ys : List Int) (a b c d e : Slot) : RX.Env := [.ol true (ys.map .int), a, b, c, d, e]
theorem gusts_draw (m : Nat) (xs : List Int) : ∃ (g ys : List Int), Gst g ∧ C (m + 2) 16 [.al (xs.map .int)] = some (.ok (.tuple (g.map .int)) [ys.map .int]) := by
  have t1 := tkV_lt (b := 3) xs (by decide)
  obtain ⟨d1, hd1, a1, a2⟩ := pick3 (a := 4) (b := 12) (c := 41) (P := fun d => 0 < d ∧ d ≤ 41) t1.1 t1.2 (by decide) (by decide) (by decide)
  have t2 := tkV_lt (b := d1) (tkR xs) a1
  have t3 := tkV_lt (b := 3) (tkR (tkR xs)) (by decide)
  obtain ⟨w, hw, w1, w2⟩ := pick3 (a := 1) (b := 4) (c := 30) (P := fun d => 0 < d ∧ d ≤ 30) t3.1 t3.2 (by decide) (by decide) (by decide)
  obtain ⟨n, hn, hn2⟩ : ∃ n : Nat, tkV (tkR xs) d1 = (n : Nat) ∧ n ≤ 40 := ⟨(tkV (tkR xs) d1).toNat, by omega, by omega⟩
  generalize hx3 : tkR (tkR (tkR xs)) = x3
  have hgo : ∃ (is : List Int) (zs' : List Int), evE U gc (C (m + 1)) (.lc [4] (.n 4) (.r1 (.v 1)) .nil (.bin .Sub (.call 10 (.bo 0 (.ex (.bin .Add (.bin .Mult (.k (.int 2)) (.v 2)) (.k (.int 1))) .nil))) (.v 2))) (fG x3 (.sh (.int (n : Nat))) (.sh (.int w)) .no .no .no) = some (.ok (.new (is.map .int)) (fG zs' (.sh (.int (n : Nat))) (.sh (.int w)) .no .no .no)) ∧ is.length = (List.range n).length ∧ (∀ i ∈ is, -30 ≤ i ∧ i ≤ 30) ∧ True := by
    refine v_lcEI (xs := List.range n) (enc := natD) (E := fun zs => fG zs (.sh (.int (n : Nat))) (.sh (.int w)) .no .no .no) (Ps := fun _ => True) (s0 := x3) (i_r1n (E_var rfl) (by unfold line; omega)) (by rw [List.length_range]; unfold line; omega) trivial (fun s => rfl) fun a ha s _ => ?_
    have u1 := tkV_lt (b := 2 * w + 1) s (by omega)
    refine ⟨tkR s, tkV s (2 * w + 1) - w, fG s (.sh (.int (n : Nat))) (.sh (.int w)) .no (.sh (natD a)) .no, fG (tkR s) (.sh (.int (n : Nat))) (.sh (.int w)) .no (.sh (natD a)) .no, rfl, ?_, rfl, ⟨by omega, by omega⟩, trivial⟩
    unfold fG
    array_get_dec
  obtain ⟨is, zs, g1, g2, g3, _⟩ := hgo
  rw [List.length_range] at g2
  have t5 := tkV_lt (b := 3) zs (by decide)
  by_cases h5 : tkV zs 3 = 0
  · have e5 : cmpD .Eq (.int (tkV zs 3)) (.int 0) = some true := c_eqT h5
    have hgo2 : ∃ (js : List Int) (_ : Unit), evE U gc (C (m + 1)) (.lc [5] (.n 5) (.r1 (.v 1)) .nil (.ife (.cmp .Eq (.bin .Mult (.bin .FloorDiv (.v 5) (.k (.int 2))) (.k (.int 2))) (.v 5)) (.b1 .abs (.ix (.v 3) (.v 5))) (.bin .Sub (.k (.int 0)) (.b1 .abs (.ix (.v 3) (.v 5)))))) (fG (tkR zs) (.sh (.int (n : Nat))) (.sh (.int w)) (.sh (.list (is.map .int))) .no .no) = some (.ok (.new (js.map .int)) (fG (tkR zs) (.sh (.int (n : Nat))) (.sh (.int w)) (.sh (.list (is.map .int))) .no .no)) ∧ js.length = (List.range n).length ∧ (∀ i ∈ js, -30 ≤ i ∧ i ≤ 30) ∧ True := by
      refine v_lcEI (xs := List.range n) (enc := natD) (E := fun _ => fG (tkR zs) (.sh (.int (n : Nat))) (.sh (.int w)) (.sh (.list (is.map .int))) .no .no) (Ps := fun _ => True) (s0 := ()) (i_r1n (E_var rfl) (by unfold line; omega)) (by rw [List.length_range]; unfold line; omega) trivial (fun s => rfl) fun a ha s _ => ?_
      have ha := List.mem_range.mp ha
      have hi : at0 is (a : Nat) ∈ is := by rw [at0_nat (by omega)]; exact List.getElem_mem _
      have hb := g3 _ hi
      have hx : ixD (.list (is.map .int)) (.int (a : Nat)) = some (.int (at0 is (a : Nat))) := x_listI (by omega)
      by_cases hp : (a : Int) / 2 * 2 = a
      · have e6 : cmpD .Eq (.int ((a : Int) / 2 * 2)) (.int (a : Nat)) = some true := c_eqT hp
        refine ⟨(), ((at0 is (a : Nat)).natAbs : Nat), fG (tkR zs) (.sh (.int (n : Nat))) (.sh (.int w)) (.sh (.list (is.map .int))) .no (.sh (natD a)), fG (tkR zs) (.sh (.int (n : Nat))) (.sh (.int w)) (.sh (.list (is.map .int))) .no (.sh (natD a)), rfl, ?_, rfl, ⟨by omega, by omega⟩, trivial⟩
        unfold fG
        array_get_dec
      · have e6 : cmpD .Eq (.int ((a : Int) / 2 * 2)) (.int (a : Nat)) = some false := c_eqF hp
        refine ⟨(), 0 - ((at0 is (a : Nat)).natAbs : Nat), fG (tkR zs) (.sh (.int (n : Nat))) (.sh (.int w)) (.sh (.list (is.map .int))) .no (.sh (natD a)), fG (tkR zs) (.sh (.int (n : Nat))) (.sh (.int w)) (.sh (.list (is.map .int))) .no (.sh (natD a)), rfl, ?_, rfl, ⟨by omega, by omega⟩, trivial⟩
        unfold fG
        array_get_dec
    obtain ⟨js, _, j1, j2, j3, _⟩ := hgo2
    rw [List.length_range] at j2
    refine ⟨js, tkR zs, ⟨by omega, j3⟩, ?_⟩
    apply call_rt (fn := f__law_gusts) (ρ := fG xs .no .no .no .no .no) rfl rfl rfl
    · unfold fG at *
      fail
      rw [hn]
      fail
      rw [hx3]
      fail
      apply n_ifT
      · array_get_dec
      · rfl
      · rfl
      · with_reducible apply n_asg
        · apply gvN
          exact j1
        · rfl
        fail
      fail
    · rfl
  · have e5 : cmpD .Eq (.int (tkV zs 3)) (.int 0) = some false := c_eqF h5
    refine ⟨is, tkR zs, ⟨by omega, g3⟩, ?_⟩
    apply call_rt (fn := f__law_gusts) (ρ := fG xs .no .no .no .no .no) rfl rfl rfl
    · unfold fG at *
      fail
      rw [hn]
      fail
      rw [hx3]
      fail
      fail
      fail
    · rfl
end K04

end
section
set_option Elab.async false
set_option linter.all false
set_option maxRecDepth 100000
set_option maxHeartbeats 1000000
set_option autoImplicit false
namespace K04
open PySem RX M04
local macro_rules | `(tactic| array_mem_dec) => `(tactic| first
  | with_reducible assumption | omega | sizeOf_list_dec | (simp only [List.length_map, List.length_range, List.length_append, List.length_cons, List.length_nil, List.length_replicate, List.length_reverse, List.length_drop, List.length_take, line, Nat.reduceLeDiff, Nat.reduceAdd] at *; omega) | decide | rfl | (simp; done) | (unfold line; simp; omega))
local macro_rules | `(tactic| decreasing_trivial_pre_omega) => `(tactic| first
  | with_reducible assumption | sizeOf_list_dec | with_reducible exact b_add | with_reducible exact b_sub
  | ((with_reducible apply b_mulL); array_mem_dec) | ((with_reducible apply b_mulR); array_mem_dec) | ((with_reducible apply b_mulB); array_mem_dec; array_mem_dec)
  | ((with_reducible apply b_fd); array_mem_dec; array_mem_dec) | ((with_reducible apply b_mod); array_mem_dec)
  | ((with_reducible apply b_trep1); array_mem_dec) | ((with_reducible apply b_tcatI); array_mem_dec) | ((with_reducible apply b_tcatM); array_mem_dec) | ((with_reducible apply b_lcatM); array_mem_dec)
  | ((with_reducible apply b_lcat); array_mem_dec) | ((with_reducible apply b_tcat); array_mem_dec) | ((with_reducible apply b_trep); array_mem_dec) | ((with_reducible apply b_lrep); array_mem_dec)
  | ((with_reducible apply c_ltT); omega) | ((with_reducible apply c_ltF); omega) | with_reducible exact c_ltB
  | ((with_reducible apply c_leT); omega) | ((with_reducible apply c_leF); omega) | with_reducible exact c_leB
  | ((with_reducible apply c_gtT); omega) | ((with_reducible apply c_gtF); omega) | with_reducible exact c_gtB
  | ((with_reducible apply c_geT); omega) | ((with_reducible apply c_geF); omega) | with_reducible exact c_geB
  | ((with_reducible apply c_eqT); omega) | ((with_reducible apply c_eqF); omega) | with_reducible exact c_eqB
  | ((with_reducible apply c_neT); omega) | ((with_reducible apply c_neF); omega) | with_reducible exact c_neB
  | with_reducible exact f_lenLm | with_reducible exact f_lenTm | with_reducible exact f_lenL | with_reducible exact f_lenT | with_reducible exact f_sumL | with_reducible exact f_sumT
  | (refine f_minL ?_; array_mem_dec) | (refine f_maxL ?_; array_mem_dec) | (refine f_minT ?_; array_mem_dec) | (refine f_maxT ?_; array_mem_dec)
  | (with_reducible exact f_abs) | (with_reducible exact flat_iI) | with_reducible exact f_min2 | with_reducible exact f_max2 | with_reducible exact f_sorted | with_reducible exact f_sortedT | with_reducible exact f_sortedP | with_reducible exact f_int | with_reducible exact f_intB | with_reducible exact f_list | with_reducible exact f_listL | with_reducible exact f_tuple | with_reducible exact f_tupleT
  | (refine x_listI ?_; array_mem_dec) | (refine x_tupI ?_; array_mem_dec)
  | rfl)
local macro_rules | `(tactic| array_get_dec) => `(tactic| first
  | with_reducible assumption
  | with_reducible exact e_k
  | ((with_reducible apply v_var); first | rfl | with_reducible assumption) | ((with_reducible apply e_vo); first | rfl | with_reducible assumption) | ((with_reducible apply v_gi); rfl)
  | ((with_reducible apply v_bin); array_get_dec; array_get_dec; rfl; rfl; decreasing_trivial_pre_omega)
  | ((with_reducible apply v_cmp); array_get_dec; array_get_dec; rfl; rfl; decreasing_trivial_pre_omega)
  | ((with_reducible apply v_ix); array_get_dec; array_get_dec; rfl; rfl; decreasing_trivial_pre_omega)
  | ((with_reducible apply v_b1); array_get_dec; rfl; decreasing_trivial_pre_omega)
  | ((with_reducible apply v_b2); array_get_dec; array_get_dec; rfl; rfl; decreasing_trivial_pre_omega)
  | ((with_reducible apply v_isi); array_get_dec; rfl; first | rfl | sizeOf_list_dec)
  | ((with_reducible apply v_isx); rfl; first | rfl | decide)
  | ((with_reducible apply v_neg); array_get_dec; rfl)
  | ((with_reducible apply v_notT); array_get_dec; rfl; rfl) | ((with_reducible apply v_notF); array_get_dec; rfl; rfl) | ((with_reducible apply v_not); array_get_dec; rfl; rfl)
  | ((with_reducible apply v_chF); array_get_dec; array_get_dec; rfl; rfl; decreasing_trivial_pre_omega)
  | ((with_reducible apply v_chT); array_get_dec; array_get_dec; rfl; rfl; decreasing_trivial_pre_omega; array_get_dec; rfl; rfl; decreasing_trivial_pre_omega)
  | ((with_reducible apply v_chB); array_get_dec; array_get_dec; rfl; decreasing_trivial_pre_omega; array_get_dec; rfl; decreasing_trivial_pre_omega)
  | ((with_reducible apply e_anF); array_get_dec)
  | ((with_reducible apply v_anT); array_get_dec; array_get_dec)
  | ((with_reducible apply v_anB); array_get_dec; array_get_dec)
  | ((with_reducible apply v_anC); array_get_dec; (intro hC; simp only [decide_eq_true_eq, Bool.and_eq_true] at hC; array_get_dec))
  | ((with_reducible apply e_orT); array_get_dec)
  | ((with_reducible apply v_orF); array_get_dec; array_get_dec)
  | ((with_reducible apply v_orB); array_get_dec; array_get_dec)
  | ((with_reducible apply v_orC); array_get_dec; (intro hC; simp only [decide_eq_false_iff_not, Bool.or_eq_false_iff] at hC; array_get_dec))
  | ((with_reducible apply v_ifeT); array_get_dec; rfl; rfl; array_get_dec)
  | ((with_reducible apply v_ifeF); array_get_dec; rfl; rfl; array_get_dec)
  | (focus ((with_reducible apply v_ifeTO); array_get_dec; rfl; rfl; array_get_dec; done)) | (focus ((with_reducible apply v_ifeFO); array_get_dec; rfl; rfl; array_get_dec; done))
  | ((with_reducible apply v_ifeI); array_get_dec; rfl; rfl; array_get_dec; array_get_dec)
  | ((with_reducible apply v_ifeB); array_get_dec; rfl; rfl; array_get_dec; array_get_dec)
  | ((with_reducible apply e_tup); array_get_dec; first | (refine Nat.le_of_ble_eq_true ?_; rfl) | array_mem_dec)
  | ((with_reducible apply e_lst); array_get_dec; first | (refine Nat.le_of_ble_eq_true ?_; rfl) | array_mem_dec)
  | ((with_reducible apply v_sl); array_get_dec; array_get_dec; array_get_dec; rfl; first | with_reducible assumption | sizeOf_list_dec | ((with_reducible apply sl_toU); array_mem_dec) | ((with_reducible apply sl_fromU); array_mem_dec) | ((with_reducible apply sl_toL); array_mem_dec) | ((with_reducible apply sl_fromL); array_mem_dec) | rfl)
  | ((with_reducible apply v_idx); array_get_dec; rfl; array_get_dec; rfl; rfl; decreasing_trivial_pre_omega; decreasing_trivial_pre_omega)
  | ((with_reducible apply v_cnt); array_get_dec; rfl; array_get_dec; rfl; rfl; decreasing_trivial_pre_omega)
  | ((with_reducible apply v_cntT); array_get_dec; array_get_dec; rfl; decreasing_trivial_pre_omega) | ((with_reducible apply v_idxT); array_get_dec; array_get_dec; array_mem_dec)
  | ((with_reducible apply v_rvT); array_get_dec; rfl) | ((with_reducible apply v_rvL); array_get_dec; rfl)
  | ((with_reducible apply v_lr1); array_get_dec; (first | (refine okR_by ?_; omega) | rfl); array_mem_dec)
  | ((with_reducible apply v_lr2); array_get_dec; array_get_dec; (first | (refine okR_by ?_; omega) | rfl); (first | (refine okR_by ?_; omega) | rfl); array_mem_dec)
  | ((with_reducible apply v_lr3); array_get_dec; array_get_dec; array_get_dec; (first | (refine okR_by ?_; omega) | rfl); (first | (refine okR_by ?_; omega) | rfl); (first | rfl | decide); array_mem_dec)
  | ((with_reducible apply v_gcd); array_get_dec; array_get_dec; rfl; rfl)
  | ((with_reducible apply v_lend); rfl; (first | with_reducible assumption | sizeOf_list_dec); rfl)
  | with_reducible exact p_no | ((with_reducible apply p_so); array_get_dec; rfl)
  | ((with_reducible apply v_call); array_get_dec; first | with_reducible assumption | sizeOf_list_dec)
  | ((with_reducible apply v_callE); array_get_dec; first | with_reducible assumption | sizeOf_list_dec)
  | ((with_reducible apply v_callO); array_get_dec; first | with_reducible assumption | sizeOf_list_dec)
  | ((with_reducible apply e_drawL); exact ⟨_, rfl⟩; array_get_dec; rfl; (first | with_reducible assumption | sizeOf_list_dec); rfl)
  | ((with_reducible apply e_appL); exact ⟨_, rfl⟩; array_get_dec; rfl; array_mem_dec; rfl)
  | ((with_reducible apply gv); array_get_dec) | ((with_reducible apply gvN); array_get_dec) | ((with_reducible apply v_gv); array_get_dec; rfl)
  | with_reducible exact es_nil | ((with_reducible apply es_cons); array_get_dec; array_get_dec)
  | with_reducible exact gc_nil | ((with_reducible apply gc_cons); array_get_dec; array_get_dec)
  | with_reducible exact os_nil | ((with_reducible apply os_val); array_get_dec; array_get_dec) | ((with_reducible apply os_new); array_get_dec; array_get_dec)
  | with_reducible exact ts_nil | ((with_reducible apply ts_one'); array_get_dec; rfl; rfl)
  | ((with_reducible apply i_seq); array_get_dec; rfl) | ((with_reducible apply i_enu); array_get_dec; rfl) | ((with_reducible apply i_rev); array_get_dec; rfl)
  | ((with_reducible apply i_r1n); array_get_dec; array_mem_dec) | ((with_reducible apply i_r1); array_get_dec; first | array_mem_dec | (refine okR_by ?_; omega))
  | ((with_reducible apply i_r2); array_get_dec; array_get_dec; (first | (refine okR_by ?_; omega) | rfl); (first | (refine okR_by ?_; omega) | rfl))
  | ((with_reducible apply v_lcI); array_get_dec; array_mem_dec; (intro ia hia; try simp only [List.mem_range] at hia); (with_reducible apply t_lc); rfl; array_get_dec; rfl)
  | ((with_reducible apply v_lc); array_get_dec; array_mem_dec; (intro ia hia; try simp only [List.mem_range] at hia); (with_reducible apply t_lc); rfl; array_get_dec; rfl)
  | ((with_reducible apply v_lcfI); array_get_dec; array_mem_dec; (intro ia hia; try simp only [List.mem_range] at hia); (with_reducible apply t_lcf); rfl; array_get_dec; rfl; (intro hp; try simp only [decide_eq_true_eq] at hp); (with_reducible apply t_lc2); array_get_dec; rfl)
  | ((with_reducible apply v_lcf); array_get_dec; array_mem_dec; (intro ia hia; try simp only [List.mem_range] at hia); (with_reducible apply t_lcf); rfl; array_get_dec; rfl; (intro hp; try simp only [decide_eq_true_eq] at hp); (with_reducible apply t_lc2); array_get_dec; rfl)
  | ((with_reducible apply v_all); array_get_dec; array_mem_dec; (intro ia hia; try simp only [List.mem_range] at hia); (with_reducible apply t_lc); rfl; array_get_dec; rfl)
  | ((with_reducible apply v_allD); array_get_dec; array_mem_dec; (intro ia hia); (with_reducible apply t_lc); rfl; array_get_dec; rfl)
  | ((with_reducible apply v_any); array_get_dec; array_mem_dec; (intro ia hia; try simp only [List.mem_range] at hia); (with_reducible apply t_lc); rfl; array_get_dec; rfl)
  | ((with_reducible apply v_gsum); array_get_dec; array_mem_dec; (intro ia hia; try simp only [List.mem_range] at hia); (with_reducible apply t_lc); rfl; array_get_dec; rfl)
  | ((with_reducible apply v_gtupI); array_get_dec; array_mem_dec; (intro ia hia; try simp only [List.mem_range] at hia); (with_reducible apply t_lc); rfl; array_get_dec; rfl)
  | ((with_reducible apply v_gtup); array_get_dec; array_mem_dec; (intro ia hia; try simp only [List.mem_range] at hia); (with_reducible apply t_lc); rfl; array_get_dec; rfl)
  | sizeOf_list_dec)
local macro_rules | `(tactic| fail) => `(tactic| first
  | with_reducible exact ss_nil | ((with_reducible apply ss_nil'); rfl)
  | ((with_reducible apply n_asg); array_get_dec; rfl; try dsimp only [List.set_cons_zero, List.set_cons_succ])
  | ((with_reducible apply n_asgO); array_get_dec; rfl; try dsimp only [List.set_cons_zero, List.set_cons_succ])
  | ((with_reducible apply n_parO); array_get_dec; rfl; try dsimp only [List.set_cons_zero, List.set_cons_succ])
  | ((with_reducible apply n_par); array_get_dec; rfl; try dsimp only [List.set_cons_zero, List.set_cons_succ])
  | ((with_reducible apply n_asgG); array_get_dec; rfl; try dsimp only [List.set_cons_zero, List.set_cons_succ])
  | ((with_reducible apply n_aug); rfl; array_get_dec; rfl; decreasing_trivial_pre_omega; rfl; try dsimp only [List.set_cons_zero, List.set_cons_succ])
  | ((with_reducible apply n_exp); array_get_dec; try dsimp only [List.set_cons_zero, List.set_cons_succ])
  | ((with_reducible apply n_expX); array_get_dec) | ((with_reducible apply n_asgX); array_get_dec)
  | ((with_reducible apply n_ret); array_get_dec)
  | ((with_reducible apply n_retX); array_get_dec)
  | (focus ((with_reducible apply n_triR); (repeat' fail); done))
  | (focus ((with_reducible apply n_triX); (focus ((repeat' fail); done)); rfl; rfl; (focus ((repeat' fail); done)); rfl; done))
  | ((with_reducible apply n_retO); array_get_dec)
  | with_reducible exact n_rais
  | ((with_reducible apply n_ifF0); array_get_dec; rfl; rfl; try dsimp only [List.set_cons_zero, List.set_cons_succ])
  | (focus ((with_reducible apply n_ifTr); array_get_dec; rfl; rfl; (repeat' fail); done))
  | (focus ((with_reducible apply n_ifTx); array_get_dec; rfl; rfl; (repeat' fail); done))
  | ((with_reducible apply n_ifT); array_get_dec; rfl; rfl; (focus ((repeat' fail); done)); try dsimp only [List.set_cons_zero, List.set_cons_succ])
  | ((with_reducible apply n_ifF); array_get_dec; rfl; rfl; (focus ((repeat' fail); done)); try dsimp only [List.set_cons_zero, List.set_cons_succ])
  | (focus ((with_reducible apply n_ifFr); array_get_dec; rfl; rfl; (repeat' fail); done)))
local macro_rules | `(tactic| sizeOf_list_dec) => `(tactic| ((with_reducible apply take_r); array_mem_dec))
local macro_rules | `(tactic| sizeOf_list_dec) => `(tactic| with_reducible exact says_r _ _)
def fL (sc : PyData) (ys g : List Int) (a : List Slot) : RX.Env := .sh sc :: .ol false (ys.map .int) :: .sh (.tuple (g.map .int)) :: .sh (.int (g.length : Nat)) :: a
theorem seg0 (ns : List Int) (h : ns.length ≤ 63) : ∃ (g ys : List Int), Gst g ∧ ∀ (ss : Ss) (so : Option SOut), exSs U gc (C 12) ss (fL (.list (ns.map .int)) ys g [.no, .no, .no, .no, .no, .no, .no, .no, .no, .no, .no, .no, .no, .no, .no, .no, .no, .no, .no, .no, .no, .no, .no, .no, .no]) = so →
    exSs U gc (C 12) (.cons s_law_1 (.cons s_law_2 (.cons s_law_3 (.cons s_law_4 ss)))) [.sh (.list (ns.map .int)), .no, .no, .no, .no, .no, .no, .no, .no, .no, .no, .no, .no, .no, .no, .no, .no, .no, .no, .no, .no, .no, .no, .no, .no, .no, .no, .no, .no] = so := by
  obtain ⟨xs, hd⟩ := draws_r 11 ns h
  obtain ⟨g, ys, k, hg⟩ := gusts_draw 10 xs
  refine ⟨g, ys, k, fun ss so hs => ?_⟩
  have hk := gusts_ok 10 k
  fail
  with_reducible apply n_asg
  · apply gv
    apply v_lend
    · rfl
    · exact hg
    · rfl
  · rfl
  fail
  fail
  exact hs
/-! ### one start -/
section
variable (sc : PyData) (ys : List Int) {g : List Int} (k : Gst g) {s : Int} (h0 : 0 ≤ s) (h1 : s ≤ 100)
include k h0 h1
theorem body5 (s16 s17 s21 s22 : Slot) : ∃ t21 t22, exSs U gc (C 12) b_law_1 (fL sc ys g [.sh (.int s), .no, .no, .no, .no, .no, .no, .no, .no, .no, .no, .no, s16, s17, .no, .no, .no, s21, s22, .no, .no, .no, .no, .no, .no]) =
    some (.nx (fL sc ys g [.sh (.int s), .no, .no, .no, .no, .no, .no, .no, .no, .no, .no, .no, .sh (.tuple ((hl g s g.length).map .int)), .sh (.tuple ((land g s).map .int)), .no, .no, .no, t21, t22, .no, .no, .no, .no, .no, .no])) := by
  have hf := k.few
  have hg : g.length ≤ 1000 := by omega
  have d1 := lheights_ok 11 (s := s) hg
  have hlen := hl_len (g := g) s g.length
  have hne := hl_ne (g := g) s g.length
  have w0 := told0 7 hg h0 h1
  have w1 := told1 7 hg h0 h1
  have w2 := told2 7 hg h0 h1
  have hlc : ∀ a b : Slot, evE U gc (C 12) (.lc [26] (.n 26) (.r1 (.k (.int 3))) .nil (.call 14 (.ex (.v 26) (.ex (.v 2) (.ex (.v 4) .nil))))) (fL sc ys g [.sh (.int s), .no, .no, .no, .no, .no, .no, .no, .no, .no, .no, .no, .sh (.tuple ((hl g s g.length).map .int)), .sh (.tuple ((land g s).map .int)), .no, .no, .no, a, b, .no, .no, .no, .no, .no, .no]) =
      some (.ok (.new [.tuple ((hl g s g.length).map .int), .int (maxI (hl g s g.length)), .tuple ((land g s).map .int)]) (fL sc ys g [.sh (.int s), .no, .no, .no, .no, .no, .no, .no, .no, .no, .no, .no, .sh (.tuple ((hl g s g.length).map .int)), .sh (.tuple ((land g s).map .int)), .no, .no, .no, a, b, .no, .no, .no, .no, .no, .no])) := fun a b => by
    refine v_lc (xs := List.range 3) (enc := natD) (F := fun i => if i = 0 then .tuple ((hl g s g.length).map .int) else if i = 1 then .int (maxI (hl g s g.length)) else .tuple ((land g s).map .int)) (i_r1n e_k (by decide)) (by decide) fun i hi => ?_
    have hi := List.mem_range.mp hi
    have : i = 0 ∨ i = 1 ∨ i = 2 := by omega
    unfold fL
    rcases this with rfl | rfl | rfl
    · refine t_lc rfl (gv (v_call (gc_cons (gv (v_var rfl)) (gc_cons (gv (v_var rfl)) (gc_cons (gv (v_var rfl)) gc_nil))) w0)) rfl
    · refine t_lc rfl (gv (v_call (gc_cons (gv (v_var rfl)) (gc_cons (gv (v_var rfl)) (gc_cons (gv (v_var rfl)) gc_nil))) w1)) rfl
    · refine t_lc rfl (gv (v_call (gc_cons (gv (v_var rfl)) (gc_cons (gv (v_var rfl)) (gc_cons (gv (v_var rfl)) gc_nil))) w2)) rfl
  have hlc' := hlc s21 s22
  unfold fL at hlc'
  have hal := alike_r (m := 12) 2 (.list [.tuple ((hl g s g.length).map .int), .int (maxI (hl g s g.length)), .tuple ((land g s).map .int)]) (by
    have q1 : fine 1 (.tuple ((hl g s g.length).map .int)) = true := fine_tupI (by rw [hlen]; unfold line; omega)
    have q2 : fine 1 (.tuple ((land g s).map .int)) = true := fine_tupI (by
      unfold land
      rw [List.length_map]
      refine Nat.le_trans (List.length_filter_le _ _) ?_
      rw [List.length_range]; unfold line; omega)
    exact fine_list (by simp [line]) (fineAll_cons q1 (fineAll_cons rfl (fineAll_cons q2 (fineAll_nil _))))) (by decide)
  have hx1 : ixD (.tuple ((hl g s g.length).map .int)) (.int (-1)) = some (.int (hh g s g.length)) := by rw [x_tupI (by omega), hl_last]
  have hadd : binD .Add (.list [.int (s + g.sum)]) (.list (((List.range g.length).map fun (k : Nat) => (g.drop ((k : Int) + 1).toNat).sum).map .int)) = some (.new (([s + g.sum] ++ (List.range g.length).map fun (k : Nat) => (g.drop ((k : Int) + 1).toNat).sum).map .int)) := b_lcatM (xs := [s + g.sum]) (by simp; unfold line; omega)
  have hmx : biD .max [.list (([s + g.sum] ++ (List.range g.length).map fun (k : Nat) => (g.drop ((k : Int) + 1).toNat).sum).map .int)] = some (.val (.int (hh g s g.length))) := by
    rw [f_maxL (by simp)]
    have e : ((List.range g.length).map fun (k : Nat) => (g.drop ((k : Int) + 1).toNat).sum) = (List.range g.length).map fun k => (g.drop (k + 1)).sum := List.map_congr_left fun k _ => by rw [show ((k : Int) + 1).toNat = k + 1 by omega]
    rw [e, last_ok h0]
  have hc1 : cmpD .NotEq (.int (hh g s g.length)) (.int (hh g s g.length)) = some false := c_neF rfl
  by_cases hs : s < 100
  · have d2 := heights_ok 9 (g := g) (s := s + 1) hg (by omega) (by omega)
    have hlen2 := hl_len (g := g) (s + 1) g.length
    have c1 : cmpD .Lt (.int s) (.int 100) = some true := c_ltT hs
    refine ⟨.sh (.tuple ((hl g (s + 1) g.length).map .int)), .sh (.list (((List.range (g.length + 1)).map fun (j : Nat) => at0 (hl g (s + 1) g.length) (j : Nat) - at0 (hl g s g.length) (j : Nat)).map .int)), ?_⟩
    have hsuc : binD .Add (.int (g.length : Nat)) (.int 1) = some (.val (.int ((g.length + 1 : Nat) : Int))) := by rw [b_add]; rfl
    have hgap : ∀ j : Nat, j ≤ g.length → ixD (.list (((List.range (g.length + 1)).map fun (j : Nat) => at0 (hl g (s + 1) g.length) (j : Nat) - at0 (hl g s g.length) (j : Nat)).map .int)) (.int (j : Nat)) = some (.int (hh g (s + 1) j - hh g s j)) := fun j hj => by
      refine x_list ?_
      rw [List.getElem?_map, List.getElem?_map, List.getElem?_range (by omega)]
      simp only [Option.map_some]
      rw [hl_at hj, hl_at hj]
    have hN : evE U gc (C 12) (.lc [19] (.n 19) (.r1 (.bin .Add (.v 3) (.k (.int 1)))) (.cons (.orr (.cmp .NotIn (.ix (.v 22) (.v 19)) (.lst (.cons (.k (.int 0)) (.cons (.k (.int 1)) .nil)))) (.an (.cmp .Gt (.v 19) (.k (.int 0))) (.cmp .Gt (.ix (.v 22) (.v 19)) (.ix (.v 22) (.bin .Sub (.v 19) (.k (.int 1))))))) .nil) (.v 19))
        (fL sc ys g [.sh (.int s), .no, .no, .no, .no, .no, .no, .no, .no, .no, .no, .no, .sh (.tuple ((hl g s g.length).map .int)), .sh (.tuple ((land g s).map .int)), .no, .no, .no, .sh (.tuple ((hl g (s + 1) g.length).map .int)), .sh (.list (((List.range (g.length + 1)).map fun (j : Nat) => at0 (hl g (s + 1) g.length) (j : Nat) - at0 (hl g s g.length) (j : Nat)).map .int)), .no, .no, .no, .no, .no, .no]) =
        some (.ok (.new []) (fL sc ys g [.sh (.int s), .no, .no, .no, .no, .no, .no, .no, .no, .no, .no, .no, .sh (.tuple ((hl g s g.length).map .int)), .sh (.tuple ((land g s).map .int)), .no, .no, .no, .sh (.tuple ((hl g (s + 1) g.length).map .int)), .sh (.list (((List.range (g.length + 1)).map fun (j : Nat) => at0 (hl g (s + 1) g.length) (j : Nat) - at0 (hl g s g.length) (j : Nat)).map .int)), .no, .no, .no, .no, .no, .no])) := by
      refine v_lcN (ds := (List.range (g.length + 1)).map natD) (i_r1n ?_ (by unfold line; omega)) (by rw [List.length_map, List.length_range]; unfold line; omega) fun d hd => ?_
      · unfold fL
        array_get_dec
      obtain ⟨i, hi, rfl⟩ := List.mem_map.mp hd
      have hi := List.mem_range.mp hi
      have x1 := hgap i (by omega)
      have c2 : cmpD .NotIn (.int (hh g (s + 1) i - hh g s i)) (.list [.int 0, .int 1]) = some false := by
        rcases (gap (g := g) s i).1 with e | e <;> rw [e] <;> rfl
      unfold fL
      cases i with
      | zero =>
        apply t_lcn
        · rfl
        · apply ts_one'
          · apply v_orF
            · array_get_dec
            · apply e_anF
              array_get_dec
          · rfl
          · rfl
        · rfl
      | succ i =>
        have x2 := hgap i (by omega)
        have c3 : cmpD .Gt (.int ((i + 1 : Nat) : Int)) (.int 0) = some true := c_gtT (by omega)
        have c4 : binD .Sub (.int ((i + 1 : Nat) : Int)) (.int 1) = some (.val (.int (i : Nat))) := by rw [b_sub, show ((i + 1 : Nat) : Int) - 1 = (i : Nat) by omega]
        have c5 : cmpD .Gt (.int (hh g (s + 1) (i + 1) - hh g s (i + 1))) (.int (hh g (s + 1) i - hh g s i)) = some false := c_gtF (by have := (gap (g := g) s i).2; omega)
        apply t_lcn
        · rfl
        · apply ts_one'
          · apply v_orF
            · array_get_dec
            · apply v_anT
              · array_get_dec
              · array_get_dec
          · rfl
          · rfl
        · rfl
    unfold fL at hN ⊢
    fail
    with_reducible apply n_asg
    · array_get_dec
    · rfl
    dsimp only [List.set_cons_zero, List.set_cons_succ]
    show exSs U gc (C 12) _ [.sh sc, .ol false (ys.map .int), .sh (.tuple (g.map .int)), .sh (.int (g.length : Nat)), .sh (.int s), .no, .no, .no, .no, .no, .no, .no, .no, .no, .no, .no, .sh (.tuple ((hl g s g.length).map .int)), .sh (.tuple ((land g s).map .int)), .no, .no, .no, s21, s22, .no, .no, .no, .no, .no, .no] = _
    fail
    fail
    with_reducible apply n_ifT
    · array_get_dec
    · rfl
    · rfl
    · fail
      fail
      fail
      fail
    fail
  · have c1 : cmpD .Lt (.int s) (.int 100) = some false := c_ltF hs
    refine ⟨s21, s22, ?_⟩
    unfold fL
    fail
    with_reducible apply n_asg
    · array_get_dec
    · rfl
    dsimp only [List.set_cons_zero, List.set_cons_succ]
    show exSs U gc (C 12) _ [.sh sc, .ol false (ys.map .int), .sh (.tuple (g.map .int)), .sh (.int (g.length : Nat)), .sh (.int s), .no, .no, .no, .no, .no, .no, .no, .no, .no, .no, .no, .sh (.tuple ((hl g s g.length).map .int)), .sh (.tuple ((land g s).map .int)), .no, .no, .no, s21, s22, .no, .no, .no, .no, .no, .no] = _
    fail
    fail
    fail
    fail
end
end K04

end
section
set_option Elab.async false
set_option linter.all false
set_option maxRecDepth 100000
set_option maxHeartbeats 1000000
set_option autoImplicit false
namespace K04
open PySem RX M04
local macro_rules | `(tactic| array_mem_dec) => `(tactic| first
  | with_reducible assumption | omega | sizeOf_list_dec | (simp only [List.length_map, List.length_range, List.length_append, List.length_cons, List.length_nil, List.length_replicate, List.length_reverse, List.length_drop, List.length_take, line, Nat.reduceLeDiff, Nat.reduceAdd] at *; omega) | decide | rfl | (simp; done) | (unfold line; simp; omega))
local macro_rules | `(tactic| decreasing_trivial_pre_omega) => `(tactic| first
  | with_reducible assumption | sizeOf_list_dec | with_reducible exact b_add | with_reducible exact b_sub
  | ((with_reducible apply b_mulL); array_mem_dec) | ((with_reducible apply b_mulR); array_mem_dec) | ((with_reducible apply b_mulB); array_mem_dec; array_mem_dec)
  | ((with_reducible apply b_fd); array_mem_dec; array_mem_dec) | ((with_reducible apply b_mod); array_mem_dec)
  | ((with_reducible apply b_trep1); array_mem_dec) | ((with_reducible apply b_tcatI); array_mem_dec) | ((with_reducible apply b_tcatM); array_mem_dec) | ((with_reducible apply b_lcatM); array_mem_dec)
  | ((with_reducible apply b_lcat); array_mem_dec) | ((with_reducible apply b_tcat); array_mem_dec) | ((with_reducible apply b_trep); array_mem_dec) | ((with_reducible apply b_lrep); array_mem_dec)
  | ((with_reducible apply c_ltT); omega) | ((with_reducible apply c_ltF); omega) | with_reducible exact c_ltB
  | ((with_reducible apply c_leT); omega) | ((with_reducible apply c_leF); omega) | with_reducible exact c_leB
  | ((with_reducible apply c_gtT); omega) | ((with_reducible apply c_gtF); omega) | with_reducible exact c_gtB
  | ((with_reducible apply c_geT); omega) | ((with_reducible apply c_geF); omega) | with_reducible exact c_geB
  | ((with_reducible apply c_eqT); omega) | ((with_reducible apply c_eqF); omega) | with_reducible exact c_eqB
  | ((with_reducible apply c_neT); omega) | ((with_reducible apply c_neF); omega) | with_reducible exact c_neB
  | with_reducible exact f_lenLm | with_reducible exact f_lenTm | with_reducible exact f_lenL | with_reducible exact f_lenT | with_reducible exact f_sumL | with_reducible exact f_sumT
  | (refine f_minL ?_; array_mem_dec) | (refine f_maxL ?_; array_mem_dec) | (refine f_minT ?_; array_mem_dec) | (refine f_maxT ?_; array_mem_dec)
  | (with_reducible exact f_abs) | (with_reducible exact flat_iI) | with_reducible exact f_min2 | with_reducible exact f_max2 | with_reducible exact f_sorted | with_reducible exact f_sortedT | with_reducible exact f_sortedP | with_reducible exact f_int | with_reducible exact f_intB | with_reducible exact f_list | with_reducible exact f_listL | with_reducible exact f_tuple | with_reducible exact f_tupleT
  | (refine x_listI ?_; array_mem_dec) | (refine x_tupI ?_; array_mem_dec)
  | rfl)
local macro_rules | `(tactic| array_get_dec) => `(tactic| first
  | with_reducible assumption
  | with_reducible exact e_k
  | ((with_reducible apply v_var); first | rfl | with_reducible assumption) | ((with_reducible apply e_vo); first | rfl | with_reducible assumption) | ((with_reducible apply v_gi); rfl)
  | ((with_reducible apply v_bin); array_get_dec; array_get_dec; rfl; rfl; decreasing_trivial_pre_omega)
  | ((with_reducible apply v_cmp); array_get_dec; array_get_dec; rfl; rfl; decreasing_trivial_pre_omega)
  | ((with_reducible apply v_ix); array_get_dec; array_get_dec; rfl; rfl; decreasing_trivial_pre_omega)
  | ((with_reducible apply v_b1); array_get_dec; rfl; decreasing_trivial_pre_omega)
  | ((with_reducible apply v_b2); array_get_dec; array_get_dec; rfl; rfl; decreasing_trivial_pre_omega)
  | ((with_reducible apply v_isi); array_get_dec; rfl; first | rfl | sizeOf_list_dec)
  | ((with_reducible apply v_isx); rfl; first | rfl | decide)
  | ((with_reducible apply v_neg); array_get_dec; rfl)
  | ((with_reducible apply v_notT); array_get_dec; rfl; rfl) | ((with_reducible apply v_notF); array_get_dec; rfl; rfl) | ((with_reducible apply v_not); array_get_dec; rfl; rfl)
  | ((with_reducible apply v_chF); array_get_dec; array_get_dec; rfl; rfl; decreasing_trivial_pre_omega)
  | ((with_reducible apply v_chT); array_get_dec; array_get_dec; rfl; rfl; decreasing_trivial_pre_omega; array_get_dec; rfl; rfl; decreasing_trivial_pre_omega)
  | ((with_reducible apply v_chB); array_get_dec; array_get_dec; rfl; decreasing_trivial_pre_omega; array_get_dec; rfl; decreasing_trivial_pre_omega)
  | ((with_reducible apply e_anF); array_get_dec)
  | ((with_reducible apply v_anT); array_get_dec; array_get_dec)
  | ((with_reducible apply v_anB); array_get_dec; array_get_dec)
  | ((with_reducible apply v_anC); array_get_dec; (intro hC; simp only [decide_eq_true_eq, Bool.and_eq_true] at hC; array_get_dec))
  | ((with_reducible apply e_orT); array_get_dec)
  | ((with_reducible apply v_orF); array_get_dec; array_get_dec)
  | ((with_reducible apply v_orB); array_get_dec; array_get_dec)
  | ((with_reducible apply v_orC); array_get_dec; (intro hC; simp only [decide_eq_false_iff_not, Bool.or_eq_false_iff] at hC; array_get_dec))
  | ((with_reducible apply v_ifeT); array_get_dec; rfl; rfl; array_get_dec)
  | ((with_reducible apply v_ifeF); array_get_dec; rfl; rfl; array_get_dec)
  | (focus ((with_reducible apply v_ifeTO); array_get_dec; rfl; rfl; array_get_dec; done)) | (focus ((with_reducible apply v_ifeFO); array_get_dec; rfl; rfl; array_get_dec; done))
  | ((with_reducible apply v_ifeI); array_get_dec; rfl; rfl; array_get_dec; array_get_dec)
  | ((with_reducible apply v_ifeB); array_get_dec; rfl; rfl; array_get_dec; array_get_dec)
  | ((with_reducible apply e_tup); array_get_dec; first | (refine Nat.le_of_ble_eq_true ?_; rfl) | array_mem_dec)
  | ((with_reducible apply e_lst); array_get_dec; first | (refine Nat.le_of_ble_eq_true ?_; rfl) | array_mem_dec)
  | ((with_reducible apply v_sl); array_get_dec; array_get_dec; array_get_dec; rfl; first | with_reducible assumption | sizeOf_list_dec | ((with_reducible apply sl_toU); array_mem_dec) | ((with_reducible apply sl_fromU); array_mem_dec) | ((with_reducible apply sl_toL); array_mem_dec) | ((with_reducible apply sl_fromL); array_mem_dec) | rfl)
  | ((with_reducible apply v_idx); array_get_dec; rfl; array_get_dec; rfl; rfl; decreasing_trivial_pre_omega; decreasing_trivial_pre_omega)
  | ((with_reducible apply v_cnt); array_get_dec; rfl; array_get_dec; rfl; rfl; decreasing_trivial_pre_omega)
  | ((with_reducible apply v_cntT); array_get_dec; array_get_dec; rfl; decreasing_trivial_pre_omega) | ((with_reducible apply v_idxT); array_get_dec; array_get_dec; array_mem_dec)
  | ((with_reducible apply v_rvT); array_get_dec; rfl) | ((with_reducible apply v_rvL); array_get_dec; rfl)
  | ((with_reducible apply v_lr1); array_get_dec; (first | (refine okR_by ?_; omega) | rfl); array_mem_dec)
  | ((with_reducible apply v_lr2); array_get_dec; array_get_dec; (first | (refine okR_by ?_; omega) | rfl); (first | (refine okR_by ?_; omega) | rfl); array_mem_dec)
  | ((with_reducible apply v_lr3); array_get_dec; array_get_dec; array_get_dec; (first | (refine okR_by ?_; omega) | rfl); (first | (refine okR_by ?_; omega) | rfl); (first | rfl | decide); array_mem_dec)
  | ((with_reducible apply v_gcd); array_get_dec; array_get_dec; rfl; rfl)
  | ((with_reducible apply v_lend); rfl; (first | with_reducible assumption | sizeOf_list_dec); rfl)
  | with_reducible exact p_no | ((with_reducible apply p_so); array_get_dec; rfl)
  | ((with_reducible apply v_call); array_get_dec; first | with_reducible assumption | sizeOf_list_dec)
  | ((with_reducible apply v_callE); array_get_dec; first | with_reducible assumption | sizeOf_list_dec)
  | ((with_reducible apply v_callO); array_get_dec; first | with_reducible assumption | sizeOf_list_dec)
  | ((with_reducible apply e_drawL); exact ⟨_, rfl⟩; array_get_dec; rfl; (first | with_reducible assumption | sizeOf_list_dec); rfl)
  | ((with_reducible apply e_appL); exact ⟨_, rfl⟩; array_get_dec; rfl; array_mem_dec; rfl)
  | ((with_reducible apply gv); array_get_dec) | ((with_reducible apply gvN); array_get_dec) | ((with_reducible apply v_gv); array_get_dec; rfl)
  | with_reducible exact es_nil | ((with_reducible apply es_cons); array_get_dec; array_get_dec)
  | with_reducible exact gc_nil | ((with_reducible apply gc_cons); array_get_dec; array_get_dec)
  | with_reducible exact os_nil | ((with_reducible apply os_val); array_get_dec; array_get_dec) | ((with_reducible apply os_new); array_get_dec; array_get_dec)
  | with_reducible exact ts_nil | ((with_reducible apply ts_one'); array_get_dec; rfl; rfl)
  | ((with_reducible apply i_seq); array_get_dec; rfl) | ((with_reducible apply i_enu); array_get_dec; rfl) | ((with_reducible apply i_rev); array_get_dec; rfl)
  | ((with_reducible apply i_r1n); array_get_dec; array_mem_dec) | ((with_reducible apply i_r1); array_get_dec; first | array_mem_dec | (refine okR_by ?_; omega))
  | ((with_reducible apply i_r2); array_get_dec; array_get_dec; (first | (refine okR_by ?_; omega) | rfl); (first | (refine okR_by ?_; omega) | rfl))
  | ((with_reducible apply v_lcI); array_get_dec; array_mem_dec; (intro ia hia; try simp only [List.mem_range] at hia); (with_reducible apply t_lc); rfl; array_get_dec; rfl)
  | ((with_reducible apply v_lc); array_get_dec; array_mem_dec; (intro ia hia; try simp only [List.mem_range] at hia); (with_reducible apply t_lc); rfl; array_get_dec; rfl)
  | ((with_reducible apply v_lcfI); array_get_dec; array_mem_dec; (intro ia hia; try simp only [List.mem_range] at hia); (with_reducible apply t_lcf); rfl; array_get_dec; rfl; (intro hp; try simp only [decide_eq_true_eq] at hp); (with_reducible apply t_lc2); array_get_dec; rfl)
  | ((with_reducible apply v_lcf); array_get_dec; array_mem_dec; (intro ia hia; try simp only [List.mem_range] at hia); (with_reducible apply t_lcf); rfl; array_get_dec; rfl; (intro hp; try simp only [decide_eq_true_eq] at hp); (with_reducible apply t_lc2); array_get_dec; rfl)
  | ((with_reducible apply v_all); array_get_dec; array_mem_dec; (intro ia hia; try simp only [List.mem_range] at hia); (with_reducible apply t_lc); rfl; array_get_dec; rfl)
  | ((with_reducible apply v_allD); array_get_dec; array_mem_dec; (intro ia hia); (with_reducible apply t_lc); rfl; array_get_dec; rfl)
  | ((with_reducible apply v_any); array_get_dec; array_mem_dec; (intro ia hia; try simp only [List.mem_range] at hia); (with_reducible apply t_lc); rfl; array_get_dec; rfl)
  | ((with_reducible apply v_gsum); array_get_dec; array_mem_dec; (intro ia hia; try simp only [List.mem_range] at hia); (with_reducible apply t_lc); rfl; array_get_dec; rfl)
  | ((with_reducible apply v_gtupI); array_get_dec; array_mem_dec; (intro ia hia; try simp only [List.mem_range] at hia); (with_reducible apply t_lc); rfl; array_get_dec; rfl)
  | ((with_reducible apply v_gtup); array_get_dec; array_mem_dec; (intro ia hia; try simp only [List.mem_range] at hia); (with_reducible apply t_lc); rfl; array_get_dec; rfl)
  | sizeOf_list_dec)
local macro_rules | `(tactic| fail) => `(tactic| first
  | with_reducible exact ss_nil | ((with_reducible apply ss_nil'); rfl)
  | ((with_reducible apply n_asg); array_get_dec; rfl; try dsimp only [List.set_cons_zero, List.set_cons_succ])
  | ((with_reducible apply n_asgO); array_get_dec; rfl; try dsimp only [List.set_cons_zero, List.set_cons_succ])
  | ((with_reducible apply n_parO); array_get_dec; rfl; try dsimp only [List.set_cons_zero, List.set_cons_succ])
  | ((with_reducible apply n_par); array_get_dec; rfl; try dsimp only [List.set_cons_zero, List.set_cons_succ])
  | ((with_reducible apply n_asgG); array_get_dec; rfl; try dsimp only [List.set_cons_zero, List.set_cons_succ])
  | ((with_reducible apply n_aug); rfl; array_get_dec; rfl; decreasing_trivial_pre_omega; rfl; try dsimp only [List.set_cons_zero, List.set_cons_succ])
  | ((with_reducible apply n_exp); array_get_dec; try dsimp only [List.set_cons_zero, List.set_cons_succ])
  | ((with_reducible apply n_expX); array_get_dec) | ((with_reducible apply n_asgX); array_get_dec)
  | ((with_reducible apply n_ret); array_get_dec)
  | ((with_reducible apply n_retX); array_get_dec)
  | (focus ((with_reducible apply n_triR); (repeat' fail); done))
  | (focus ((with_reducible apply n_triX); (focus ((repeat' fail); done)); rfl; rfl; (focus ((repeat' fail); done)); rfl; done))
  | ((with_reducible apply n_retO); array_get_dec)
  | with_reducible exact n_rais
  | ((with_reducible apply n_ifF0); array_get_dec; rfl; rfl; try dsimp only [List.set_cons_zero, List.set_cons_succ])
  | (focus ((with_reducible apply n_ifTr); array_get_dec; rfl; rfl; (repeat' fail); done))
  | (focus ((with_reducible apply n_ifTx); array_get_dec; rfl; rfl; (repeat' fail); done))
  | ((with_reducible apply n_ifT); array_get_dec; rfl; rfl; (focus ((repeat' fail); done)); try dsimp only [List.set_cons_zero, List.set_cons_succ])
  | ((with_reducible apply n_ifF); array_get_dec; rfl; rfl; (focus ((repeat' fail); done)); try dsimp only [List.set_cons_zero, List.set_cons_succ])
  | (focus ((with_reducible apply n_ifFr); array_get_dec; rfl; rfl; (repeat' fail); done)))
local macro_rules | `(tactic| sizeOf_list_dec) => `(tactic| ((with_reducible apply take_r); array_mem_dec))
local macro_rules | `(tactic| sizeOf_list_dec) => `(tactic| with_reducible exact says_r _ _)
theorem bdOf_nat {n d a : Nat} (h : a ≤ n) : bdOf n d (some ((a : Nat) : Int)) = a := by
  show (if ((a : Nat) : Int) < 0 then (((a : Nat) : Int) + n).toNat else min ((a : Nat) : Int).toNat n) = a
  rw [if_neg (by omega)]
  omega
theorem sl_cutU {xs : List Int} {a b : Nat} (h : a ≤ b) (h2 : b ≤ xs.length) : slD (.tuple (xs.map .int)) (some (a : Nat)) (some (b : Nat)) = some (.val (.tuple (((xs.drop a).take (b - a)).map .int))) := by
  show some (Opd.val (.tuple (cut _ _ _))) = _
  unfold cut
  rw [bdOf_nat (by rw [List.length_map]; omega), bdOf_nat (by rw [List.length_map]; omega), List.map_take, List.map_drop]
abbrev tD (t : Int × Int × Int) : PyData := .tuple [.int t.1, .int t.2.1, .int t.2.2]
section
variable (sc : PyData) (ys : List Int) {g : List Int} (k : Gst g)
include k
theorem law5 {ss : Ss} {P : Option SOut → Prop} (hs : ∀ s4 s16 s17 s21 s22 : Slot, P (exSs U gc (C 12) ss (fL sc (tkR ys) g [s4, .no, .no, .no, .no, .no, .no, .no, .no, .no, .no, .no, s16, s17, .no, .no, .no, s21, s22, .no, .no, .no, .no, .no, .no]))) :
    P (exSs U gc (C 12) (.cons s_law_5 ss) (fL sc ys g [.no, .no, .no, .no, .no, .no, .no, .no, .no, .no, .no, .no, .no, .no, .no, .no, .no, .no, .no, .no, .no, .no, .no, .no, .no])) := by
  have t1 := tkV_lt (b := 100) ys (by decide)
  obtain ⟨ρ', e, s4, s16, s17, s21, s22, rfl⟩ := for_inv (u := U) (gc := gc) (c := C 12) (g := .n 4) (bd := b_law_1) (ds := [.int 0, .int 1, .int 100, .int (tkV ys 100)])
    (ρ := fL sc (tkR ys) g [.no, .no, .no, .no, .no, .no, .no, .no, .no, .no, .no, .no, .no, .no, .no, .no, .no, .no, .no, .no, .no, .no, .no, .no, .no])
    (fun _ ρ => ∃ s4 s16 s17 s21 s22 : Slot, ρ = fL sc (tkR ys) g [s4, .no, .no, .no, .no, .no, .no, .no, .no, .no, .no, .no, s16, s17, .no, .no, .no, s21, s22, .no, .no, .no, .no, .no, .no]) ⟨_, _, _, _, _, rfl⟩ fun j d ρ hj ⟨s4, s16, s17, s21, s22, hr⟩ => by
      subst hr
      have hd : ∃ s : Int, d = .int s ∧ 0 ≤ s ∧ s ≤ 100 := by
        have hm := List.mem_of_getElem? hj
        simp only [List.mem_cons, List.mem_nil_iff, or_false] at hm
        rcases hm with rfl | rfl | rfl | rfl
        · exact ⟨_, rfl, by decide, by decide⟩
        · exact ⟨_, rfl, by decide, by decide⟩
        · exact ⟨_, rfl, by decide, by decide⟩
        · exact ⟨_, rfl, t1.1, by omega⟩
      obtain ⟨s, rfl, h0, h1⟩ := hd
      obtain ⟨t21, t22, e⟩ := body5 sc (tkR ys) k h0 h1 s16 s17 s21 s22
      exact ⟨_, _, rfl, e, _, _, _, _, _, rfl⟩
  refine Eq.mpr (congrArg P ?_) (hs s4 s16 s17 s21 s22)
  apply n_for (ds := [.int 0, .int 1, .int 100, .int (tkV ys 100)])
  · unfold fL
    array_get_dec
  · exact e
  rfl
section
variable {s4 s16 s17 s21 s22 : Slot}
theorem row_lc {a : Nat} (ha : a < g.length) (s5 s23 : Slot) : evE U gc (C 12) (.lc [23] (.n 23) (.r2 (.bin .Add (.v 6) (.k (.int 1))) (.bin .Add (.v 3) (.k (.int 1)))) .nil (.tup (.cons (.b1 .sum (.sl (.v 2) (.so (.v 6)) (.so (.v 23)))) (.cons (.v 23) (.cons (.bin .Sub (.k (.int 0)) (.v 6)) .nil)))))
      (fL sc ys g [s4, s5, .sh (.int (a : Nat)), .no, .no, .no, .no, .no, .no, .no, .no, .no, s16, s17, .no, .no, .no, s21, s22, .no, .no, .no, .no, .no, .no]) =
    some (.ok (.new ((rowS g a).map tD)) (fL sc ys g [s4, s5, .sh (.int (a : Nat)), .no, .no, .no, .no, .no, .no, .no, .no, .no, s16, s17, .no, .no, .no, s21, s22, .no, .no, .no, .no, .no, .no])) := by
  have hf := k.few
  have e0 : (((g.length : Nat) : Int) + 1 - (((a : Nat) : Int) + 1)).toNat = g.length - a := by omega
  have := v_lc (u := U) (gc := gc) (c := C 12) (own := [23]) (g := .n 23) (it := .r2 (.bin .Add (.v 6) (.k (.int 1))) (.bin .Add (.v 3) (.k (.int 1)))) (e := .tup (.cons (.b1 .sum (.sl (.v 2) (.so (.v 6)) (.so (.v 23)))) (.cons (.v 23) (.cons (.bin .Sub (.k (.int 0)) (.v 6)) .nil))))
    (ρ := fL sc ys g [s4, s5, .sh (.int (a : Nat)), .no, .no, .no, .no, .no, .no, .no, .no, .no, s16, s17, .no, .no, .no, s21, s22, .no, .no, .no, .no, .no, .no]) (ρ1 := fL sc ys g [s4, s5, .sh (.int (a : Nat)), .no, .no, .no, .no, .no, .no, .no, .no, .no, s16, s17, .no, .no, .no, s21, s22, .no, .no, .no, .no, .no, .no])
    (xs := List.range (((g.length : Nat) : Int) + 1 - (((a : Nat) : Int) + 1)).toNat) (enc := fun i => .int (((a : Nat) : Int) + 1 + (i : Nat))) (F := fun i => tD (pre g (a + 1 + i) - pre g a, ((a + 1 + i : Nat) : Int), -((a : Nat) : Int)))
    (by
      apply i_r2
      · unfold fL
        array_get_dec
      · unfold fL
        array_get_dec
      · exact okR_by (by omega)
      · exact okR_by (by omega)) (by rw [List.length_range, e0]; unfold line; omega) fun i hi => by
      have hi := List.mem_range.mp hi
      rw [e0] at hi
      have s1 : slD (.tuple (g.map .int)) (some (a : Nat)) (some ((a + 1 + i : Nat) : Int)) = some (.val (.tuple (((g.drop a).take (a + 1 + i - a)).map .int))) := sl_cutU (by omega) (by omega)
      have s2 : biD .sum [.tuple (((g.drop a).take (a + 1 + i - a)).map .int)] = some (.val (.int (pre g (a + 1 + i) - pre g a))) := by rw [f_sumT, pre_cut (by omega) (by omega)]
      have s3 : binD .Sub (.int 0) (.int (a : Nat)) = some (.val (.int (-((a : Nat) : Int)))) := by rw [b_sub, Int.zero_sub]
      show ∃ ρ2 ρ3, asgG _ (.int ((a + 1 + i : Nat) : Int)) _ = _ ∧ _
      apply t_lc
      · rfl
      · unfold fL
        array_get_dec
      · rfl
  rw [this, e0]
  unfold rowS
  rw [List.map_map]; rfl
theorem law7 {ss : Ss} {P : Option SOut → Prop} (hs : ∀ s6 : Slot, P (exSs U gc (C 12) ss (fL sc ys g [s4, .sh (.list ((sumS g g.length).map tD)), s6, .no, .no, .no, .no, .no, .no, .no, .no, .no, s16, s17, .no, .no, .no, s21, s22, .no, .no, .no, .no, .no, .no]))) :
    P (exSs U gc (C 12) (.cons s_law_6 (.cons s_law_7 ss)) (fL sc ys g [s4, .no, .no, .no, .no, .no, .no, .no, .no, .no, .no, .no, s16, s17, .no, .no, .no, s21, s22, .no, .no, .no, .no, .no, .no])) := by
  have hf := k.few
  obtain ⟨ρ', e, s6, rfl⟩ := for_rng (u := U) (gc := gc) (c := C 12) (g := .n 6) (bd := b_law_2) (n := g.length)
    (ρ := fL sc ys g [s4, .sh (.list []), .no, .no, .no, .no, .no, .no, .no, .no, .no, .no, s16, s17, .no, .no, .no, s21, s22, .no, .no, .no, .no, .no, .no])
    (fun j ρ => ∃ s6 : Slot, ρ = fL sc ys g [s4, .sh (.list ((sumS g j).map tD)), s6, .no, .no, .no, .no, .no, .no, .no, .no, .no, s16, s17, .no, .no, .no, s21, s22, .no, .no, .no, .no, .no, .no]) ⟨_, rfl⟩ fun j ρ hj ⟨s6, hr⟩ => by
      subst hr
      have hlc := row_lc sc ys k (s4 := s4) (s16 := s16) (s17 := s17) (s21 := s21) (s22 := s22) hj (.sh (.list ((sumS g j).map tD))) .no
      have hl1 := sumS_len (g := g) (m := j)
      have hl2 : j * g.length ≤ 40 * 40 := Nat.mul_le_mul (by omega) hf
      have hadd : binD .Add (.list ((sumS g j).map tD)) (.list ((rowS g j).map tD)) = some (.new ((sumS g j).map tD ++ (rowS g j).map tD)) := b_lcat (by simp [rowS]; unfold line; omega)
      refine ⟨fL sc ys g [s4, .sh (.list ((sumS g j).map tD)), .sh (.int (j : Nat)), .no, .no, .no, .no, .no, .no, .no, .no, .no, s16, s17, .no, .no, .no, s21, s22, .no, .no, .no, .no, .no, .no], fL sc ys g [s4, .sh (.list ((sumS g (j + 1)).map tD)), .sh (.int (j : Nat)), .no, .no, .no, .no, .no, .no, .no, .no, .no, s16, s17, .no, .no, .no, s21, s22, .no, .no, .no, .no, .no, .no], rfl, ?_, .sh (.int (j : Nat)), rfl⟩
      rw [sumS, List.map_append]
      unfold fL at hlc ⊢
      fail
      fail
  refine Eq.mpr (congrArg P ?_) (hs s6)
  unfold fL at e ⊢
  fail
  apply n_for (ds := (List.range g.length).map natD)
  · array_get_dec
  · exact e
  rfl
end
end
end K04

end
section
set_option Elab.async false
set_option linter.all false
set_option maxRecDepth 100000
set_option maxHeartbeats 1000000
set_option autoImplicit false
namespace K04
open PySem RX M04
local macro_rules | `(tactic| array_mem_dec) => `(tactic| first
  | with_reducible assumption | omega | sizeOf_list_dec | (simp only [List.length_map, List.length_range, List.length_append, List.length_cons, List.length_nil, List.length_replicate, List.length_reverse, List.length_drop, List.length_take, line, Nat.reduceLeDiff, Nat.reduceAdd] at *; omega) | decide | rfl | (simp; done) | (unfold line; simp; omega))
local macro_rules | `(tactic| decreasing_trivial_pre_omega) => `(tactic| first
  | with_reducible assumption | sizeOf_list_dec | with_reducible exact b_add | with_reducible exact b_sub
  | ((with_reducible apply b_mulL); array_mem_dec) | ((with_reducible apply b_mulR); array_mem_dec) | ((with_reducible apply b_mulB); array_mem_dec; array_mem_dec)
  | ((with_reducible apply b_fd); array_mem_dec; array_mem_dec) | ((with_reducible apply b_mod); array_mem_dec)
  | ((with_reducible apply b_trep1); array_mem_dec) | ((with_reducible apply b_tcatI); array_mem_dec) | ((with_reducible apply b_tcatM); array_mem_dec) | ((with_reducible apply b_lcatM); array_mem_dec)
  | ((with_reducible apply b_lcat); array_mem_dec) | ((with_reducible apply b_tcat); array_mem_dec) | ((with_reducible apply b_trep); array_mem_dec) | ((with_reducible apply b_lrep); array_mem_dec)
  | ((with_reducible apply c_ltT); omega) | ((with_reducible apply c_ltF); omega) | with_reducible exact c_ltB
  | ((with_reducible apply c_leT); omega) | ((with_reducible apply c_leF); omega) | with_reducible exact c_leB
  | ((with_reducible apply c_gtT); omega) | ((with_reducible apply c_gtF); omega) | with_reducible exact c_gtB
  | ((with_reducible apply c_geT); omega) | ((with_reducible apply c_geF); omega) | with_reducible exact c_geB
  | ((with_reducible apply c_eqT); omega) | ((with_reducible apply c_eqF); omega) | with_reducible exact c_eqB
  | ((with_reducible apply c_neT); omega) | ((with_reducible apply c_neF); omega) | with_reducible exact c_neB
  | with_reducible exact f_lenLm | with_reducible exact f_lenTm | with_reducible exact f_lenL | with_reducible exact f_lenT | with_reducible exact f_sumL | with_reducible exact f_sumT
  | (refine f_minL ?_; array_mem_dec) | (refine f_maxL ?_; array_mem_dec) | (refine f_minT ?_; array_mem_dec) | (refine f_maxT ?_; array_mem_dec)
  | (with_reducible exact f_abs) | (with_reducible exact flat_iI) | with_reducible exact f_min2 | with_reducible exact f_max2 | with_reducible exact f_sorted | with_reducible exact f_sortedT | with_reducible exact f_sortedP | with_reducible exact f_int | with_reducible exact f_intB | with_reducible exact f_list | with_reducible exact f_listL | with_reducible exact f_tuple | with_reducible exact f_tupleT
  | (refine x_listI ?_; array_mem_dec) | (refine x_tupI ?_; array_mem_dec)
  | rfl)
local macro_rules | `(tactic| array_get_dec) => `(tactic| first
  | with_reducible assumption
  | with_reducible exact e_k
  | ((with_reducible apply v_var); first | rfl | with_reducible assumption) | ((with_reducible apply e_vo); first | rfl | with_reducible assumption) | ((with_reducible apply v_gi); rfl)
  | ((with_reducible apply v_bin); array_get_dec; array_get_dec; rfl; rfl; decreasing_trivial_pre_omega)
  | ((with_reducible apply v_cmp); array_get_dec; array_get_dec; rfl; rfl; decreasing_trivial_pre_omega)
  | ((with_reducible apply v_ix); array_get_dec; array_get_dec; rfl; rfl; decreasing_trivial_pre_omega)
  | ((with_reducible apply v_b1); array_get_dec; rfl; decreasing_trivial_pre_omega)
  | ((with_reducible apply v_b2); array_get_dec; array_get_dec; rfl; rfl; decreasing_trivial_pre_omega)
  | ((with_reducible apply v_isi); array_get_dec; rfl; first | rfl | sizeOf_list_dec)
  | ((with_reducible apply v_isx); rfl; first | rfl | decide)
  | ((with_reducible apply v_neg); array_get_dec; rfl)
  | ((with_reducible apply v_notT); array_get_dec; rfl; rfl) | ((with_reducible apply v_notF); array_get_dec; rfl; rfl) | ((with_reducible apply v_not); array_get_dec; rfl; rfl)
  | ((with_reducible apply v_chF); array_get_dec; array_get_dec; rfl; rfl; decreasing_trivial_pre_omega)
  | ((with_reducible apply v_chT); array_get_dec; array_get_dec; rfl; rfl; decreasing_trivial_pre_omega; array_get_dec; rfl; rfl; decreasing_trivial_pre_omega)
  | ((with_reducible apply v_chB); array_get_dec; array_get_dec; rfl; decreasing_trivial_pre_omega; array_get_dec; rfl; decreasing_trivial_pre_omega)
  | ((with_reducible apply e_anF); array_get_dec)
  | ((with_reducible apply v_anT); array_get_dec; array_get_dec)
  | ((with_reducible apply v_anB); array_get_dec; array_get_dec)
  | ((with_reducible apply v_anC); array_get_dec; (intro hC; simp only [decide_eq_true_eq, Bool.and_eq_true] at hC; array_get_dec))
  | ((with_reducible apply e_orT); array_get_dec)
  | ((with_reducible apply v_orF); array_get_dec; array_get_dec)
  | ((with_reducible apply v_orB); array_get_dec; array_get_dec)
  | ((with_reducible apply v_orC); array_get_dec; (intro hC; simp only [decide_eq_false_iff_not, Bool.or_eq_false_iff] at hC; array_get_dec))
  | ((with_reducible apply v_ifeT); array_get_dec; rfl; rfl; array_get_dec)
  | ((with_reducible apply v_ifeF); array_get_dec; rfl; rfl; array_get_dec)
  | (focus ((with_reducible apply v_ifeTO); array_get_dec; rfl; rfl; array_get_dec; done)) | (focus ((with_reducible apply v_ifeFO); array_get_dec; rfl; rfl; array_get_dec; done))
  | ((with_reducible apply v_ifeI); array_get_dec; rfl; rfl; array_get_dec; array_get_dec)
  | ((with_reducible apply v_ifeB); array_get_dec; rfl; rfl; array_get_dec; array_get_dec)
  | ((with_reducible apply e_tup); array_get_dec; first | (refine Nat.le_of_ble_eq_true ?_; rfl) | array_mem_dec)
  | ((with_reducible apply e_lst); array_get_dec; first | (refine Nat.le_of_ble_eq_true ?_; rfl) | array_mem_dec)
  | ((with_reducible apply v_sl); array_get_dec; array_get_dec; array_get_dec; rfl; first | with_reducible assumption | sizeOf_list_dec | ((with_reducible apply sl_toU); array_mem_dec) | ((with_reducible apply sl_fromU); array_mem_dec) | ((with_reducible apply sl_toL); array_mem_dec) | ((with_reducible apply sl_fromL); array_mem_dec) | rfl)
  | ((with_reducible apply v_idx); array_get_dec; rfl; array_get_dec; rfl; rfl; decreasing_trivial_pre_omega; decreasing_trivial_pre_omega)
  | ((with_reducible apply v_cnt); array_get_dec; rfl; array_get_dec; rfl; rfl; decreasing_trivial_pre_omega)
  | ((with_reducible apply v_cntT); array_get_dec; array_get_dec; rfl; decreasing_trivial_pre_omega) | ((with_reducible apply v_idxT); array_get_dec; array_get_dec; array_mem_dec)
  | ((with_reducible apply v_rvT); array_get_dec; rfl) | ((with_reducible apply v_rvL); array_get_dec; rfl)
  | ((with_reducible apply v_lr1); array_get_dec; (first | (refine okR_by ?_; omega) | rfl); array_mem_dec)
  | ((with_reducible apply v_lr2); array_get_dec; array_get_dec; (first | (refine okR_by ?_; omega) | rfl); (first | (refine okR_by ?_; omega) | rfl); array_mem_dec)
  | ((with_reducible apply v_lr3); array_get_dec; array_get_dec; array_get_dec; (first | (refine okR_by ?_; omega) | rfl); (first | (refine okR_by ?_; omega) | rfl); (first | rfl | decide); array_mem_dec)
  | ((with_reducible apply v_gcd); array_get_dec; array_get_dec; rfl; rfl)
  | ((with_reducible apply v_lend); rfl; (first | with_reducible assumption | sizeOf_list_dec); rfl)
  | with_reducible exact p_no | ((with_reducible apply p_so); array_get_dec; rfl)
  | ((with_reducible apply v_call); array_get_dec; first | with_reducible assumption | sizeOf_list_dec)
  | ((with_reducible apply v_callE); array_get_dec; first | with_reducible assumption | sizeOf_list_dec)
  | ((with_reducible apply v_callO); array_get_dec; first | with_reducible assumption | sizeOf_list_dec)
  | ((with_reducible apply e_drawL); exact ⟨_, rfl⟩; array_get_dec; rfl; (first | with_reducible assumption | sizeOf_list_dec); rfl)
  | ((with_reducible apply e_appL); exact ⟨_, rfl⟩; array_get_dec; rfl; array_mem_dec; rfl)
  | ((with_reducible apply gv); array_get_dec) | ((with_reducible apply gvN); array_get_dec) | ((with_reducible apply v_gv); array_get_dec; rfl)
  | with_reducible exact es_nil | ((with_reducible apply es_cons); array_get_dec; array_get_dec)
  | with_reducible exact gc_nil | ((with_reducible apply gc_cons); array_get_dec; array_get_dec)
  | with_reducible exact os_nil | ((with_reducible apply os_val); array_get_dec; array_get_dec) | ((with_reducible apply os_new); array_get_dec; array_get_dec)
  | with_reducible exact ts_nil | ((with_reducible apply ts_one'); array_get_dec; rfl; rfl)
  | ((with_reducible apply i_seq); array_get_dec; rfl) | ((with_reducible apply i_enu); array_get_dec; rfl) | ((with_reducible apply i_rev); array_get_dec; rfl)
  | ((with_reducible apply i_r1n); array_get_dec; array_mem_dec) | ((with_reducible apply i_r1); array_get_dec; first | array_mem_dec | (refine okR_by ?_; omega))
  | ((with_reducible apply i_r2); array_get_dec; array_get_dec; (first | (refine okR_by ?_; omega) | rfl); (first | (refine okR_by ?_; omega) | rfl))
  | ((with_reducible apply v_lcI); array_get_dec; array_mem_dec; (intro ia hia; try simp only [List.mem_range] at hia); (with_reducible apply t_lc); rfl; array_get_dec; rfl)
  | ((with_reducible apply v_lc); array_get_dec; array_mem_dec; (intro ia hia; try simp only [List.mem_range] at hia); (with_reducible apply t_lc); rfl; array_get_dec; rfl)
  | ((with_reducible apply v_lcfI); array_get_dec; array_mem_dec; (intro ia hia; try simp only [List.mem_range] at hia); (with_reducible apply t_lcf); rfl; array_get_dec; rfl; (intro hp; try simp only [decide_eq_true_eq] at hp); (with_reducible apply t_lc2); array_get_dec; rfl)
  | ((with_reducible apply v_lcf); array_get_dec; array_mem_dec; (intro ia hia; try simp only [List.mem_range] at hia); (with_reducible apply t_lcf); rfl; array_get_dec; rfl; (intro hp; try simp only [decide_eq_true_eq] at hp); (with_reducible apply t_lc2); array_get_dec; rfl)
  | ((with_reducible apply v_all); array_get_dec; array_mem_dec; (intro ia hia; try simp only [List.mem_range] at hia); (with_reducible apply t_lc); rfl; array_get_dec; rfl)
  | ((with_reducible apply v_allD); array_get_dec; array_mem_dec; (intro ia hia); (with_reducible apply t_lc); rfl; array_get_dec; rfl)
  | ((with_reducible apply v_any); array_get_dec; array_mem_dec; (intro ia hia; try simp only [List.mem_range] at hia); (with_reducible apply t_lc); rfl; array_get_dec; rfl)
  | ((with_reducible apply v_gsum); array_get_dec; array_mem_dec; (intro ia hia; try simp only [List.mem_range] at hia); (with_reducible apply t_lc); rfl; array_get_dec; rfl)
  | ((with_reducible apply v_gtupI); array_get_dec; array_mem_dec; (intro ia hia; try simp only [List.mem_range] at hia); (with_reducible apply t_lc); rfl; array_get_dec; rfl)
  | ((with_reducible apply v_gtup); array_get_dec; array_mem_dec; (intro ia hia; try simp only [List.mem_range] at hia); (with_reducible apply t_lc); rfl; array_get_dec; rfl)
  | sizeOf_list_dec)
local macro_rules | `(tactic| fail) => `(tactic| first
  | with_reducible exact ss_nil | ((with_reducible apply ss_nil'); rfl)
  | ((with_reducible apply n_asg); array_get_dec; rfl; try dsimp only [List.set_cons_zero, List.set_cons_succ])
  | ((with_reducible apply n_asgO); array_get_dec; rfl; try dsimp only [List.set_cons_zero, List.set_cons_succ])
  | ((with_reducible apply n_parO); array_get_dec; rfl; try dsimp only [List.set_cons_zero, List.set_cons_succ])
  | ((with_reducible apply n_par); array_get_dec; rfl; try dsimp only [List.set_cons_zero, List.set_cons_succ])
  | ((with_reducible apply n_asgG); array_get_dec; rfl; try dsimp only [List.set_cons_zero, List.set_cons_succ])
  | ((with_reducible apply n_aug); rfl; array_get_dec; rfl; decreasing_trivial_pre_omega; rfl; try dsimp only [List.set_cons_zero, List.set_cons_succ])
  | ((with_reducible apply n_exp); array_get_dec; try dsimp only [List.set_cons_zero, List.set_cons_succ])
  | ((with_reducible apply n_expX); array_get_dec) | ((with_reducible apply n_asgX); array_get_dec)
  | ((with_reducible apply n_ret); array_get_dec)
  | ((with_reducible apply n_retX); array_get_dec)
  | (focus ((with_reducible apply n_triR); (repeat' fail); done))
  | (focus ((with_reducible apply n_triX); (focus ((repeat' fail); done)); rfl; rfl; (focus ((repeat' fail); done)); rfl; done))
  | ((with_reducible apply n_retO); array_get_dec)
  | with_reducible exact n_rais
  | ((with_reducible apply n_ifF0); array_get_dec; rfl; rfl; try dsimp only [List.set_cons_zero, List.set_cons_succ])
  | (focus ((with_reducible apply n_ifTr); array_get_dec; rfl; rfl; (repeat' fail); done))
  | (focus ((with_reducible apply n_ifTx); array_get_dec; rfl; rfl; (repeat' fail); done))
  | ((with_reducible apply n_ifT); array_get_dec; rfl; rfl; (focus ((repeat' fail); done)); try dsimp only [List.set_cons_zero, List.set_cons_succ])
  | ((with_reducible apply n_ifF); array_get_dec; rfl; rfl; (focus ((repeat' fail); done)); try dsimp only [List.set_cons_zero, List.set_cons_succ])
  | (focus ((with_reducible apply n_ifFr); array_get_dec; rfl; rfl; (repeat' fail); done)))
local macro_rules | `(tactic| sizeOf_list_dec) => `(tactic| ((with_reducible apply take_r); array_mem_dec))
local macro_rules | `(tactic| sizeOf_list_dec) => `(tactic| with_reducible exact says_r _ _)
section
variable (sc : PyData) (ys : List Int) {g : List Int} (k : Gst g) {s4 s6 s16 s17 s21 s22 : Slot}
include k
/-- the spell as the law tells it -/
def spl (g : List Int) (x : PyData) : Prop := C 12 5 [.av (.tuple (g.map .int))] = some (.ok x []) ∧ C 12 11 [.av x, .av x] = some (.ok (.bool true) [])
theorem law11 {ss : Ss} {P : Option SOut → Prop} (hs : ∀ s7 s8 s18 : Slot, P (exSs U gc (C 12) ss (fL sc ys g [s4, .sh (.list ((sumS g g.length).map tD)), s6, s7, s8, .no, .no, .no, .no, .no, .no, .no, s16, s17, s18, .no, .no, s21, s22, .no, .no, .no, .no, .no, .no]))) :
    P (exSs U gc (C 12) (.cons s_law_8 (.cons s_law_9 (.cons s_law_10 (.cons s_law_11 ss)))) (fL sc ys g [s4, .sh (.list ((sumS g g.length).map tD)), s6, .no, .no, .no, .no, .no, .no, .no, .no, .no, s16, s17, .no, .no, .no, s21, s22, .no, .no, .no, .no, .no, .no])) := by
  have hf := k.few
  have hg : g.length ≤ 1000 := by omega
  have hl1 := sumS_len (g := g) (m := g.length)
  have hl2 : g.length * g.length ≤ 40 * 40 := Nat.mul_le_mul hf hf
  have hl3 : (sumS g g.length).length ≤ line := by unfold line; omega
  have hadd : binD .Add (.list [.int 0]) (.list (((sumS g g.length).map fun (t : Int × Int × Int) => t.1).map .int)) = some (.new (([0] ++ (sumS g g.length).map fun (t : Int × Int × Int) => t.1).map .int)) := b_lcatM (xs := [0]) (by simp; unfold line; omega)
  have hmx : biD .max [.list (([0] ++ (sumS g g.length).map fun (t : Int × Int × Int) => t.1).map .int)] = some (.val (.int (topI g))) := by
    rw [f_maxL (by simp), ← top_ok]
  have ht : C 12 4 [.av (.tuple (g.map .int)), .av (.int 0)] = some (.ok (.int (topI g)) []) := top_ok' 8 hg (by decide) (by decide)
  have hc : cmpD .NotEq (.int (topI g)) (.int (topI g)) = some false := c_neF rfl
  by_cases h0 : 0 < topI g
  · obtain ⟨f, t, S, hi, hm⟩ := spell_ok h0
    obtain ⟨r, hb⟩ := best_ok S
    have hsp := spell_r 7 hg h0 S hi hm
    have hal := alike_r (m := 12) 2 (.tuple [.int (f : Nat), .int (t : Nat)]) rfl (by decide)
    have c1 : cmpD .Gt (.int (topI g)) (.int 0) = some true := c_gtT h0
    have hlc : evE U gc (C 12) (.lc [28, 23, 6] (.t (.cons (.n 28) (.cons (.n 23) (.cons (.n 6) .nil)))) (.seq (.v 5)) (.cons (.cmp .Eq (.v 28) (.v 7)) .nil) (.tup (.cons (.v 23) (.cons (.v 6) .nil))))
        (fL sc ys g [s4, .sh (.list ((sumS g g.length).map tD)), s6, .sh (.int (topI g)), .sh .none, .no, .no, .no, .no, .no, .no, .no, s16, s17, .no, .no, .no, s21, s22, .no, .no, .no, .no, .no, .no]) =
        some (.ok (.new ((((sumS g g.length).filter fun q => decide (q.1 = topI g)).map fun q => (q.2.1, q.2.2)).map pD)) (fL sc ys g [s4, .sh (.list ((sumS g g.length).map tD)), s6, .sh (.int (topI g)), .sh .none, .no, .no, .no, .no, .no, .no, .no, s16, s17, .no, .no, .no, s21, s22, .no, .no, .no, .no, .no, .no])) := by
      rw [List.map_map]
      refine v_lcf (xs := sumS g g.length) (enc := tD) (i_seq (gv (v_var rfl)) rfl) hl3 fun q hq => ?_
      unfold fL
      apply t_lcf
      · rfl
      · apply ts_one'
        · array_get_dec
        · rfl
        · rfl
      · rfl
      · intro _
        apply t_lc2
        · array_get_dec
        · rfl
    have hx : ixD (.list ((sortP (((sumS g g.length).filter fun q => decide (q.1 = topI g)).map fun q => (q.2.1, q.2.2))).map pD)) (.int 0) = some (.tuple [.int (t : Nat), .int (-((f : Nat) : Int))]) := by rw [hb]; exact x_list (i := 0) rfl
    have hsub : binD .Sub (.int 0) (.int (-((f : Nat) : Int))) = some (.val (.int (f : Nat))) := by rw [b_sub, show (0 : Int) - -((f : Nat) : Int) = (f : Nat) by omega]
    refine Eq.mpr (congrArg P ?_) (hs (.sh (.int (topI g))) (.sh (.tuple [.int (f : Nat), .int (t : Nat)])) (.sh (.tuple [.int (t : Nat), .int (-((f : Nat) : Int))])))
    unfold fL at hlc ⊢
    fail
    fail
    with_reducible apply n_ifT
    · array_get_dec
    · rfl
    · rfl
    · fail
      fail
      fail
    fail
  · have h00 : topI g = 0 := by have := top_0 (g := g); omega
    have hsp := spell_none 7 hg h00
    have hal := alike_r (m := 12) 2 .none rfl (by decide)
    have c1 : cmpD .Gt (.int (topI g)) (.int 0) = some false := c_gtF h0
    refine Eq.mpr (congrArg P ?_) (hs (.sh (.int (topI g))) (.sh .none) .no)
    unfold fL
    fail
    fail
    fail
    fail
variable {a4 a5 a6 a7 a8 a9 a10 a11 a12 a13 a14 a15 a16 a17 a18 a19 a20 a21 a22 a23 a24 a25 a26 a27 a28 : Slot}
theorem law13 {ss : Ss} {so : Option SOut} (hs : exSs U gc (C 12) ss (fL sc ys g [a4, a5, a6, a7, a8, .sh (.int (1 - low g g.length)), a10, a11, a12, a13, a14, a15, a16, a17, a18, a19, a20, a21, a22, a23, a24, a25, a26, a27, a28]) = so) :
    exSs U gc (C 12) (.cons s_law_12 (.cons s_law_13 ss)) (fL sc ys g [a4, a5, a6, a7, a8, a9, a10, a11, a12, a13, a14, a15, a16, a17, a18, a19, a20, a21, a22, a23, a24, a25, a26, a27, a28]) = so := by
  have hf := k.few
  have hg : g.length ≤ 1000 := by omega
  have e0 : (((g.length : Nat) : Int) + 1 - 1).toNat = g.length := by omega
  have hlen : (List.range (((g.length : Nat) : Int) + 1 - 1).toNat).length ≤ line := by rw [List.length_range, e0]; unfold line; omega
  have hadd : binD .Add (.list [.int 1]) (.list (((List.range (((g.length : Nat) : Int) + 1 - 1).toNat).map fun (i : Nat) => 1 - (g.take ((1 : Int) + (i : Nat)).toNat).sum).map .int)) = some (.new (([1] ++ (List.range (((g.length : Nat) : Int) + 1 - 1).toNat).map fun (i : Nat) => 1 - (g.take ((1 : Int) + (i : Nat)).toNat).sum).map .int)) := b_lcatM (xs := [1]) (by simp; unfold line; omega)
  have hmx : biD .max [.list (([1] ++ (List.range (((g.length : Nat) : Int) + 1 - 1).toNat).map fun (i : Nat) => 1 - (g.take ((1 : Int) + (i : Nat)).toNat).sum).map .int)] = some (.val (.int (1 - low g g.length))) := by
    rw [f_maxL (by simp), e0, ← need_ok]
    congr 6
  have hl := least_ok 11 hg
  by_cases h : 1 - low g g.length ≤ 100
  · have c1 : cmpD .LtE (.int (1 - low g g.length)) (.int 100) = some true := c_leT h
    rw [decide_eq_true h] at hl
    simp only [if_true] at hl
    have hal := alike_r (m := 12) 2 (.int (1 - low g g.length)) rfl (by decide)
    unfold fL at hs ⊢
    fail
    fail
    exact hs
  · have c1 : cmpD .LtE (.int (1 - low g g.length)) (.int 100) = some false := c_leF h
    rw [decide_eq_false h] at hl
    simp only [Bool.false_eq_true, if_false] at hl
    have hal := alike_r (m := 12) 2 .none rfl (by decide)
    unfold fL at hs ⊢
    fail
    fail
    exact hs
end
end K04

end
section
set_option Elab.async false
set_option linter.all false
set_option maxRecDepth 100000
set_option maxHeartbeats 1000000
set_option autoImplicit false
namespace K04
open PySem RX M04
local macro_rules | `(tactic| array_mem_dec) => `(tactic| first
  | with_reducible assumption | omega | sizeOf_list_dec | (simp only [List.length_map, List.length_range, List.length_append, List.length_cons, List.length_nil, List.length_replicate, List.length_reverse, List.length_drop, List.length_take, line, Nat.reduceLeDiff, Nat.reduceAdd] at *; omega) | decide | rfl | (simp; done) | (unfold line; simp; omega))
local macro_rules | `(tactic| decreasing_trivial_pre_omega) => `(tactic| first
  | with_reducible assumption | sizeOf_list_dec | with_reducible exact b_add | with_reducible exact b_sub
  | ((with_reducible apply b_mulL); array_mem_dec) | ((with_reducible apply b_mulR); array_mem_dec) | ((with_reducible apply b_mulB); array_mem_dec; array_mem_dec)
  | ((with_reducible apply b_fd); array_mem_dec; array_mem_dec) | ((with_reducible apply b_mod); array_mem_dec)
  | ((with_reducible apply b_trep1); array_mem_dec) | ((with_reducible apply b_tcatI); array_mem_dec) | ((with_reducible apply b_tcatM); array_mem_dec) | ((with_reducible apply b_lcatM); array_mem_dec)
  | ((with_reducible apply b_lcat); array_mem_dec) | ((with_reducible apply b_tcat); array_mem_dec) | ((with_reducible apply b_trep); array_mem_dec) | ((with_reducible apply b_lrep); array_mem_dec)
  | ((with_reducible apply c_ltT); omega) | ((with_reducible apply c_ltF); omega) | with_reducible exact c_ltB
  | ((with_reducible apply c_leT); omega) | ((with_reducible apply c_leF); omega) | with_reducible exact c_leB
  | ((with_reducible apply c_gtT); omega) | ((with_reducible apply c_gtF); omega) | with_reducible exact c_gtB
  | ((with_reducible apply c_geT); omega) | ((with_reducible apply c_geF); omega) | with_reducible exact c_geB
  | ((with_reducible apply c_eqT); omega) | ((with_reducible apply c_eqF); omega) | with_reducible exact c_eqB
  | ((with_reducible apply c_neT); omega) | ((with_reducible apply c_neF); omega) | with_reducible exact c_neB
  | with_reducible exact f_lenLm | with_reducible exact f_lenTm | with_reducible exact f_lenL | with_reducible exact f_lenT | with_reducible exact f_sumL | with_reducible exact f_sumT
  | (refine f_minL ?_; array_mem_dec) | (refine f_maxL ?_; array_mem_dec) | (refine f_minT ?_; array_mem_dec) | (refine f_maxT ?_; array_mem_dec)
  | (with_reducible exact f_abs) | (with_reducible exact flat_iI) | with_reducible exact f_min2 | with_reducible exact f_max2 | with_reducible exact f_sorted | with_reducible exact f_sortedT | with_reducible exact f_sortedP | with_reducible exact f_int | with_reducible exact f_intB | with_reducible exact f_list | with_reducible exact f_listL | with_reducible exact f_tuple | with_reducible exact f_tupleT
  | (refine x_listI ?_; array_mem_dec) | (refine x_tupI ?_; array_mem_dec)
  | rfl)
local macro_rules | `(tactic| array_get_dec) => `(tactic| first
  | with_reducible assumption
  | with_reducible exact e_k
  | ((with_reducible apply v_var); first | rfl | with_reducible assumption) | ((with_reducible apply e_vo); first | rfl | with_reducible assumption) | ((with_reducible apply v_gi); rfl)
  | ((with_reducible apply v_bin); array_get_dec; array_get_dec; rfl; rfl; decreasing_trivial_pre_omega)
  | ((with_reducible apply v_cmp); array_get_dec; array_get_dec; rfl; rfl; decreasing_trivial_pre_omega)
  | ((with_reducible apply v_ix); array_get_dec; array_get_dec; rfl; rfl; decreasing_trivial_pre_omega)
  | ((with_reducible apply v_b1); array_get_dec; rfl; decreasing_trivial_pre_omega)
  | ((with_reducible apply v_b2); array_get_dec; array_get_dec; rfl; rfl; decreasing_trivial_pre_omega)
  | ((with_reducible apply v_isi); array_get_dec; rfl; first | rfl | sizeOf_list_dec)
  | ((with_reducible apply v_isx); rfl; first | rfl | decide)
  | ((with_reducible apply v_neg); array_get_dec; rfl)
  | ((with_reducible apply v_notT); array_get_dec; rfl; rfl) | ((with_reducible apply v_notF); array_get_dec; rfl; rfl) | ((with_reducible apply v_not); array_get_dec; rfl; rfl)
  | ((with_reducible apply v_chF); array_get_dec; array_get_dec; rfl; rfl; decreasing_trivial_pre_omega)
  | ((with_reducible apply v_chT); array_get_dec; array_get_dec; rfl; rfl; decreasing_trivial_pre_omega; array_get_dec; rfl; rfl; decreasing_trivial_pre_omega)
  | ((with_reducible apply v_chB); array_get_dec; array_get_dec; rfl; decreasing_trivial_pre_omega; array_get_dec; rfl; decreasing_trivial_pre_omega)
  | ((with_reducible apply e_anF); array_get_dec)
  | ((with_reducible apply v_anT); array_get_dec; array_get_dec)
  | ((with_reducible apply v_anB); array_get_dec; array_get_dec)
  | ((with_reducible apply v_anC); array_get_dec; (intro hC; simp only [decide_eq_true_eq, Bool.and_eq_true] at hC; array_get_dec))
  | ((with_reducible apply e_orT); array_get_dec)
  | ((with_reducible apply v_orF); array_get_dec; array_get_dec)
  | ((with_reducible apply v_orB); array_get_dec; array_get_dec)
  | ((with_reducible apply v_orC); array_get_dec; (intro hC; simp only [decide_eq_false_iff_not, Bool.or_eq_false_iff] at hC; array_get_dec))
  | ((with_reducible apply v_ifeT); array_get_dec; rfl; rfl; array_get_dec)
  | ((with_reducible apply v_ifeF); array_get_dec; rfl; rfl; array_get_dec)
  | (focus ((with_reducible apply v_ifeTO); array_get_dec; rfl; rfl; array_get_dec; done)) | (focus ((with_reducible apply v_ifeFO); array_get_dec; rfl; rfl; array_get_dec; done))
  | ((with_reducible apply v_ifeI); array_get_dec; rfl; rfl; array_get_dec; array_get_dec)
  | ((with_reducible apply v_ifeB); array_get_dec; rfl; rfl; array_get_dec; array_get_dec)
  | ((with_reducible apply e_tup); array_get_dec; first | (refine Nat.le_of_ble_eq_true ?_; rfl) | array_mem_dec)
  | ((with_reducible apply e_lst); array_get_dec; first | (refine Nat.le_of_ble_eq_true ?_; rfl) | array_mem_dec)
  | ((with_reducible apply v_sl); array_get_dec; array_get_dec; array_get_dec; rfl; first | with_reducible assumption | sizeOf_list_dec | ((with_reducible apply sl_toU); array_mem_dec) | ((with_reducible apply sl_fromU); array_mem_dec) | ((with_reducible apply sl_toL); array_mem_dec) | ((with_reducible apply sl_fromL); array_mem_dec) | rfl)
  | ((with_reducible apply v_idx); array_get_dec; rfl; array_get_dec; rfl; rfl; decreasing_trivial_pre_omega; decreasing_trivial_pre_omega)
  | ((with_reducible apply v_cnt); array_get_dec; rfl; array_get_dec; rfl; rfl; decreasing_trivial_pre_omega)
  | ((with_reducible apply v_cntT); array_get_dec; array_get_dec; rfl; decreasing_trivial_pre_omega) | ((with_reducible apply v_idxT); array_get_dec; array_get_dec; array_mem_dec)
  | ((with_reducible apply v_rvT); array_get_dec; rfl) | ((with_reducible apply v_rvL); array_get_dec; rfl)
  | ((with_reducible apply v_lr1); array_get_dec; (first | (refine okR_by ?_; omega) | rfl); array_mem_dec)
  | ((with_reducible apply v_lr2); array_get_dec; array_get_dec; (first | (refine okR_by ?_; omega) | rfl); (first | (refine okR_by ?_; omega) | rfl); array_mem_dec)
  | ((with_reducible apply v_lr3); array_get_dec; array_get_dec; array_get_dec; (first | (refine okR_by ?_; omega) | rfl); (first | (refine okR_by ?_; omega) | rfl); (first | rfl | decide); array_mem_dec)
  | ((with_reducible apply v_gcd); array_get_dec; array_get_dec; rfl; rfl)
  | ((with_reducible apply v_lend); rfl; (first | with_reducible assumption | sizeOf_list_dec); rfl)
  | with_reducible exact p_no | ((with_reducible apply p_so); array_get_dec; rfl)
  | ((with_reducible apply v_call); array_get_dec; first | with_reducible assumption | sizeOf_list_dec)
  | ((with_reducible apply v_callE); array_get_dec; first | with_reducible assumption | sizeOf_list_dec)
  | ((with_reducible apply v_callO); array_get_dec; first | with_reducible assumption | sizeOf_list_dec)
  | ((with_reducible apply e_drawL); exact ⟨_, rfl⟩; array_get_dec; rfl; (first | with_reducible assumption | sizeOf_list_dec); rfl)
  | ((with_reducible apply e_appL); exact ⟨_, rfl⟩; array_get_dec; rfl; array_mem_dec; rfl)
  | ((with_reducible apply gv); array_get_dec) | ((with_reducible apply gvN); array_get_dec) | ((with_reducible apply v_gv); array_get_dec; rfl)
  | with_reducible exact es_nil | ((with_reducible apply es_cons); array_get_dec; array_get_dec)
  | with_reducible exact gc_nil | ((with_reducible apply gc_cons); array_get_dec; array_get_dec)
  | with_reducible exact os_nil | ((with_reducible apply os_val); array_get_dec; array_get_dec) | ((with_reducible apply os_new); array_get_dec; array_get_dec)
  | with_reducible exact ts_nil | ((with_reducible apply ts_one'); array_get_dec; rfl; rfl)
  | ((with_reducible apply i_seq); array_get_dec; rfl) | ((with_reducible apply i_enu); array_get_dec; rfl) | ((with_reducible apply i_rev); array_get_dec; rfl)
  | ((with_reducible apply i_r1n); array_get_dec; array_mem_dec) | ((with_reducible apply i_r1); array_get_dec; first | array_mem_dec | (refine okR_by ?_; omega))
  | ((with_reducible apply i_r2); array_get_dec; array_get_dec; (first | (refine okR_by ?_; omega) | rfl); (first | (refine okR_by ?_; omega) | rfl))
  | ((with_reducible apply v_lcI); array_get_dec; array_mem_dec; (intro ia hia; try simp only [List.mem_range] at hia); (with_reducible apply t_lc); rfl; array_get_dec; rfl)
  | ((with_reducible apply v_lc); array_get_dec; array_mem_dec; (intro ia hia; try simp only [List.mem_range] at hia); (with_reducible apply t_lc); rfl; array_get_dec; rfl)
  | ((with_reducible apply v_lcfI); array_get_dec; array_mem_dec; (intro ia hia; try simp only [List.mem_range] at hia); (with_reducible apply t_lcf); rfl; array_get_dec; rfl; (intro hp; try simp only [decide_eq_true_eq] at hp); (with_reducible apply t_lc2); array_get_dec; rfl)
  | ((with_reducible apply v_lcf); array_get_dec; array_mem_dec; (intro ia hia; try simp only [List.mem_range] at hia); (with_reducible apply t_lcf); rfl; array_get_dec; rfl; (intro hp; try simp only [decide_eq_true_eq] at hp); (with_reducible apply t_lc2); array_get_dec; rfl)
  | ((with_reducible apply v_all); array_get_dec; array_mem_dec; (intro ia hia; try simp only [List.mem_range] at hia); (with_reducible apply t_lc); rfl; array_get_dec; rfl)
  | ((with_reducible apply v_allD); array_get_dec; array_mem_dec; (intro ia hia); (with_reducible apply t_lc); rfl; array_get_dec; rfl)
  | ((with_reducible apply v_any); array_get_dec; array_mem_dec; (intro ia hia; try simp only [List.mem_range] at hia); (with_reducible apply t_lc); rfl; array_get_dec; rfl)
  | ((with_reducible apply v_gsum); array_get_dec; array_mem_dec; (intro ia hia; try simp only [List.mem_range] at hia); (with_reducible apply t_lc); rfl; array_get_dec; rfl)
  | ((with_reducible apply v_gtupI); array_get_dec; array_mem_dec; (intro ia hia; try simp only [List.mem_range] at hia); (with_reducible apply t_lc); rfl; array_get_dec; rfl)
  | ((with_reducible apply v_gtup); array_get_dec; array_mem_dec; (intro ia hia; try simp only [List.mem_range] at hia); (with_reducible apply t_lc); rfl; array_get_dec; rfl)
  | sizeOf_list_dec)
local macro_rules | `(tactic| fail) => `(tactic| first
  | with_reducible exact ss_nil | ((with_reducible apply ss_nil'); rfl)
  | ((with_reducible apply n_asg); array_get_dec; rfl; try dsimp only [List.set_cons_zero, List.set_cons_succ])
  | ((with_reducible apply n_asgO); array_get_dec; rfl; try dsimp only [List.set_cons_zero, List.set_cons_succ])
  | ((with_reducible apply n_parO); array_get_dec; rfl; try dsimp only [List.set_cons_zero, List.set_cons_succ])
  | ((with_reducible apply n_par); array_get_dec; rfl; try dsimp only [List.set_cons_zero, List.set_cons_succ])
  | ((with_reducible apply n_asgG); array_get_dec; rfl; try dsimp only [List.set_cons_zero, List.set_cons_succ])
  | ((with_reducible apply n_aug); rfl; array_get_dec; rfl; decreasing_trivial_pre_omega; rfl; try dsimp only [List.set_cons_zero, List.set_cons_succ])
  | ((with_reducible apply n_exp); array_get_dec; try dsimp only [List.set_cons_zero, List.set_cons_succ])
  | ((with_reducible apply n_expX); array_get_dec) | ((with_reducible apply n_asgX); array_get_dec)
  | ((with_reducible apply n_ret); array_get_dec)
  | ((with_reducible apply n_retX); array_get_dec)
  | (focus ((with_reducible apply n_triR); (repeat' fail); done))
  | (focus ((with_reducible apply n_triX); (focus ((repeat' fail); done)); rfl; rfl; (focus ((repeat' fail); done)); rfl; done))
  | ((with_reducible apply n_retO); array_get_dec)
  | with_reducible exact n_rais
  | ((with_reducible apply n_ifF0); array_get_dec; rfl; rfl; try dsimp only [List.set_cons_zero, List.set_cons_succ])
  | (focus ((with_reducible apply n_ifTr); array_get_dec; rfl; rfl; (repeat' fail); done))
  | (focus ((with_reducible apply n_ifTx); array_get_dec; rfl; rfl; (repeat' fail); done))
  | ((with_reducible apply n_ifT); array_get_dec; rfl; rfl; (focus ((repeat' fail); done)); try dsimp only [List.set_cons_zero, List.set_cons_succ])
  | ((with_reducible apply n_ifF); array_get_dec; rfl; rfl; (focus ((repeat' fail); done)); try dsimp only [List.set_cons_zero, List.set_cons_succ])
  | (focus ((with_reducible apply n_ifFr); array_get_dec; rfl; rfl; (repeat' fail); done)))
local macro_rules | `(tactic| sizeOf_list_dec) => `(tactic| ((with_reducible apply take_r); array_mem_dec))
local macro_rules | `(tactic| sizeOf_list_dec) => `(tactic| with_reducible exact says_r _ _)
theorem in_ints {xs : List Int} {x : Int} : cmpD .In (.int x) (.tuple (xs.map .int)) = some (xs.any fun y => decide (y = x)) := by
  show (if flat deep (.int x) && flatAll deep (xs.map .int) then some ((xs.map PyData.int).any fun z => PyData.eqv z (.int x)) else none) = _
  rw [flat_iI, if_pos rfl, List.any_map]
  congr 2
section
variable (sc : PyData) (ys : List Int) {g : List Int} (k : Gst g)
variable {a4 a5 a6 a7 a8 a9 a10 a11 a12 a13 a14 a15 a16 a17 a18 a19 a20 a21 a22 a23 a24 a25 a26 a27 a28 : Slot}
include k
theorem body14 (s : Int) : exSs U gc (C 12) b_law_3 (fL sc ys g [.sh (.int s), a5, a6, a7, a8, .sh (.int (1 - low g g.length)), a10, a11, a12, a13, a14, a15, a16, a17, a18, a19, a20, a21, a22, a23, a24, a25, a26, a27, a28]) = some (.nx (fL sc ys g [.sh (.int s), a5, a6, a7, a8, .sh (.int (1 - low g g.length)), a10, a11, a12, a13, a14, a15, a16, a17, a18, a19, a20, a21, a22, a23, a24, a25, a26, a27, a28])) := by
  have hf := k.few
  have d1 := lheights_ok 11 (g := g) (s := s) (by omega)
  have hsl : slD (.tuple ((hl g s g.length).map .int)) (some 1) none = some (.val (.tuple (((hl g s g.length).drop 1).map .int))) := sl_fromU (by decide)
  by_cases h0 : 0 < s
  · have c1 : cmpD .Lt (.int 0) (.int s) = some true := c_ltT h0
    by_cases h1 : s ≤ 100
    · have c2 : cmpD .LtE (.int s) (.int 100) = some true := c_leT h1
      have hin : cmpD .In (.int 0) (.tuple (((hl g s g.length).drop 1).map .int)) = some (decide (s < 1 - low g g.length)) := by rw [in_ints, zero_ok h0]
      have hlt : cmpD .Lt (.int s) (.int (1 - low g g.length)) = some (decide (s < 1 - low g g.length)) := c_ltB
      have hne : cmpD .NotEq (.bool (decide (s < 1 - low g g.length))) (.bool (decide (s < 1 - low g g.length))) = some false := cmp_ne_self rfl
      unfold fL
      fail
      fail
    · have c2 : cmpD .LtE (.int s) (.int 100) = some false := c_leF h1
      unfold fL
      fail
      fail
  · have c1 : cmpD .Lt (.int 0) (.int s) = some false := c_ltF h0
    unfold fL
    fail
    fail
theorem law14 {ss : Ss} {P : Option SOut → Prop} (hs : ∀ s4 : Slot, P (exSs U gc (C 12) ss (fL sc ys g [s4, a5, a6, a7, a8, .sh (.int (1 - low g g.length)), a10, a11, a12, a13, a14, a15, a16, a17, a18, a19, a20, a21, a22, a23, a24, a25, a26, a27, a28]))) :
    P (exSs U gc (C 12) (.cons s_law_14 ss) (fL sc ys g [a4, a5, a6, a7, a8, .sh (.int (1 - low g g.length)), a10, a11, a12, a13, a14, a15, a16, a17, a18, a19, a20, a21, a22, a23, a24, a25, a26, a27, a28])) := by
  obtain ⟨ρ', e, s4, rfl⟩ := for_inv (u := U) (gc := gc) (c := C 12) (g := .n 4) (bd := b_law_3) (ds := [.int (1 - low g g.length - 1), .int (1 - low g g.length)])
    (ρ := fL sc ys g [a4, a5, a6, a7, a8, .sh (.int (1 - low g g.length)), a10, a11, a12, a13, a14, a15, a16, a17, a18, a19, a20, a21, a22, a23, a24, a25, a26, a27, a28])
    (fun _ ρ => ∃ s4 : Slot, ρ = fL sc ys g [s4, a5, a6, a7, a8, .sh (.int (1 - low g g.length)), a10, a11, a12, a13, a14, a15, a16, a17, a18, a19, a20, a21, a22, a23, a24, a25, a26, a27, a28]) ⟨_, rfl⟩ fun j d ρ hj ⟨s4, hr⟩ => by
      subst hr
      have hd : ∃ s : Int, d = .int s := by
        have hm := List.mem_of_getElem? hj
        simp only [List.mem_cons, List.mem_nil_iff, or_false] at hm
        rcases hm with rfl | rfl <;> exact ⟨_, rfl⟩
      obtain ⟨s, rfl⟩ := hd
      exact ⟨_, _, rfl, body14 sc ys k s, _, rfl⟩
  refine Eq.mpr (congrArg P ?_) (hs s4)
  apply n_for (ds := [.int (1 - low g g.length - 1), .int (1 - low g g.length)])
  · unfold fL
    array_get_dec
  · exact e
  rfl
theorem law16 {ss : Ss} {so : Option SOut} (hs : exSs U gc (C 12) ss (fL sc ys g [a4, a5, a6, a7, a8, a9, .sh (.int (bes g g.length)), a11, a12, a13, a14, a15, a16, a17, a18, a19, a20, a21, a22, a23, a24, a25, a26, a27, a28]) = so) :
    exSs U gc (C 12) (.cons s_law_15 (.cons s_law_16 ss)) (fL sc ys g [a4, a5, a6, a7, a8, a9, a10, a11, a12, a13, a14, a15, a16, a17, a18, a19, a20, a21, a22, a23, a24, a25, a26, a27, a28]) = so := by
  have hf := k.few
  have hsuc : binD .Add (.int (g.length : Nat)) (.int 1) = some (.val (.int ((g.length + 1 : Nat) : Int))) := by rw [b_add]; rfl
  have hlen : (List.range (g.length + 1)).length ≤ line := by rw [List.length_range]; unfold line; omega
  have hmx : biD .max [.list (((List.range (g.length + 1)).map fun (i : Nat) => (g.take ((i : Nat) : Int).toNat).sum).map .int)] = some (.val (.int (bes g g.length))) := by
    rw [f_maxL (by simp)]
    exact congrArg (fun x => some (Opd.val (.int x))) ahead_ok
  have h1 := ahead_r 11 (g := g) (by omega)
  have hal := alike_r (m := 12) 2 (.int (bes g g.length)) rfl (by decide)
  have h2 : C 12 3 [.av (.tuple (List.map PyData.int g).reverse), .av (.int 0)] = some (.ok (.tuple ((hl g.reverse 0 g.length).map .int)) []) := by
    rw [← List.map_reverse]
    have := heights_ok 9 (g := g.reverse) (s := 0) (by rw [List.length_reverse]; omega) (by decide) (by decide)
    rw [List.length_reverse] at this
    exact this
  have hx : ixD (.tuple ((hl g.reverse 0 g.length).map .int)) (.int (-1)) = some (.int (bes g g.length)) := by
    rw [x_tupI (by have := hl_len (g := g.reverse) 0 g.length; omega), hl_last, rev_ok]
  have hc : cmpD .NotEq (.int (bes g g.length)) (.int (bes g g.length)) = some false := c_neF rfl
  unfold fL at hs ⊢
  fail
  fail
  exact hs
theorem few5 {row : List Int} (h : row.length ≤ 5) : Few row.length (ords row) := by
  have few : ∀ j, j ≤ row.length → Few j ((row.take j).foldl ordF [[]]) := fun j => by
    induction j with
    | zero => exact fun _ => ⟨fun l hl => by simp at hl; subst hl; rfl, by simp⟩
    | succ j ih =>
      intro hj
      rw [List.take_succ_eq_append_getElem (by omega), List.foldl_append]
      exact few_ins (by omega) (ih (by omega))
  have := few row.length (Nat.le_refl _)
  rwa [List.take_length] at this
theorem law19 {ss : Ss} {P : Option SOut → Prop} (hs : ∀ s11 s12 : Slot, P (exSs U gc (C 12) ss (fL sc ys g [a4, a5, a6, a7, a8, a9, a10, s11, s12, a13, a14, a15, a16, a17, a18, a19, a20, a21, a22, a23, .no, a25, a26, a27, a28]))) :
    P (exSs U gc (C 12) (.cons s_law_17 (.cons s_law_18 (.cons s_law_19 ss))) (fL sc ys g [a4, a5, a6, a7, a8, a9, a10, a11, a12, a13, a14, a15, a16, a17, a18, a19, a20, a21, a22, a23, .no, a25, a26, a27, a28])) := by
  have hl5 : (g.take 5).length ≤ 5 := by rw [List.length_take]; omega
  generalize hrow : g.take 5 = row at hl5
  have hsl : slD (.tuple (g.map .int)) none (some 5) = some (.val (.tuple (row.map .int))) := by rw [← hrow]; exact sl_toU (by decide)
  have ho := orders_ok 11 hl5
  have hfe := few5 k hl5
  have hp : 6 ^ row.length ≤ 6 ^ 5 := Nat.pow_le_pow_right (by decide) hl5
  have hle : (ords row).length ≤ line := by have := hfe.2; simp at hp; unfold line; omega
  have l1 : evE U gc (C 12) (.lc [24] (.n 24) (.seq (.v 12)) .nil (.ix (.call 3 (.ex (.v 24) (.ex (.k (.int 0)) .nil))) (.neg (.k (.int 1))))) (fL sc ys g [a4, a5, a6, a7, a8, a9, a10, .sh (.tuple (row.map .int)), .sh (.list ((ords row).map rowD)), a13, a14, a15, a16, a17, a18, a19, a20, a21, a22, a23, .no, a25, a26, a27, a28]) =
      some (.ok (.new (((ords row).map fun l => hh l 0 l.length).map .int)) (fL sc ys g [a4, a5, a6, a7, a8, a9, a10, .sh (.tuple (row.map .int)), .sh (.list ((ords row).map rowD)), a13, a14, a15, a16, a17, a18, a19, a20, a21, a22, a23, .no, a25, a26, a27, a28])) := by
    refine v_lcI (xs := ords row) (enc := rowD) (i_seq (gv (v_var rfl)) rfl) hle fun l hl' => ?_
    have h1 := hfe.1 l hl'
    have h2 : C 12 3 [.av (rowD l), .av (.int 0)] = some (.ok (.tuple ((hl l 0 l.length).map .int)) []) := heights_ok 9 (g := l) (by omega) (by decide) (by decide)
    have hx : ixD (.tuple ((hl l 0 l.length).map .int)) (.int (-1)) = some (.int (hh l 0 l.length)) := by
      rw [x_tupI (by have := hl_len (g := l) 0 l.length; omega), hl_last]
    unfold fL
    apply t_lc
    · rfl
    · array_get_dec
    · rfl
  have l2 : evE U gc (C 12) (.lc [24] (.n 24) (.seq (.v 12)) .nil (.call 8 (.ex (.v 24) .nil))) (fL sc ys g [a4, a5, a6, a7, a8, a9, a10, .sh (.tuple (row.map .int)), .sh (.list ((ords row).map rowD)), a13, a14, a15, a16, a17, a18, a19, a20, a21, a22, a23, .no, a25, a26, a27, a28]) =
      some (.ok (.new (((ords row).map fun l => bes l l.length).map .int)) (fL sc ys g [a4, a5, a6, a7, a8, a9, a10, .sh (.tuple (row.map .int)), .sh (.list ((ords row).map rowD)), a13, a14, a15, a16, a17, a18, a19, a20, a21, a22, a23, .no, a25, a26, a27, a28])) := by
    refine v_lcI (xs := ords row) (enc := rowD) (i_seq (gv (v_var rfl)) rfl) hle fun l hl' => ?_
    have h1 := hfe.1 l hl'
    have h2 : C 12 8 [.av (rowD l)] = some (.ok (.int (bes l l.length)) []) := ahead_r 11 (g := l) (by omega)
    unfold fL
    apply t_lc
    · rfl
    · array_get_dec
    · rfl
  have hc : cmpD .NotEq (.list ((sortI ((ords row).map fun l => hh l 0 l.length)).map .int)) (.list ((sortI ((ords row).map fun l => bes l l.length)).map .int)) = some false := by rw [c_neL, ords_sort]; simp
  refine Eq.mpr (congrArg P ?_) (hs (.sh (.tuple (row.map .int))) (.sh (.list ((ords row).map rowD))))
  unfold fL at l1 l2 ⊢
  fail
  fail
  fail
end
end K04

end
section
set_option Elab.async false
set_option linter.all false
set_option maxRecDepth 100000
set_option maxHeartbeats 1000000
set_option autoImplicit false
namespace K04
open PySem RX M04
local macro_rules | `(tactic| array_mem_dec) => `(tactic| first
  | with_reducible assumption | omega | sizeOf_list_dec | (simp only [List.length_map, List.length_range, List.length_append, List.length_cons, List.length_nil, List.length_replicate, List.length_reverse, List.length_drop, List.length_take, line, Nat.reduceLeDiff, Nat.reduceAdd] at *; omega) | decide | rfl | (simp; done) | (unfold line; simp; omega))
local macro_rules | `(tactic| decreasing_trivial_pre_omega) => `(tactic| first
  | with_reducible assumption | sizeOf_list_dec | with_reducible exact b_add | with_reducible exact b_sub
  | ((with_reducible apply b_mulL); array_mem_dec) | ((with_reducible apply b_mulR); array_mem_dec) | ((with_reducible apply b_mulB); array_mem_dec; array_mem_dec)
  | ((with_reducible apply b_fd); array_mem_dec; array_mem_dec) | ((with_reducible apply b_mod); array_mem_dec)
  | ((with_reducible apply b_trep1); array_mem_dec) | ((with_reducible apply b_tcatI); array_mem_dec) | ((with_reducible apply b_tcatM); array_mem_dec) | ((with_reducible apply b_lcatM); array_mem_dec)
  | ((with_reducible apply b_lcat); array_mem_dec) | ((with_reducible apply b_tcat); array_mem_dec) | ((with_reducible apply b_trep); array_mem_dec) | ((with_reducible apply b_lrep); array_mem_dec)
  | ((with_reducible apply c_ltT); omega) | ((with_reducible apply c_ltF); omega) | with_reducible exact c_ltB
  | ((with_reducible apply c_leT); omega) | ((with_reducible apply c_leF); omega) | with_reducible exact c_leB
  | ((with_reducible apply c_gtT); omega) | ((with_reducible apply c_gtF); omega) | with_reducible exact c_gtB
  | ((with_reducible apply c_geT); omega) | ((with_reducible apply c_geF); omega) | with_reducible exact c_geB
  | ((with_reducible apply c_eqT); omega) | ((with_reducible apply c_eqF); omega) | with_reducible exact c_eqB
  | ((with_reducible apply c_neT); omega) | ((with_reducible apply c_neF); omega) | with_reducible exact c_neB
  | with_reducible exact f_lenLm | with_reducible exact f_lenTm | with_reducible exact f_lenL | with_reducible exact f_lenT | with_reducible exact f_sumL | with_reducible exact f_sumT
  | (refine f_minL ?_; array_mem_dec) | (refine f_maxL ?_; array_mem_dec) | (refine f_minT ?_; array_mem_dec) | (refine f_maxT ?_; array_mem_dec)
  | (with_reducible exact f_abs) | (with_reducible exact flat_iI) | with_reducible exact f_min2 | with_reducible exact f_max2 | with_reducible exact f_sorted | with_reducible exact f_sortedT | with_reducible exact f_sortedP | with_reducible exact f_int | with_reducible exact f_intB | with_reducible exact f_list | with_reducible exact f_listL | with_reducible exact f_tuple | with_reducible exact f_tupleT
  | (refine x_listI ?_; array_mem_dec) | (refine x_tupI ?_; array_mem_dec)
  | rfl)
local macro_rules | `(tactic| array_get_dec) => `(tactic| first
  | with_reducible assumption
  | with_reducible exact e_k
  | ((with_reducible apply v_var); first | rfl | with_reducible assumption) | ((with_reducible apply e_vo); first | rfl | with_reducible assumption) | ((with_reducible apply v_gi); rfl)
  | ((with_reducible apply v_bin); array_get_dec; array_get_dec; rfl; rfl; decreasing_trivial_pre_omega)
  | ((with_reducible apply v_cmp); array_get_dec; array_get_dec; rfl; rfl; decreasing_trivial_pre_omega)
  | ((with_reducible apply v_ix); array_get_dec; array_get_dec; rfl; rfl; decreasing_trivial_pre_omega)
  | ((with_reducible apply v_b1); array_get_dec; rfl; decreasing_trivial_pre_omega)
  | ((with_reducible apply v_b2); array_get_dec; array_get_dec; rfl; rfl; decreasing_trivial_pre_omega)
  | ((with_reducible apply v_isi); array_get_dec; rfl; first | rfl | sizeOf_list_dec)
  | ((with_reducible apply v_isx); rfl; first | rfl | decide)
  | ((with_reducible apply v_neg); array_get_dec; rfl)
  | ((with_reducible apply v_notT); array_get_dec; rfl; rfl) | ((with_reducible apply v_notF); array_get_dec; rfl; rfl) | ((with_reducible apply v_not); array_get_dec; rfl; rfl)
  | ((with_reducible apply v_chF); array_get_dec; array_get_dec; rfl; rfl; decreasing_trivial_pre_omega)
  | ((with_reducible apply v_chT); array_get_dec; array_get_dec; rfl; rfl; decreasing_trivial_pre_omega; array_get_dec; rfl; rfl; decreasing_trivial_pre_omega)
  | ((with_reducible apply v_chB); array_get_dec; array_get_dec; rfl; decreasing_trivial_pre_omega; array_get_dec; rfl; decreasing_trivial_pre_omega)
  | ((with_reducible apply e_anF); array_get_dec)
  | ((with_reducible apply v_anT); array_get_dec; array_get_dec)
  | ((with_reducible apply v_anB); array_get_dec; array_get_dec)
  | ((with_reducible apply v_anC); array_get_dec; (intro hC; simp only [decide_eq_true_eq, Bool.and_eq_true] at hC; array_get_dec))
  | ((with_reducible apply e_orT); array_get_dec)
  | ((with_reducible apply v_orF); array_get_dec; array_get_dec)
  | ((with_reducible apply v_orB); array_get_dec; array_get_dec)
  | ((with_reducible apply v_orC); array_get_dec; (intro hC; simp only [decide_eq_false_iff_not, Bool.or_eq_false_iff] at hC; array_get_dec))
  | ((with_reducible apply v_ifeT); array_get_dec; rfl; rfl; array_get_dec)
  | ((with_reducible apply v_ifeF); array_get_dec; rfl; rfl; array_get_dec)
  | (focus ((with_reducible apply v_ifeTO); array_get_dec; rfl; rfl; array_get_dec; done)) | (focus ((with_reducible apply v_ifeFO); array_get_dec; rfl; rfl; array_get_dec; done))
  | ((with_reducible apply v_ifeI); array_get_dec; rfl; rfl; array_get_dec; array_get_dec)
  | ((with_reducible apply v_ifeB); array_get_dec; rfl; rfl; array_get_dec; array_get_dec)
  | ((with_reducible apply e_tup); array_get_dec; first | (refine Nat.le_of_ble_eq_true ?_; rfl) | array_mem_dec)
  | ((with_reducible apply e_lst); array_get_dec; first | (refine Nat.le_of_ble_eq_true ?_; rfl) | array_mem_dec)
  | ((with_reducible apply v_sl); array_get_dec; array_get_dec; array_get_dec; rfl; first | with_reducible assumption | sizeOf_list_dec | ((with_reducible apply sl_toU); array_mem_dec) | ((with_reducible apply sl_fromU); array_mem_dec) | ((with_reducible apply sl_toL); array_mem_dec) | ((with_reducible apply sl_fromL); array_mem_dec) | rfl)
  | ((with_reducible apply v_idx); array_get_dec; rfl; array_get_dec; rfl; rfl; decreasing_trivial_pre_omega; decreasing_trivial_pre_omega)
  | ((with_reducible apply v_cnt); array_get_dec; rfl; array_get_dec; rfl; rfl; decreasing_trivial_pre_omega)
  | ((with_reducible apply v_cntT); array_get_dec; array_get_dec; rfl; decreasing_trivial_pre_omega) | ((with_reducible apply v_idxT); array_get_dec; array_get_dec; array_mem_dec)
  | ((with_reducible apply v_rvT); array_get_dec; rfl) | ((with_reducible apply v_rvL); array_get_dec; rfl)
  | ((with_reducible apply v_lr1); array_get_dec; (first | (refine okR_by ?_; omega) | rfl); array_mem_dec)
  | ((with_reducible apply v_lr2); array_get_dec; array_get_dec; (first | (refine okR_by ?_; omega) | rfl); (first | (refine okR_by ?_; omega) | rfl); array_mem_dec)
  | ((with_reducible apply v_lr3); array_get_dec; array_get_dec; array_get_dec; (first | (refine okR_by ?_; omega) | rfl); (first | (refine okR_by ?_; omega) | rfl); (first | rfl | decide); array_mem_dec)
  | ((with_reducible apply v_gcd); array_get_dec; array_get_dec; rfl; rfl)
  | ((with_reducible apply v_lend); rfl; (first | with_reducible assumption | sizeOf_list_dec); rfl)
  | with_reducible exact p_no | ((with_reducible apply p_so); array_get_dec; rfl)
  | ((with_reducible apply v_call); array_get_dec; first | with_reducible assumption | sizeOf_list_dec)
  | ((with_reducible apply v_callE); array_get_dec; first | with_reducible assumption | sizeOf_list_dec)
  | ((with_reducible apply v_callO); array_get_dec; first | with_reducible assumption | sizeOf_list_dec)
  | ((with_reducible apply e_drawL); exact ⟨_, rfl⟩; array_get_dec; rfl; (first | with_reducible assumption | sizeOf_list_dec); rfl)
  | ((with_reducible apply e_appL); exact ⟨_, rfl⟩; array_get_dec; rfl; array_mem_dec; rfl)
  | ((with_reducible apply gv); array_get_dec) | ((with_reducible apply gvN); array_get_dec) | ((with_reducible apply v_gv); array_get_dec; rfl)
  | with_reducible exact es_nil | ((with_reducible apply es_cons); array_get_dec; array_get_dec)
  | with_reducible exact gc_nil | ((with_reducible apply gc_cons); array_get_dec; array_get_dec)
  | with_reducible exact os_nil | ((with_reducible apply os_val); array_get_dec; array_get_dec) | ((with_reducible apply os_new); array_get_dec; array_get_dec)
  | with_reducible exact ts_nil | ((with_reducible apply ts_one'); array_get_dec; rfl; rfl)
  | ((with_reducible apply i_seq); array_get_dec; rfl) | ((with_reducible apply i_enu); array_get_dec; rfl) | ((with_reducible apply i_rev); array_get_dec; rfl)
  | ((with_reducible apply i_r1n); array_get_dec; array_mem_dec) | ((with_reducible apply i_r1); array_get_dec; first | array_mem_dec | (refine okR_by ?_; omega))
  | ((with_reducible apply i_r2); array_get_dec; array_get_dec; (first | (refine okR_by ?_; omega) | rfl); (first | (refine okR_by ?_; omega) | rfl))
  | ((with_reducible apply v_lcI); array_get_dec; array_mem_dec; (intro ia hia; try simp only [List.mem_range] at hia); (with_reducible apply t_lc); rfl; array_get_dec; rfl)
  | ((with_reducible apply v_lc); array_get_dec; array_mem_dec; (intro ia hia; try simp only [List.mem_range] at hia); (with_reducible apply t_lc); rfl; array_get_dec; rfl)
  | ((with_reducible apply v_lcfI); array_get_dec; array_mem_dec; (intro ia hia; try simp only [List.mem_range] at hia); (with_reducible apply t_lcf); rfl; array_get_dec; rfl; (intro hp; try simp only [decide_eq_true_eq] at hp); (with_reducible apply t_lc2); array_get_dec; rfl)
  | ((with_reducible apply v_lcf); array_get_dec; array_mem_dec; (intro ia hia; try simp only [List.mem_range] at hia); (with_reducible apply t_lcf); rfl; array_get_dec; rfl; (intro hp; try simp only [decide_eq_true_eq] at hp); (with_reducible apply t_lc2); array_get_dec; rfl)
  | ((with_reducible apply v_all); array_get_dec; array_mem_dec; (intro ia hia; try simp only [List.mem_range] at hia); (with_reducible apply t_lc); rfl; array_get_dec; rfl)
  | ((with_reducible apply v_allD); array_get_dec; array_mem_dec; (intro ia hia); (with_reducible apply t_lc); rfl; array_get_dec; rfl)
  | ((with_reducible apply v_any); array_get_dec; array_mem_dec; (intro ia hia; try simp only [List.mem_range] at hia); (with_reducible apply t_lc); rfl; array_get_dec; rfl)
  | ((with_reducible apply v_gsum); array_get_dec; array_mem_dec; (intro ia hia; try simp only [List.mem_range] at hia); (with_reducible apply t_lc); rfl; array_get_dec; rfl)
  | ((with_reducible apply v_gtupI); array_get_dec; array_mem_dec; (intro ia hia; try simp only [List.mem_range] at hia); (with_reducible apply t_lc); rfl; array_get_dec; rfl)
  | ((with_reducible apply v_gtup); array_get_dec; array_mem_dec; (intro ia hia; try simp only [List.mem_range] at hia); (with_reducible apply t_lc); rfl; array_get_dec; rfl)
  | sizeOf_list_dec)
local macro_rules | `(tactic| fail) => `(tactic| first
  | with_reducible exact ss_nil | ((with_reducible apply ss_nil'); rfl)
  | ((with_reducible apply n_asg); array_get_dec; rfl; try dsimp only [List.set_cons_zero, List.set_cons_succ])
  | ((with_reducible apply n_asgO); array_get_dec; rfl; try dsimp only [List.set_cons_zero, List.set_cons_succ])
  | ((with_reducible apply n_parO); array_get_dec; rfl; try dsimp only [List.set_cons_zero, List.set_cons_succ])
  | ((with_reducible apply n_par); array_get_dec; rfl; try dsimp only [List.set_cons_zero, List.set_cons_succ])
  | ((with_reducible apply n_asgG); array_get_dec; rfl; try dsimp only [List.set_cons_zero, List.set_cons_succ])
  | ((with_reducible apply n_aug); rfl; array_get_dec; rfl; decreasing_trivial_pre_omega; rfl; try dsimp only [List.set_cons_zero, List.set_cons_succ])
  | ((with_reducible apply n_exp); array_get_dec; try dsimp only [List.set_cons_zero, List.set_cons_succ])
  | ((with_reducible apply n_expX); array_get_dec) | ((with_reducible apply n_asgX); array_get_dec)
  | ((with_reducible apply n_ret); array_get_dec)
  | ((with_reducible apply n_retX); array_get_dec)
  | (focus ((with_reducible apply n_triR); (repeat' fail); done))
  | (focus ((with_reducible apply n_triX); (focus ((repeat' fail); done)); rfl; rfl; (focus ((repeat' fail); done)); rfl; done))
  | ((with_reducible apply n_retO); array_get_dec)
  | with_reducible exact n_rais
  | ((with_reducible apply n_ifF0); array_get_dec; rfl; rfl; try dsimp only [List.set_cons_zero, List.set_cons_succ])
  | (focus ((with_reducible apply n_ifTr); array_get_dec; rfl; rfl; (repeat' fail); done))
  | (focus ((with_reducible apply n_ifTx); array_get_dec; rfl; rfl; (repeat' fail); done))
  | ((with_reducible apply n_ifT); array_get_dec; rfl; rfl; (focus ((repeat' fail); done)); try dsimp only [List.set_cons_zero, List.set_cons_succ])
  | ((with_reducible apply n_ifF); array_get_dec; rfl; rfl; (focus ((repeat' fail); done)); try dsimp only [List.set_cons_zero, List.set_cons_succ])
  | (focus ((with_reducible apply n_ifFr); array_get_dec; rfl; rfl; (repeat' fail); done)))
local macro_rules | `(tactic| sizeOf_list_dec) => `(tactic| ((with_reducible apply take_r); array_mem_dec))
local macro_rules | `(tactic| sizeOf_list_dec) => `(tactic| with_reducible exact says_r _ _)
def odd : List PyData := [.none, .list [.int 1], .tuple [.int 31], .tuple [.int (-31)], .tuple [.bool true], .tuple [.none], .tuple (rep [.int 0] (Int.toNat 41))]
theorem odd_no : ∀ x ∈ odd, C 12 1 [.av x] = some (.ok (.bool false) []) := by
  intro x hx
  simp only [odd, List.mem_cons, List.mem_nil_iff, or_false] at hx
  rcases hx with rfl | rfl | rfl | rfl | rfl | rfl | rfl
  all_goals rfl
section
variable (sc : PyData) (ys : List Int) {g : List Int} (k : Gst g)
variable {a4 a5 a6 a7 a8 a9 a10 a11 a12 a13 a14 a15 a16 a17 a18 a20 a21 a22 a23 a24 : Slot}
include k
theorem law20 {ss : Ss} {P : Option SOut → Prop} (hs : ∀ (zs : List Int) (s19 s20 : Slot), P (exSs U gc (C 12) ss (fL sc zs g [a4, a5, a6, a7, a8, a9, a10, a11, a12, .no, .no, .no, a16, a17, a18, s19, s20, a21, a22, a23, .no, .no, .no, .no, .no]))) :
    P (exSs U gc (C 12) (.cons s_law_20 ss) (fL sc ys g [a4, a5, a6, a7, a8, a9, a10, a11, a12, .no, .no, .no, a16, a17, a18, .no, .no, a21, a22, a23, .no, .no, .no, .no, .no])) := by
  have hf := k.few
  by_cases h0 : 0 < g.length
  · have c1 : cmpD .Gt (.int (g.length : Nat)) (.int 0) = some true := c_gtT (by omega)
    have t1 := tkV_lt (b := ((g.length : Nat) : Int)) ys (by omega)
    obtain ⟨q, hq, q0⟩ : ∃ q : Nat, tkV ys (g.length : Nat) = (q : Nat) ∧ q < g.length := ⟨(tkV ys (g.length : Nat)).toNat, by omega, by omega⟩
    have s1 : slD (.tuple (g.map .int)) none (some (q : Nat)) = some (.val (.tuple ((g.take q).map .int))) := sl_toU (by omega)
    have p1 : binD .Add (.int (q : Nat)) (.int 1) = some (.val (.int ((q + 1 : Nat) : Int))) := by rw [b_add]; rfl
    have s2 : slD (.tuple (g.map .int)) (some ((q + 1 : Nat) : Int)) none = some (.val (.tuple ((g.drop (q + 1)).map .int))) := sl_fromU (by omega)
    have hx : ixD (.tuple (g.map .int)) (.int (q : Nat)) = some (.int (at0 g (q : Nat))) := x_tupI (by omega)
    have e1 : binD .Add (.tuple ((g.take q).map .int)) (.tuple [.int (min 30 (at0 g (q : Nat) + 1))]) = some (.val (.tuple ((g.take q ++ [min 30 (at0 g (q : Nat) + 1)]).map .int))) := b_tcatM (ys := [_]) (by simp; unfold line; omega)
    have e2 : binD .Add (.tuple ((g.take q ++ [min 30 (at0 g (q : Nat) + 1)]).map .int)) (.tuple ((g.drop (q + 1)).map .int)) = some (.val (.tuple ((more g q).map .int))) := b_tcatM (by simp; unfold line; omega)
    have hml := more_len q0
    have h1 : C 12 3 [.av (.tuple ((more g q).map .int)), .av (.int 3)] = some (.ok (.tuple ((hl (more g q) 3 g.length).map .int)) []) := by
      have := heights_ok 9 (g := more g q) (s := 3) (by omega) (by decide) (by decide)
      rw [hml] at this
      exact this
    have h2 : C 12 3 [.av (.tuple (g.map .int)), .av (.int 3)] = some (.ok (.tuple ((hl g 3 g.length).map .int)) []) := heights_ok 9 (by omega) (by decide) (by decide)
    have l1 := hl_len (g := more g q) 3 g.length
    have l2 := hl_len (g := g) 3 g.length
    have hsuc : binD .Add (.int (g.length : Nat)) (.int 1) = some (.val (.int ((g.length + 1 : Nat) : Int))) := by rw [b_add]; rfl
    have hN : evE U gc (C 12) (.lc [25] (.n 25) (.r1 (.bin .Add (.v 3) (.k (.int 1)))) (.cons (.cmp .Lt (.ix (.call 3 (.ex (.v 20) (.ex (.k (.int 3)) .nil))) (.v 25)) (.ix (.call 3 (.ex (.v 2) (.ex (.k (.int 3)) .nil))) (.v 25))) .nil) (.v 25))
        (fL sc (tkR ys) g [a4, a5, a6, a7, a8, a9, a10, a11, a12, .no, .no, .no, a16, a17, a18, .sh (.int (q : Nat)), .sh (.tuple ((more g q).map .int)), a21, a22, a23, .no, .no, .no, .no, .no]) =
        some (.ok (.new []) (fL sc (tkR ys) g [a4, a5, a6, a7, a8, a9, a10, a11, a12, .no, .no, .no, a16, a17, a18, .sh (.int (q : Nat)), .sh (.tuple ((more g q).map .int)), a21, a22, a23, .no, .no, .no, .no, .no])) := by
      refine v_lcN (ds := (List.range (g.length + 1)).map natD) (i_r1n ?_ (by unfold line; omega)) (by rw [List.length_map, List.length_range]; unfold line; omega) fun d hd => ?_
      · unfold fL
        array_get_dec
      obtain ⟨i, hi, rfl⟩ := List.mem_map.mp hd
      have hi := List.mem_range.mp hi
      have x1 : ixD (.tuple ((hl (more g q) 3 g.length).map .int)) (.int (i : Nat)) = some (.int (hh (more g q) 3 i)) := by rw [x_tupI (by omega), hl_at (by omega)]
      have x2 : ixD (.tuple ((hl g 3 g.length).map .int)) (.int (i : Nat)) = some (.int (hh g 3 i)) := by rw [x_tupI (by omega), hl_at (by omega)]
      have c2 : cmpD .Lt (.int (hh (more g q) 3 i)) (.int (hh g 3 i)) = some false := c_ltF (by have := hh_mono (more_ge q0 fun x hx => (k.bd x hx).2) 3 i; omega)
      unfold fL
      apply t_lcn
      · rfl
      · apply ts_one'
        · array_get_dec
        · rfl
        · rfl
      · rfl
    refine Eq.mpr (congrArg P ?_) (hs (tkR ys) (.sh (.int (q : Nat))) (.sh (.tuple ((more g q).map .int))))
    unfold fL at hN ⊢
    with_reducible apply n_ifT
    · array_get_dec
    · rfl
    · rfl
    · fail
      rw [hq]
      fail
      fail
      fail
    rfl
  · have c1 : cmpD .Gt (.int (g.length : Nat)) (.int 0) = some false := c_gtF (by omega)
    refine Eq.mpr (congrArg P ?_) (hs ys .no .no)
    unfold fL
    fail
theorem law24 {a19 : Slot} : ∃ ρ', exSs U gc (C 12) (.cons s_law_21 (.cons s_law_22 (.cons s_law_23 (.cons s_law_24 .nil)))) (fL sc ys g [a4, a5, a6, a7, a8, a9, a10, a11, a12, .no, .no, .no, a16, a17, a18, a19, a20, a21, a22, a23, .no, .no, .no, .no, .no]) = some (.rt (.bool true) ρ') ∧ ∀ w, outsL [.av w] ρ' = some [] := by
  have hlc : ∀ (s : Int) (w : List PyData), ¬ (0 ≤ s ∧ s ≤ 100) → evE U gc (C 12) (.lc [26] (.n 26) (.r1 (.k (.int 3))) .nil (.call 14 (.ex (.v 26) (.ex (.v 2) (.ex (.v 14) .nil))))) (fL sc ys g [a4, a5, a6, a7, a8, a9, a10, a11, a12, .sh (.list w), .sh (.int s), .no, a16, a17, a18, a19, a20, a21, a22, a23, .no, .no, .no, .no, .no]) =
      some (.ok (.new [.str "range", .str "range", .str "range"]) (fL sc ys g [a4, a5, a6, a7, a8, a9, a10, a11, a12, .sh (.list w), .sh (.int s), .no, a16, a17, a18, a19, a20, a21, a22, a23, .no, .no, .no, .no, .no])) := fun s w hs => by
    have w0 := told0b 7 (x := .tuple (g.map .int)) hs
    have w1 := told1b 7 (x := .tuple (g.map .int)) hs
    have w2 := told2b 7 (x := .tuple (g.map .int)) hs
    refine v_lc (xs := List.range 3) (enc := natD) (F := fun _ => .str "range") (i_r1n e_k (by decide)) (by decide) fun i hi => ?_
    have hi := List.mem_range.mp hi
    have : i = 0 ∨ i = 1 ∨ i = 2 := by omega
    unfold fL
    rcases this with rfl | rfl | rfl
    · refine t_lc rfl (gv (v_call (gc_cons (gv (v_var rfl)) (gc_cons (gv (v_var rfl)) (gc_cons (gv (v_var rfl)) gc_nil))) w0)) rfl
    · refine t_lc rfl (gv (v_call (gc_cons (gv (v_var rfl)) (gc_cons (gv (v_var rfl)) (gc_cons (gv (v_var rfl)) gc_nil))) w1)) rfl
    · refine t_lc rfl (gv (v_call (gc_cons (gv (v_var rfl)) (gc_cons (gv (v_var rfl)) (gc_cons (gv (v_var rfl)) gc_nil))) w2)) rfl
  obtain ⟨ρ1, e, s14, hr⟩ := for_inv (u := U) (gc := gc) (c := C 12) (g := .n 14) (bd := b_law_4) (ds := [.int (-1), .int 101])
    (ρ := fL sc ys g [a4, a5, a6, a7, a8, a9, a10, a11, a12, .sh (.list []), .no, .no, a16, a17, a18, a19, a20, a21, a22, a23, .no, .no, .no, .no, .no])
    (fun j ρ => ∃ s14 : Slot, ρ = fL sc ys g [a4, a5, a6, a7, a8, a9, a10, a11, a12, .sh (.list (List.replicate (3 * j) (.str "range"))), s14, .no, a16, a17, a18, a19, a20, a21, a22, a23, .no, .no, .no, .no, .no]) ⟨_, rfl⟩ fun j d ρ hj ⟨s14, hr⟩ => by
      subst hr
      have hj2 : j < 2 := by
        have := (List.getElem?_eq_some_iff.mp hj).1
        exact this
      have hd : ∃ s : Int, d = .int s ∧ ¬ (0 ≤ s ∧ s ≤ 100) := by
        have hm := List.mem_of_getElem? hj
        simp only [List.mem_cons, List.mem_nil_iff, or_false] at hm
        rcases hm with rfl | rfl
        · exact ⟨_, rfl, by decide⟩
        · exact ⟨_, rfl, by decide⟩
      obtain ⟨s, rfl, hs⟩ := hd
      have hl := hlc s (List.replicate (3 * j) (.str "range")) hs
      have hadd : binD .Add (.list (List.replicate (3 * j) (.str "range"))) (.list [.str "range", .str "range", .str "range"]) = some (.new (List.replicate (3 * j) (.str "range") ++ [.str "range", .str "range", .str "range"])) := b_lcat (by simp; unfold line; omega)
      have er : List.replicate (3 * (j + 1)) (PyData.str "range") = List.replicate (3 * j) (.str "range") ++ [.str "range", .str "range", .str "range"] := by
        rw [show 3 * (j + 1) = 3 * j + 3 by omega, ← List.replicate_append_replicate]; rfl
      refine ⟨fL sc ys g [a4, a5, a6, a7, a8, a9, a10, a11, a12, .sh (.list (List.replicate (3 * j) (.str "range"))), .sh (.int s), .no, a16, a17, a18, a19, a20, a21, a22, a23, .no, .no, .no, .no, .no], _, rfl, ?_, .sh (.int s), rfl⟩
      rw [er]
      unfold fL at hl ⊢
      fail
      fail
  have hrep : binD .Mult (.tuple [.int 0]) (.int 41) = some (.val (.tuple (rep [.int 0] (Int.toNat 41)))) := rfl
  have hrep2 : binD .Mult (.list [.str "range"]) (.int 6) = some (.new (rep [.str "range"] (Int.toNat 6))) := rfl
  have heq : cmpD .Eq (.list (List.replicate (3 * 2) (.str "range"))) (.list (rep [.str "range"] (Int.toNat 6))) = some true := rfl
  have hlN : evE U gc (C 12) (.lc [27] (.n 27) (.seq (.v 15)) (.cons (.no (.call 12 (.ex (.call 1 (.ex (.v 27) .nil)) (.ex (.k (.bool false)) .nil)))) .nil) (.v 27)) (fL sc ys g [a4, a5, a6, a7, a8, a9, a10, a11, a12, .sh (.list (List.replicate (3 * 2) (.str "range"))), s14, .sh (.list odd), a16, a17, a18, a19, a20, a21, a22, a23, .no, .no, .no, .no, .no]) =
      some (.ok (.new []) (fL sc ys g [a4, a5, a6, a7, a8, a9, a10, a11, a12, .sh (.list (List.replicate (3 * 2) (.str "range"))), s14, .sh (.list odd), a16, a17, a18, a19, a20, a21, a22, a23, .no, .no, .no, .no, .no])) := by
    refine v_lcN (ds := odd) (i_seq (gv (v_var rfl)) rfl) (by decide) fun d hd => ?_
    have h1 := odd_no d hd
    unfold fL
    apply t_lcn
    · rfl
    · apply ts_one'
      · array_get_dec
      · rfl
      · rfl
    · rfl
  have e5 : cmpD .Eq (.list []) (.list []) = some true := rfl
  refine ⟨fL sc ys g [a4, a5, a6, a7, a8, a9, a10, a11, a12, .sh (.list (List.replicate (3 * 2) (.str "range"))), s14, .sh (.list odd), a16, a17, a18, a19, a20, a21, a22, a23, .no, .no, .no, .no, .no], ?_, fun _ => rfl⟩
  unfold fL at hlN ⊢
  fail
  apply n_for (ds := [.int (-1), .int 101])
  · array_get_dec
  · exact e
  rw [hr]
  show exSs U gc (C 12) _ [.sh sc, .ol false (ys.map .int), .sh (.tuple (g.map .int)), .sh (.int (g.length : Nat)), a4, a5, a6, a7, a8, a9, a10, a11, a12, .sh (.list (List.replicate (3 * 2) (.str "range"))), s14, .no, a16, a17, a18, a19, a20, a21, a22, a23, .no, .no, .no, .no, .no] = _
  fail
  show exSs U gc (C 12) _ [.sh sc, .ol false (ys.map .int), .sh (.tuple (g.map .int)), .sh (.int (g.length : Nat)), a4, a5, a6, a7, a8, a9, a10, a11, a12, .sh (.list (List.replicate (3 * 2) (.str "range"))), s14, .sh (.list odd), a16, a17, a18, a19, a20, a21, a22, a23, .no, .no, .no, .no, .no] = _
  fail
end
theorem law_true (ns : List Int) (h : ns.length ≤ 63) : callF U gc T 13 18 [.av (.list (ns.map .int))] = some (.ok (.bool true) []) := by
  obtain ⟨g, ys, k, hA⟩ := seg0 ns h
  have main : ∃ ρ', exSs U gc (C 12) ir_law [.sh (.list (ns.map .int)), .no, .no, .no, .no, .no, .no, .no, .no, .no, .no, .no, .no, .no, .no, .no, .no, .no, .no, .no, .no, .no, .no, .no, .no, .no, .no, .no, .no] = some (.rt (.bool true) ρ') ∧ ∀ w, outsL [.av w] ρ' = some [] := by
    refine Eq.mpr (congrArg (fun r : Option SOut => ∃ ρ', r = some (.rt (.bool true) ρ') ∧ ∀ w, outsL [.av w] ρ' = some []) (hA _ _ rfl)) ?_
    refine law5 (.list (ns.map .int)) ys k (P := fun r : Option SOut => ∃ ρ', r = some (.rt (.bool true) ρ') ∧ ∀ w, outsL [.av w] ρ' = some []) fun s4 s16 s17 s21 s22 => ?_
    refine law7 (.list (ns.map .int)) (tkR ys) k (P := fun r : Option SOut => ∃ ρ', r = some (.rt (.bool true) ρ') ∧ ∀ w, outsL [.av w] ρ' = some []) fun s6 => ?_
    refine law11 (.list (ns.map .int)) (tkR ys) k (P := fun r : Option SOut => ∃ ρ', r = some (.rt (.bool true) ρ') ∧ ∀ w, outsL [.av w] ρ' = some []) fun s7 s8 s18 => ?_
    refine Eq.mpr (congrArg (fun r : Option SOut => ∃ ρ', r = some (.rt (.bool true) ρ') ∧ ∀ w, outsL [.av w] ρ' = some []) (law13 (.list (ns.map .int)) (tkR ys) k rfl)) ?_
    refine law14 (.list (ns.map .int)) (tkR ys) k (P := fun r : Option SOut => ∃ ρ', r = some (.rt (.bool true) ρ') ∧ ∀ w, outsL [.av w] ρ' = some []) fun t4 => ?_
    refine Eq.mpr (congrArg (fun r : Option SOut => ∃ ρ', r = some (.rt (.bool true) ρ') ∧ ∀ w, outsL [.av w] ρ' = some []) (law16 (.list (ns.map .int)) (tkR ys) k rfl)) ?_
    refine law19 (.list (ns.map .int)) (tkR ys) k (P := fun r : Option SOut => ∃ ρ', r = some (.rt (.bool true) ρ') ∧ ∀ w, outsL [.av w] ρ' = some []) fun s11 s12 => ?_
    refine law20 (.list (ns.map .int)) (tkR ys) k (P := fun r : Option SOut => ∃ ρ', r = some (.rt (.bool true) ρ') ∧ ∀ w, outsL [.av w] ρ' = some []) fun zs s19 s20 => ?_
    exact law24 (.list (ns.map .int)) zs k
  obtain ⟨ρ', e, eo⟩ := main
  apply call_rt (fn := f_law) (ρ := [.sh (.list (ns.map .int)), .no, .no, .no, .no, .no, .no, .no, .no, .no, .no, .no, .no, .no, .no, .no, .no, .no, .no, .no, .no, .no, .no, .no, .no, .no, .no, .no, .no]) rfl rfl rfl
  · exact e
  · exact eo _
end K04

end
section
namespace K04
open PySem PySem.Spec PyProof.Rows L2 RX
end K04
open PySem PySem.W PyProof.Rows in
set_option maxRecDepth 100000 in
set_option maxHeartbeats 0 in
theorem PySem.Challenge.cw_kiteheld_k04_whole_heights_in_gusts_holds : PySem.Challenge.rw_kiteheld_k04_whole_heights_in_gusts.Holds := by
  w_on; o_law; k_head; (case hw => w_witness2)
  k_fill
  refine RX.law_end (l := PySem.Challenge.rw_kiteheld_k04_whole_heights_in_gusts) (u := RX.subT K04.tab) (gc := K04.gc) (rows := K04.rows) (nm := K04.nm) (r := K04.r_law) 13 18 rfl rfl ⟨rfl, by decide, by decide⟩ (fun w h Y => PySem.W.kIn_of Y) rfl K04.chk (by decide +kernel) rfl rfl rfl (by kernel_rfl) K04.law_true ?F
  case F =>
    intro w mg h KX G
    refine ⟨RX.facts_of KX G (by kernel_rfl) ?_, by kernel_rfl⟩
    intro r hr
    simp only [K04.rows, List.mem_cons, List.mem_nil_iff, or_false] at hr
    rcases hr with rfl | rfl | rfl | rfl | rfl | rfl | rfl | rfl | rfl | rfl | rfl | rfl | rfl | rfl | rfl | rfl | rfl | rfl | rfl
    · refine' RX.def_mk KX G ?a ?l ?c ?k (fun _ _ _ _ _ _ us hl => match us, hl with | [_, _, _], _ => rfl); (case a => k_is); (case l => k_is); (case c => k_is); (case k => k_is)
    · refine' RX.def_mk KX G ?a ?l ?c ?k (fun _ _ _ _ _ _ us hl => match us, hl with | [_], _ => rfl); (case a => k_is); (case l => k_is); (case c => k_is); (case k => k_is)
    · refine' RX.def_mk KX G ?a ?l ?c ?k (fun _ _ _ _ _ _ us hl => match us, hl with | [_], _ => rfl); (case a => k_is); (case l => k_is); (case c => k_is); (case k => k_is)
    · refine' RX.def_mk KX G ?a ?l ?c ?k (fun _ _ _ _ _ _ us hl => match us, hl with | [_, _], _ => rfl); (case a => k_is); (case l => k_is); (case c => k_is); (case k => k_is)
    · refine' RX.def_mk KX G ?a ?l ?c ?k (fun _ _ _ _ _ _ us hl => match us, hl with | [_, _], _ => rfl); (case a => k_is); (case l => k_is); (case c => k_is); (case k => k_is)
    · refine' RX.def_mk KX G ?a ?l ?c ?k (fun _ _ _ _ _ _ us hl => match us, hl with | [_], _ => rfl); (case a => k_is); (case l => k_is); (case c => k_is); (case k => k_is)
    · refine' RX.def_mk KX G ?a ?l ?c ?k (fun _ _ _ _ _ _ us hl => match us, hl with | [_, _], _ => rfl); (case a => k_is); (case l => k_is); (case c => k_is); (case k => k_is)
    · refine' RX.def_mk KX G ?a ?l ?c ?k (fun _ _ _ _ _ _ us hl => match us, hl with | [_], _ => rfl); (case a => k_is); (case l => k_is); (case c => k_is); (case k => k_is)
    · refine' RX.def_mk KX G ?a ?l ?c ?k (fun _ _ _ _ _ _ us hl => match us, hl with | [_], _ => rfl); (case a => k_is); (case l => k_is); (case c => k_is); (case k => k_is)
    · refine' RX.def_mk KX G ?a ?l ?c ?k (fun _ _ _ _ _ _ us hl => match us, hl with | [_], _ => rfl); (case a => k_is); (case l => k_is); (case c => k_is); (case k => k_is)
    · refine' RX.def_mk KX G ?a ?l ?c ?k (fun _ _ _ _ _ _ us hl => match us, hl with | [_, _], _ => rfl); (case a => k_is); (case l => k_is); (case c => k_is); (case k => k_is)
    · refine' RX.def_mk KX G ?a ?l ?c ?k (fun _ _ _ _ _ _ us hl => match us, hl with | [_, _], _ => rfl); (case a => k_is); (case l => k_is); (case c => k_is); (case k => k_is)
    · refine' RX.def_mk KX G ?a ?l ?c ?k (fun _ _ _ _ _ _ us hl => match us, hl with | [_, _], _ => rfl); (case a => k_is); (case l => k_is); (case c => k_is); (case k => k_is)
    · refine' RX.def_mk KX G ?a ?l ?c ?k (fun _ _ _ _ _ _ us hl => match us, hl with | [_], _ => rfl); (case a => k_is); (case l => k_is); (case c => k_is); (case k => k_is)
    · refine' RX.def_mk KX G ?a ?l ?c ?k (fun _ _ _ _ _ _ us hl => match us, hl with | [_, _, _], _ => rfl); (case a => k_is); (case l => k_is); (case c => k_is); (case k => k_is)
    · refine' RX.def_mk KX G ?a ?l ?c ?k (fun _ _ _ _ _ _ us hl => match us, hl with | [_, _], _ => rfl); (case a => k_is); (case l => k_is); (case c => k_is); (case k => k_is)
    · refine' RX.def_mk KX G ?a ?l ?c ?k (fun _ _ _ _ _ _ us hl => match us, hl with | [_], _ => rfl); (case a => k_is); (case l => k_is); (case c => k_is); (case k => k_is)
    · refine' RX.def_mk KX G ?a ?l ?c ?k (fun _ _ _ _ _ _ us hl => match us, hl with | [_], _ => rfl); (case a => k_is); (case l => k_is); (case c => k_is); (case k => k_is)
    · refine' RX.def_mk KX G ?a ?l ?c ?k (fun _ _ _ _ _ _ us hl => match us, hl with | [_], _ => rfl); (case a => k_is); (case l => k_is); (case c => k_is); (case k => k_is)

end
