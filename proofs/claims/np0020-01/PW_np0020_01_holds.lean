import PyProof.Rows.All
import Wide.All
import OpenK.AllK
import Wide.FinOn
import PySem.Challenge.RW_np0020_01
open PySem PySem.W PyProof.Rows
set_option Elab.async false
namespace Mine
set_option maxRecDepth 100000 in
set_option maxHeartbeats 8000000 in
open_top hd for PySem.Challenge.rw_np0020_01
section
theorem fresh_NBase : True := by
  w_top off
  first | walk1 | skip
  trivial
abbrev PW : Program := PySem.Challenge.rw_np0020_01.row.prog
noncomputable abbrev KH (w : World) : Frag := hd.heap_39 w.params
def isDefOf (n : Str) : Stmt → Bool
  | .FunctionDef m _ _ _ _ _ _ _ _ _ => m == n
  | _ => false
def bodyOf (n : Str) : List Stmt := match PySem.Challenge.pw_np0020_01.main.body.find? (isDefOf n) with
  | some (.FunctionDef _ _ b _ _ _ _ _ _ _) => b
  | _ => []
def scopeOf (n : Str) : Scope := match PySem.Challenge.pw_np0020_01.main.body.find? (isDefOf n) with
  | some (.FunctionDef _ _ _ _ _ _ sc _ _ _) => sc
  | _ => default
def stOf (b : List Stmt) (i : Nat) : Stmt := b.getD i (.Pass default)
def forB : Stmt → List Stmt
  | .For _ _ b _ _ => b
  | _ => []
def lawBody : List Stmt := bodyOf (Str.ofString "law")
def turnBody : List Stmt := forB (stOf lawBody 1)
def againBody : List Stmt := forB (stOf turnBody 2)
def lawEnv (L fa : Addr) (cd : Value) : Env := envOfC (Str.ofString "law") (scopeOf (Str.ofString "law")) L fa cd
def lawA (L fa : Addr) (cd : Value) : Around := callerA.deeper (lawEnv L fa cd)
theorem filled : (PySem.Challenge.rw_np0020_01, hd.heap_39) = (PySem.Challenge.rw_np0020_01, hd.heap_39) := by
  k_fill
  rfl

abbrev tupO (vs : List Value) (n : Nat) : Obj := { cls := .type "tuple", data := .seq vs.toArray n }
abbrev hisO (k1 k2 k3 k4 k5 : Tok) (h1 h2 h3 h4 h5 : Int) (R : Nat) (d : Int) (dk : Tok) (n : Nat) : Obj :=
  dictOf [⟨h1, .str (Str.ofString "rows") k1, .ref R⟩, ⟨h2, .str (Str.ofString "dropped") k2, .int d dk⟩, ⟨h3, .str (Str.ofString "is_on") k3, .bool true⟩, ⟨h4, .str (Str.ofString "point_before") k4, .none⟩, ⟨h5, .str (Str.ofString "noted_tick") k5, .none⟩] n
abbrev pieO (hc hr : Int) (kc kr : Tok) (ca rr : Nat) (e : Nat) : Obj := dictOf [⟨hc, .str (Str.ofString "codes") kc, .ref ca⟩, ⟨hr, .str (Str.ofString "runs") kr, .ref rr⟩] e
theorem News.less {h₀ h : Heap} {L : Addr} {l l' : List (Addr × Obj)} (N : News h₀ L h l) (hs : ∀ p ∈ l', p ∈ l) : News h₀ L h l' := fun p hp => N p (hs p hp)
theorem tup_of {h₀ h : Heap} {L ra : Addr} {news : List (Addr × Obj)} {vs : List Value} {n : Nat} (N : News h₀ L h news) (hm : (ra, tupO vs n) ∈ news) : h.IsTuple ra vs.toArray := ⟨_, (N _ hm).1, rfl, n, rfl⟩
theorem bd_tup {w : World} {h : Heap} (X : (hd.heap_39 w.params).In h) : ∃ t, h.IsTuple 22 #[.str (Str.ofString "boundary") t] := by
  have e : (hd.heap_39 w.params).lookup 22 = some { cls := .type "tuple", data := .seq #[.str (Str.ofString "boundary") 196] } := by k_is
  exact ⟨_, _, X _ _ e, rfl, _, rfl⟩
inductive Drop (ds : List Nat) : List (Addr × Obj) → List (Addr × Obj) → Prop
  | tl {l} : OwnOff l ds → Drop ds l l
  | nil : Drop ds [] []
  | hit {a o l r} : a ∈ ds → Drop ds l r → Drop ds ((a, o) :: l) r
  | keep {a o l r} : (∀ b ∈ ds, @Ne Nat a b) → Drop ds l r → Drop ds ((a, o) :: l) ((a, o) :: r)
theorem Drop.off {ds : List Nat} {l r : List (Addr × Obj)} (h : Drop ds l r) : OwnOff r ds := by
  induction h with
  | tl h => exact h
  | nil => intro p hp; cases hp
  | hit _ _ ih => exact ih
  | keep h _ ih =>
    intro p hp
    rcases List.mem_cons.mp hp with rfl | hp
    · exact h
    · exact ih p hp
theorem Drop.sub {ds : List Nat} {l r : List (Addr × Obj)} (h : Drop ds l r) : ∀ p ∈ r, p ∈ l := by
  induction h with
  | tl h => exact fun p hp => hp
  | nil => exact fun p hp => hp
  | hit _ _ ih => exact fun p hp => .tail _ (ih p hp)
  | keep h _ ih =>
    intro p hp
    rcases List.mem_cons.mp hp with rfl | hp
    · exact .head _
    · exact .tail _ (ih p hp)
inductive RowIn (news : List (Addr × Obj)) (lim : Int) : Value → Nat → Prop
  | ins {ra n : Nat} {a b : Int} {t0 t1 t2 : Tok} (hm : (ra, tupO [.str (Str.ofString "insert") t0, .int a t1, .int b t2] n) ∈ news) (hb : b ≤ lim) : RowIn news lim (.ref ra) 1
  | del {ra n pa pd ca rr e cn : Nat} {st : Int} {q : Bool} {t0 t1 kc kr : Tok} {hc hr : Int} {cvs : List Value} (hm : (ra, tupO [.str (Str.ofString "delete") t0, .int st t1, .ref pa, .bool q] n) ∈ news)
      (hp : (pa, instObj 144 pd) ∈ news) (hd : (pd, pieO hc hr kc kr ca rr e) ∈ news) (hca : (ca, W.listOf cvs.toArray cn) ∈ news) (hz : cvs.length ≤ 4) : RowIn news lim (.ref ra) (1 + cvs.length)
theorem RowIn.mono {news news' : List (Addr × Obj)} {lim lim' : Int} {v : Value} {z : Nat} (h : RowIn news lim v z) (hs : ∀ p ∈ news, p ∈ news') (hl : lim ≤ lim') : RowIn news' lim' v z := by
  cases h with
  | ins hm hb => exact .ins (hs _ hm) (by omega)
  | del hm hp hd hca hz => exact .del (hs _ hm) (hs _ hp) (hs _ hd) (hs _ hca) hz
def LastOk (news : List (Addr × Obj)) (lim : Int) (rs : List Value) : Prop := rs = [] ∨ (∃ ys, rs = ys ++ [Value.ref 22]) ∨ ∃ ys v z, rs = ys ++ [v] ∧ RowIn news lim v z
theorem LastOk.mono {news news' : List (Addr × Obj)} {lim lim' : Int} {rs : List Value} (h : LastOk news lim rs) (hs : ∀ p ∈ news, p ∈ news') (hl : lim ≤ lim') : LastOk news' lim' rs := by
  rcases h with h | h | ⟨ys, v, z, h, r⟩
  · exact .inl h
  · exact .inr (.inl h)
  · exact .inr (.inr ⟨ys, v, z, h, r.mono hs hl⟩)
section
variable {prog : Program} {w : World} {A : Around} {E : Value → Shared → Prop} {s : Shared} {h₀ : Heap} {L ra : Addr} {m : Str → Option Value} {news : List (Addr × Obj)} {vs : List Value} {n : Nat} {x : Str} {xt : Tok} {Q : Value → Shared → Prop}
theorem eqAt_bd {t : Tok} : ∀ j (h1 : j < (Value.str x xt :: vs).toArray.size) (h2 : j < #[Value.str (Str.ofString "boundary") t].size), SeqAt.EqAt A.in1 s (Value.str x xt :: vs).toArray[j] #[Value.str (Str.ofString "boundary") t][j] (x == Str.ofString "boundary") := by
  intro j h1 h2
  have : j = 0 := by simp at h2; omega
  subst this
  exact SeqAt.EqAt.str_str _ _ _ _
theorem rc_bd_val (hx : (x == Str.ofString "boundary") = false) (a b : Nat) (ha : 0 < a) (hb : 0 < b) : ((List.range (min a b)).all (fun _ => (x == Str.ofString "boundary")) && a == b) = false := by
  have : 0 < min a b := by omega
  rw [hx]
  obtain ⟨k, hk⟩ := Nat.exists_eq_succ_of_ne_zero (Nat.ne_of_gt this)
  rw [hk, List.range_succ]; simp
theorem eq_bd (F : Fr h₀ L s.heap m) (X : (hd.heap_39 w.params).In h₀) (N : News h₀ L s.heap news) (hm : (ra, tupO (.str x xt :: vs) n) ∈ news) (hx : (x == Str.ofString "boundary") = false) (hu : A.units < cLine) (h : Q (.bool false) s) :
    wpAny (model prog w) A (compareOp .Eq (.ref ra) (.ref 22)) Q E s := by
  obtain ⟨t, ht⟩ := bd_tup (X.keeps F.keep)
  refine cmp_ofEq (SeqAt.RcAt.tuples (tup_of N hm) ht hu (e := fun _ => (x == Str.ofString "boundary")) eqAt_bd prog w E Q ?_)
  rw [rc_bd_val hx _ _ (by simp) (by simp)]
  exact h
theorem ne_bd (F : Fr h₀ L s.heap m) (X : (hd.heap_39 w.params).In h₀) (N : News h₀ L s.heap news) (hm : (ra, tupO (.str x xt :: vs) n) ∈ news) (hx : (x == Str.ofString "boundary") = false) (hu : A.units < cLine) (h : Q (.bool true) s) :
    wpAny (model prog w) A (compareOp .NotEq (.ref ra) (.ref 22)) Q E s := by
  obtain ⟨t, ht⟩ := bd_tup (X.keeps F.keep)
  refine cmp_ofNotEq (SeqAt.RcNeAt.tuples (tup_of N hm) ht hu (e := fun _ => (x == Str.ofString "boundary")) eqAt_bd prog w E Q ?_)
  rw [rc_bd_val hx _ _ (by simp) (by simp)]
  exact h
theorem eq_bdbd (F : Fr h₀ L s.heap m) (X : (hd.heap_39 w.params).In h₀) (hu : A.units < cLine) (h : Q (.bool true) s) :
    wpAny (model prog w) A (compareOp .Eq (.ref 22) (.ref 22)) Q E s := by
  obtain ⟨t, ht⟩ := bd_tup (X.keeps F.keep)
  exact cmp_ofEq (SeqAt.RcAt.tuples ht ht hu (e := fun _ => true) (fun j h1 h2 => SeqAt.EqAt.same _) prog w E Q (by simpa using h))
theorem ne_bdbd (F : Fr h₀ L s.heap m) (X : (hd.heap_39 w.params).In h₀) (hu : A.units < cLine) (h : Q (.bool false) s) :
    wpAny (model prog w) A (compareOp .NotEq (.ref 22) (.ref 22)) Q E s := by
  obtain ⟨t, ht⟩ := bd_tup (X.keeps F.keep)
  exact cmp_ofNotEq (SeqAt.RcNeAt.tuples ht ht hu (e := fun _ => true) (fun j h1 h2 => SeqAt.EqAt.same _) prog w E Q (by simpa using h))
theorem len_any {D : Addr} {ys : List Value} (N : News h₀ L s.heap news) (hm : (D, W.listOf ys.toArray n) ∈ news) (hz : ys.length < 100000) (h : Q (.int (ys.length : Int) (s.toks + 1)) { s with toks := s.toks + 1 + 1 }) :
    wpAny (model prog w) A (call (.builtin "len") [.ref D]) Q E s := by
  have hl : s.heap.IsList D ys.toArray := ⟨_, (N _ hm).1, rfl, n, rfl⟩
  exact len_list hl (by simp; omega) (by simpa using h)
theorem len_snoc {D : Addr} {ys : List Value} {v : Value} (N : News h₀ L s.heap news) (hm : (D, W.listOf (ys ++ [v]).toArray n) ∈ news) (hz : ys.length < 100000) (h : Q (.int ((ys.length : Int) + 1) (s.toks + 1)) { s with toks := s.toks + 1 + 1 }) :
    wpAny (model prog w) A (call (.builtin "len") [.ref D]) Q E s := by
  have hl : s.heap.IsList D (ys ++ [v]).toArray := ⟨_, (N _ hm).1, rfl, n, rfl⟩
  exact len_list hl (by simp; omega) (by simpa using h)
theorem last_item {D : Addr} {ys : List Value} {v : Value} {u : Tok} {value slice : PySem.Expr} (N : News h₀ L s.heap news) (hm : (D, W.listOf (ys ++ [v]).toArray n) ∈ news) (hz : ys.length < 100000) (h : Q v s)
    (hs : subscripted slice false (.ref D) (.int (-1) u) = operate [.ref D, .int (-1) u] (getItem (.ref D) (.int (-1) u)) := by with_unfolding_all rfl) :
    wpAny (model prog w) A (subscriptTail value slice (.ref D) (.int (-1) u)) Q E s := by
  have hl : s.heap.IsList D (ys ++ [v]).toArray := ⟨_, (N _ hm).1, rfl, n, rfl⟩
  refine tail_any hl.typeIs slot_list_getitem.lookup (wpAny_getItem_list_neg hl (by omega) (by simp; omega) (by omega) ?_ h) hs
  have e : (-1 + (((ys ++ [v]).toArray.size : Nat) : Int)).toNat = ys.length := by simp; omega
  rw [e]; simp
theorem For_nil {x name : Str} {scope : Scope} {a l : Addr} {cd : Value} {px pos : Pos} {target : PySem.Expr} {body : List Stmt} {Q : Flow → Shared → Prop} (hh : A.handled = none) (F : Fr h₀ L s.heap m) (N : News h₀ L s.heap news) (hv : m x = some (.ref l)) (hm : (l, W.listOf #[] n) ∈ news)
    (h : ∀ h', Fr h₀ L h' m → News h₀ L h' news → Q .next { s with heap := h' }) (hk : scope.kind = .function := by rfl) (hl : (envOf name scope L a cd).kindOf x = some .local := by rfl) (hd : (x == ("__debug__" : Str)) = false := by decide)
    (hs : ∀ x', foldedSetIterable (.Name x px) (envOf name scope L a cd) x' = pure x' := by intro _; rfl) :
    wpAny (model prog w) A (exec (.For target (.Name x px) body [] pos) (envOf name scope L a cd)) Q E s := by
  have hls : s.heap.IsList l #[] := ⟨_, (N _ hm).1, rfl, n, rfl⟩
  refine wpAny_For (ld F hv ?_ hk hl hd) hs
  refine wpAny_pyIter_list hls ?_
  have hit : (s.heap.push { cls := .type "list_iterator", data := .fields #[.ref l, .int 0 0] }).IsListIter s.heap.objs.size l 0 := ⟨_, Heap.get?_push_size _ rfl, rfl, rfl⟩
  refine codeAny_forLoop_any (fun _ s' => s' = { s with heap := s.heap.push { cls := .type "list_iterator", data := .fields #[.ref l, .int 0 0] } }) ?_ 0 rfl
  rintro k s' rfl
  refine wpAny_pyNext_list_end hh hit (hls.at fun o e => Heap.get?_push_of_some _ e) (by simp) fun h' hx => ?_
  refine wpAny_execs_nil (h h' ?_ ?_)
  · exact ⟨(F.push _).ns.extBut hx (Nat.ne_of_lt F.ns.lt), fun b o e => hx b o (Nat.ne_of_lt (Heap.lt_size (F.keep b o e))) (Heap.get?_push_of_some _ (F.keep b o e)), F.above⟩
  · intro p hp
    exact ⟨hx _ _ (Nat.ne_of_lt (Heap.lt_size (N p hp).1)) (Heap.get?_push_of_some _ (N p hp).1), (N p hp).2⟩
end
end
section
theorem fresh_NDraw : True := by
  w_top off
  first | walk1 | skip
  trivial
theorem pop0 {prog : Program} {w : World} {A : Around} {E : Value → Shared → Prop} {s : Shared} {h₀ : Heap} {L D : Addr} {m : Str → Option Value} {news news' : List (Addr × Obj)} {n : Nat} {v : Value} {bs : List Value} {u : Tok} {Q : Value → Shared → Prop}
    (F : Fr h₀ L s.heap m) (N : News h₀ L s.heap news) (U : Upd D (W.listOf (v :: bs).toArray n) (W.listOf bs.toArray (n + 1)) news news') (hz : bs.length ≤ 21)
    (h : ∀ h', Fr h₀ L h' m → News h₀ L h' news' → Q v { s with heap := h' }) : wpAny (model prog w) A (call (.builtin "list.pop") [.ref D, .int 0 u]) Q E s :=
  kl_popAt (p := []) (q := bs) (y := v) (k := 0) F N rfl (by simp [seqIndex?]) rfl U (by rw [sizeLine_eq]; simp; omega) h
set_option maxRecDepth 100000
set_option maxHeartbeats 2000000 in
theorem draw_nil {w : World} {p : Program} {loose : List Str} {mean : ExcName → Option Value} {mg mb : Str → Option Value} {g : Heap} {L fa D B C : Nat} {cd : Value} {m : Str → Option Value} {s : Shared} {Q E : Value → Shared → Prop}
    {k many : Int} {kt mt : Tok} {dn bn cn : Nat} {cs : List Value} {ms : List Int} {tl : List (Addr × Obj)}
    (X : (hd.heap_39 w.params).In g) (T : Top p loose mean mg mb g) (K0 : Below callerA g [] g) (F : Fr g L s.heap m)
    (N : News g L s.heap ((D, W.listOf #[.ref B, .ref C, .int k kt] dn) :: (B, W.listOf #[] bn) :: (C, W.listOf cs.toArray cn) :: tl))
    (hDB : D ≠ B) (hDC : D ≠ C) (hBC : B ≠ C) (htl : OwnOff tl [D, B])
    (hI : IntsAre cs ms) (hms : 0 < ms.length) (hcl : ms.length ≤ 21) (hm : 0 < many) (hm' : many < 100)
    (ret : ∀ h' r t k' kt' tk', Fr g L h' m → News g L h' ((D, W.listOf #[.ref B, .ref C, .int k' kt'] dn) :: (B, W.listOf #[] bn) :: (C, W.listOf cs.toArray cn) :: tl) → 0 ≤ r → r < many → Q (.int r t) { s with heap := h', toks := tk' }) :
    wpAny (model PW w) (lawA L fa cd) (call (.ref 167) [.ref D, .int many mt]) Q E s := by
  unfold lawA lawEnv
  repeat' (first | (k_unfold; (try dsimp only)) | (k_end; wrow_close) | ((try dsimp only); first | w_nolog (with_reducible ((with_reducible show wpAny _ _ (call (Value.builtin _) _) _ _ _); (k_here; k_dflt (refine' pop0 ?F ?N ?U ?z ?_; (case F => k_asm); (case N => k_asm); (case U => k_upd); (case z => k_asm)); kl_rest))) | walk1) | walk1 | (leave1; walk_say "STEP leave1"; try dsimp only) | fail "no step")

  rename Fr _ _ _ _ => kF
  rename News _ _ _ _ => kN
  exact ret _ _ _ _ _ _ kF (News.less kN fun p hp => .tail _ hp) (Int.fmod_nonneg_of_pos _ hm) (Int.fmod_lt_of_pos _ hm)
theorem ne_cons {prog : Program} {w : World} {A : Around} {E Q : Value → Shared → Prop} {s : Shared} {h₀ : Heap} {L a b n n' : Nat} {news : List (Addr × Obj)} {v : Value} {vs : List Value}
    (N : News h₀ L s.heap news) (h1 : (a, W.listOf (v :: vs).toArray n) ∈ news) (h2 : (b, W.listOf #[] n') ∈ news) (hu : A.units < cLine) (h : Q (.bool true) s) : wpAny (model prog w) A (compareOp .NotEq (.ref a) (.ref b)) Q E s :=
  cmp_ofNotEq (SeqAt.RcNeAt.lists_lengths ⟨_, (N _ h1).1, rfl, n, rfl⟩ ⟨_, (N _ h2).1, rfl, n', rfl⟩ (by simp) hu prog w E Q h)
set_option maxHeartbeats 2000000 in
theorem draw_cons {w : World} {p : Program} {loose : List Str} {mean : ExcName → Option Value} {mg mb : Str → Option Value} {g : Heap} {L fa D B C : Nat} {cd : Value} {m : Str → Option Value} {s : Shared} {Q E : Value → Shared → Prop}
    {k many b : Int} {kt mt bt : Tok} {dn bn cn : Nat} {cs bs : List Value} {ms ns : List Int} {tl : List (Addr × Obj)}
    (X : (hd.heap_39 w.params).In g) (T : Top p loose mean mg mb g) (K0 : Below callerA g [] g) (F : Fr g L s.heap m)
    (N : News g L s.heap ((D, W.listOf #[.ref B, .ref C, .int k kt] dn) :: (B, W.listOf (Value.int b bt :: bs).toArray bn) :: (C, W.listOf cs.toArray cn) :: tl))
    (hDB : D ≠ B) (hDC : D ≠ C) (hBC : B ≠ C) (htl : OwnOff tl [D, B])
    (hI : IntsAre cs ms) (hms : 0 < ms.length) (hB : IntsAre bs ns) (hbl : ns.length ≤ 20) (hbl' : bs.length ≤ 21) (hcl : ms.length ≤ 21) (hm : 0 < many) (hm' : many < 100)
    (ret : ∀ h' r t k' kt' tk' bs' ns' bn', Fr g L h' m → News g L h' ((D, W.listOf #[.ref B, .ref C, .int k' kt'] dn) :: (B, W.listOf bs'.toArray bn') :: (C, W.listOf cs.toArray cn) :: tl) → IntsAre bs' ns' → ns'.length ≤ 21 →  0 ≤ r → r < many → Q (.int r t) { s with heap := h', toks := tk' }) :
    wpAny (model PW w) (lawA L fa cd) (call (.ref 167) [.ref D, .int many mt]) Q E s := by
  unfold lawA lawEnv
  have hI2 := IntsAre.cons b bt hB
  repeat' (first | (k_unfold; (try dsimp only)) | (k_end; wrow_close) | ((try dsimp only); first | w_nolog (with_reducible (k_here; (with_reducible show wpAny _ _ (compareOp CmpOp.NotEq (Value.ref _) (Value.ref _)) _ _ _); k_dflt (refine' ne_cons ?N ?a ?b ?u ?_; (case N => k_asm); (case a => k_mem); (case b => k_mem); (case u => k_units); k_whole))) | w_nolog (with_reducible ((with_reducible show wpAny _ _ (call (Value.builtin _) _) _ _ _); (k_here; k_dflt (refine' pop0 ?F ?N ?U ?z ?_; (case F => k_asm); (case N => k_asm); (case U => k_upd); (case z => k_asm)); kl_rest))) | walk1) | walk1 | (leave1; walk_say "STEP leave1"; try dsimp only) | fail "no step")
  all_goals try (rename decide _ = true => hbad; exact absurd (of_decide_eq_true hbad) (by simp))
  all_goals (rename Fr _ _ _ _ => kF; rename News _ _ _ _ => kN)
  · exact ret _ _ _ _ _ _ _ _ _ kF (News.less kN fun p hp => .tail _ hp) hB (by omega) (Int.fmod_nonneg_of_pos _ hm) (Int.fmod_lt_of_pos _ hm)
  · exact ret _ _ _ _ _ _ _ _ _ kF (News.less kN fun p hp => .tail _ hp) (.cons _ _ hB) (by simp; omega) (Int.fmod_nonneg_of_pos _ hm) (Int.fmod_lt_of_pos _ hm)
end
section
theorem fresh_NFun : True := by
  w_top off
  first | walk1 | skip
  trivial
set_option maxRecDepth 100000
section
variable {w : World} {p : Program} {loose : List Str} {mean : ExcName → Option Value} {mg mb : Str → Option Value} {g : Heap} {L fa H Hd R : Nat} {cd : Value} {m : Str → Option Value} {s : Shared} {Q E : Value → Shared → Prop}
  {k1 k2 k3 k4 k5 dk : Tok} {h1 h2 h3 h4 h5 d : Int} {hn rn : Nat} {tl : List (Addr × Obj)}
set_option maxHeartbeats 600000 in
theorem boundary_nil
    (X : (hd.heap_39 w.params).In g) (T : Top p loose mean mg mb g) (K0 : Below callerA g [] g) (F : Fr g L s.heap m)
    (N : News g L s.heap ((H, instObj 109 Hd) :: (Hd, hisO k1 k2 k3 k4 k5 h1 h2 h3 h4 h5 R d dk hn) :: (R, W.listOf #[] rn) :: tl))
    (htl : OwnOff tl [H, Hd, R])
    (ret : ∀ h' tk', Fr g L h' m → News g L h' ((H, instObj 109 Hd) :: (Hd, hisO k1 k2 k3 k4 k5 h1 h2 h3 h4 h5 R d dk hn) :: (R, W.listOf #[] rn) :: tl) → Q .none { s with heap := h', toks := tk' }) :
    wpAny (model PW w) (lawA L fa cd) (call (.ref 57) [.ref H]) Q E s := by
  unfold lawA lawEnv
  repeat' (first | (k_unfold; (try dsimp only)) | (k_end; wrow_close) | ((try dsimp only); first | w_nolog (with_reducible (k_here; (with_reducible show wpAny _ _ (call (Value.builtin "len") [Value.ref _]) _ _ _); k_dflt (first | (refine' len_snoc ?N ?m ?z ?_; (case N => k_asm); (case m => k_mem); (case z => k_asm); k_whole) | (refine' len_any ?N ?m ?z ?_; (case N => k_asm); (case m => k_mem); (case z => k_asm); k_whole)))) | w_nolog (with_reducible (k_here; (with_reducible show wpAny _ _ (subscriptTail _ _ (Value.ref _) (Value.int (-1) _)) _ _ _); k_dflt (refine' last_item ?N ?m ?z ?_ ?k; (case N => k_asm); (case m => k_mem); (case z => k_asm); (case k => with_unfolding_all rfl); k_whole))) | w_nolog (with_reducible (k_here; (with_reducible show wpAny _ _ (compareOp CmpOp.Eq (Value.ref _) (Value.ref _)) _ _ _); k_dflt (first | (refine' eq_bdbd ?F ?X ?u ?_; (case F => k_asm); (case X => k_asm); (case u => k_units); k_whole) | (refine' eq_bd ?F ?X ?N ?m ?x ?u ?_; (case F => k_asm); (case X => k_asm); (case N => k_asm); (case m => k_mem); (case x => first | assumption | decide); (case u => k_units); k_whole)))) | walk1) | walk1 | (leave1; walk_say "STEP leave1"; try dsimp only) | fail "no step")
  all_goals first | (exfalso; omega) | (rename Fr _ _ _ _ => kF; rename News _ _ _ _ => kN; (try rw [List.push_toArray] at kN); exact ret _ _ kF kN)
set_option maxHeartbeats 600000 in
theorem boundary_bd {ys : List Value}
    (X : (hd.heap_39 w.params).In g) (T : Top p loose mean mg mb g) (K0 : Below callerA g [] g) (F : Fr g L s.heap m)
    (N : News g L s.heap ((H, instObj 109 Hd) :: (Hd, hisO k1 k2 k3 k4 k5 h1 h2 h3 h4 h5 R d dk hn) :: (R, W.listOf (ys ++ [Value.ref 22]).toArray rn) :: tl))
    (htl : OwnOff tl [H, Hd, R]) (hz : ys.length < 100000)
    (ret : ∀ h' tk', Fr g L h' m → News g L h' ((H, instObj 109 Hd) :: (Hd, hisO k1 k2 k3 k4 k5 h1 h2 h3 h4 h5 R d dk hn) :: (R, W.listOf (ys ++ [Value.ref 22]).toArray rn) :: tl) → Q .none { s with heap := h', toks := tk' }) :
    wpAny (model PW w) (lawA L fa cd) (call (.ref 57) [.ref H]) Q E s := by
  unfold lawA lawEnv
  repeat' (first | (k_unfold; (try dsimp only)) | (k_end; wrow_close) | ((try dsimp only); first | w_nolog (with_reducible (k_here; (with_reducible show wpAny _ _ (call (Value.builtin "len") [Value.ref _]) _ _ _); k_dflt (first | (refine' len_snoc ?N ?m ?z ?_; (case N => k_asm); (case m => k_mem); (case z => k_asm); k_whole) | (refine' len_any ?N ?m ?z ?_; (case N => k_asm); (case m => k_mem); (case z => k_asm); k_whole)))) | w_nolog (with_reducible (k_here; (with_reducible show wpAny _ _ (subscriptTail _ _ (Value.ref _) (Value.int (-1) _)) _ _ _); k_dflt (refine' last_item ?N ?m ?z ?_ ?k; (case N => k_asm); (case m => k_mem); (case z => k_asm); (case k => with_unfolding_all rfl); k_whole))) | w_nolog (with_reducible (k_here; (with_reducible show wpAny _ _ (compareOp CmpOp.Eq (Value.ref _) (Value.ref _)) _ _ _); k_dflt (first | (refine' eq_bdbd ?F ?X ?u ?_; (case F => k_asm); (case X => k_asm); (case u => k_units); k_whole) | (refine' eq_bd ?F ?X ?N ?m ?x ?u ?_; (case F => k_asm); (case X => k_asm); (case N => k_asm); (case m => k_mem); (case x => first | assumption | decide); (case u => k_units); k_whole)))) | walk1) | walk1 | (leave1; walk_say "STEP leave1"; try dsimp only) | fail "no step")
  all_goals first | (exfalso; omega) | (rename Fr _ _ _ _ => kF; rename News _ _ _ _ => kN; (try rw [List.push_toArray] at kN); exact ret _ _ kF kN)
set_option maxHeartbeats 600000 in
theorem boundary_row {ys vs : List Value} {ra en : Nat} {x : Str} {xt : Tok}
    (X : (hd.heap_39 w.params).In g) (T : Top p loose mean mg mb g) (K0 : Below callerA g [] g) (F : Fr g L s.heap m)
    (N : News g L s.heap ((H, instObj 109 Hd) :: (Hd, hisO k1 k2 k3 k4 k5 h1 h2 h3 h4 h5 R d dk hn) :: (R, W.listOf (ys ++ [Value.ref ra]).toArray rn) :: (ra, tupO (Value.str x xt :: vs) en) :: tl))
    (hx : (x == Str.ofString "boundary") = false) (htl : OwnOff tl [H, Hd, R]) (hz : ys.length < 100000) (hR : ra ≠ R) (hRH : R ≠ H) (hRd : R ≠ Hd)
    (ret : ∀ h' tk', Fr g L h' m → News g L h' ((H, instObj 109 Hd) :: (Hd, hisO k1 k2 k3 k4 k5 h1 h2 h3 h4 h5 R d dk hn) :: (R, W.listOf (ys ++ [Value.ref ra] ++ [Value.ref 22]).toArray (rn + 1)) :: (ra, tupO (Value.str x xt :: vs) en) :: tl) → Q .none { s with heap := h', toks := tk' }) :
    wpAny (model PW w) (lawA L fa cd) (call (.ref 57) [.ref H]) Q E s := by
  unfold lawA lawEnv
  repeat' (first | (k_unfold; (try dsimp only)) | (k_end; wrow_close) | ((try dsimp only); first | w_nolog (with_reducible (k_here; (with_reducible show wpAny _ _ (call (Value.builtin "len") [Value.ref _]) _ _ _); k_dflt (first | (refine' len_snoc ?N ?m ?z ?_; (case N => k_asm); (case m => k_mem); (case z => k_asm); k_whole) | (refine' len_any ?N ?m ?z ?_; (case N => k_asm); (case m => k_mem); (case z => k_asm); k_whole)))) | w_nolog (with_reducible (k_here; (with_reducible show wpAny _ _ (subscriptTail _ _ (Value.ref _) (Value.int (-1) _)) _ _ _); k_dflt (refine' last_item ?N ?m ?z ?_ ?k; (case N => k_asm); (case m => k_mem); (case z => k_asm); (case k => with_unfolding_all rfl); k_whole))) | w_nolog (with_reducible (k_here; (with_reducible show wpAny _ _ (compareOp CmpOp.Eq (Value.ref _) (Value.ref _)) _ _ _); k_dflt (first | (refine' eq_bdbd ?F ?X ?u ?_; (case F => k_asm); (case X => k_asm); (case u => k_units); k_whole) | (refine' eq_bd ?F ?X ?N ?m ?x ?u ?_; (case F => k_asm); (case X => k_asm); (case N => k_asm); (case m => k_mem); (case x => first | assumption | decide); (case u => k_units); k_whole)))) | walk1) | walk1 | (leave1; walk_say "STEP leave1"; try dsimp only) | fail "no step")
  all_goals first | (exfalso; omega) | (rename Fr _ _ _ _ => kF; rename News _ _ _ _ => kN; (try rw [List.push_toArray] at kN); exact ret _ _ kF kN)

set_option maxHeartbeats 600000 in
theorem insert_nil {st mn po tk0 : Int} {t1 t2 t3 t4 : Tok}
    (X : (hd.heap_39 w.params).In g) (T : Top p loose mean mg mb g) (K0 : Below callerA g [] g) (F : Fr g L s.heap m)
    (N : News g L s.heap ((H, instObj 109 Hd) :: (Hd, hisO k1 k2 k3 k4 k5 h1 h2 h3 h4 h5 R d dk hn) :: (R, W.listOf (([] : List Value)).toArray rn) :: tl))
    (htl : OwnOff tl [H, Hd, R]) (hRH : R ≠ H) (hRd : R ≠ Hd) (hm1 : 1 ≤ mn) (hm4 : mn ≤ 4)
    (ret : ∀ (h' : Heap) (tk' nr : Nat) (u1 u2 u3 : Tok), Fr g L h' m → News g L h' ((nr, tupO [.str (Str.ofString "insert") u1, .int st u2, .int (st + mn) u3] 0) :: (H, instObj 109 Hd) :: (Hd, hisO k1 k2 k3 k4 k5 h1 h2 h3 h4 h5 R d dk hn) :: (R, W.listOf (([] : List Value) ++ [Value.ref nr]).toArray (rn + 1)) :: tl) → R < nr → H < nr → Hd < nr → AllLt nr tl → Q .none { s with heap := h', toks := tk' }) :
    wpAny (model PW w) (lawA L fa cd) (call (.ref 78) [.ref H, .int st t1, .int mn t2, .int po t3, .bool true, .int tk0 t4]) Q E s := by
  unfold lawA lawEnv
  repeat' (first | (k_unfold; (try dsimp only)) | (k_end; wrow_close) | ((try dsimp only); first | w_nolog (with_reducible (k_here; (with_reducible show wpAny _ _ (call (Value.builtin "len") [Value.ref _]) _ _ _); k_dflt (first | (refine' len_snoc ?N ?m ?z ?_; (case N => k_asm); (case m => k_mem); (case z => k_asm); k_whole) | (refine' len_any ?N ?m ?z ?_; (case N => k_asm); (case m => k_mem); (case z => k_asm); k_whole)))) | w_nolog (with_reducible (k_here; (with_reducible show wpAny _ _ (subscriptTail _ _ (Value.ref _) (Value.int (-1) _)) _ _ _); k_dflt (refine' last_item ?N ?m ?z ?_ ?k; (case N => k_asm); (case m => k_mem); (case z => k_asm); (case k => with_unfolding_all rfl); k_whole))) | w_nolog (with_reducible (k_here; (with_reducible show wpAny _ _ (compareOp CmpOp.Eq (Value.ref _) (Value.ref _)) _ _ _); k_dflt (first | (refine' eq_bdbd ?F ?X ?u ?_; (case F => k_asm); (case X => k_asm); (case u => k_units); k_whole) | (refine' eq_bd ?F ?X ?N ?m ?x ?u ?_; (case F => k_asm); (case X => k_asm); (case N => k_asm); (case m => k_mem); (case x => first | assumption | decide); (case u => k_units); k_whole)))) | walk1) | walk1 | (leave1; walk_say "STEP leave1"; try dsimp only) | fail "no step")
  all_goals first | (exfalso; omega) | (rename Fr _ _ _ _ => kF; rename News _ _ _ _ => kN; (try rw [List.push_toArray] at kN); exact ret _ _ _ _ _ _ kF kN (by omega) (by omega) (by omega) (by obtain ⟨_, _, _, h9⟩ := ‹_ < _ ∧ _ < _ ∧ _ < _ ∧ _›; first | exact h9 | exact h9.2))

set_option maxHeartbeats 600000 in
theorem insert_bd {ys : List Value} {st mn po tk0 : Int} {t1 t2 t3 t4 : Tok}
    (X : (hd.heap_39 w.params).In g) (T : Top p loose mean mg mb g) (K0 : Below callerA g [] g) (F : Fr g L s.heap m)
    (N : News g L s.heap ((H, instObj 109 Hd) :: (Hd, hisO k1 k2 k3 k4 k5 h1 h2 h3 h4 h5 R d dk hn) :: (R, W.listOf (ys ++ [Value.ref 22]).toArray rn) :: tl))
    (hz : ys.length < 100000) (htl : OwnOff tl [H, Hd, R]) (hRH : R ≠ H) (hRd : R ≠ Hd) (hm1 : 1 ≤ mn) (hm4 : mn ≤ 4)
    (ret : ∀ (h' : Heap) (tk' nr : Nat) (u1 u2 u3 : Tok), Fr g L h' m → News g L h' ((nr, tupO [.str (Str.ofString "insert") u1, .int st u2, .int (st + mn) u3] 0) :: (H, instObj 109 Hd) :: (Hd, hisO k1 k2 k3 k4 k5 h1 h2 h3 h4 h5 R d dk hn) :: (R, W.listOf (ys ++ [Value.ref 22] ++ [Value.ref nr]).toArray (rn + 1)) :: tl) → R < nr → H < nr → Hd < nr → AllLt nr tl → Q .none { s with heap := h', toks := tk' }) :
    wpAny (model PW w) (lawA L fa cd) (call (.ref 78) [.ref H, .int st t1, .int mn t2, .int po t3, .bool true, .int tk0 t4]) Q E s := by
  unfold lawA lawEnv
  repeat' (first | (k_unfold; (try dsimp only)) | (k_end; wrow_close) | ((try dsimp only); first | w_nolog (with_reducible (k_here; (with_reducible show wpAny _ _ (call (Value.builtin "len") [Value.ref _]) _ _ _); k_dflt (first | (refine' len_snoc ?N ?m ?z ?_; (case N => k_asm); (case m => k_mem); (case z => k_asm); k_whole) | (refine' len_any ?N ?m ?z ?_; (case N => k_asm); (case m => k_mem); (case z => k_asm); k_whole)))) | w_nolog (with_reducible (k_here; (with_reducible show wpAny _ _ (subscriptTail _ _ (Value.ref _) (Value.int (-1) _)) _ _ _); k_dflt (refine' last_item ?N ?m ?z ?_ ?k; (case N => k_asm); (case m => k_mem); (case z => k_asm); (case k => with_unfolding_all rfl); k_whole))) | w_nolog (with_reducible (k_here; (with_reducible show wpAny _ _ (compareOp CmpOp.Eq (Value.ref _) (Value.ref _)) _ _ _); k_dflt (first | (refine' eq_bdbd ?F ?X ?u ?_; (case F => k_asm); (case X => k_asm); (case u => k_units); k_whole) | (refine' eq_bd ?F ?X ?N ?m ?x ?u ?_; (case F => k_asm); (case X => k_asm); (case N => k_asm); (case m => k_mem); (case x => first | assumption | decide); (case u => k_units); k_whole)))) | walk1) | walk1 | (leave1; walk_say "STEP leave1"; try dsimp only) | fail "no step")
  all_goals first | (exfalso; omega) | (rename Fr _ _ _ _ => kF; rename News _ _ _ _ => kN; (try rw [List.push_toArray] at kN); exact ret _ _ _ _ _ _ kF kN (by omega) (by omega) (by omega) (by obtain ⟨_, _, _, h9⟩ := ‹_ < _ ∧ _ < _ ∧ _ < _ ∧ _›; first | exact h9 | exact h9.2))

set_option maxHeartbeats 600000 in
theorem insert_ins {ys : List Value} {ra en : Nat} {a b : Int} {i0 i1 i2 : Tok} {st mn po tk0 : Int} {t1 t2 t3 t4 : Tok}
    (X : (hd.heap_39 w.params).In g) (T : Top p loose mean mg mb g) (K0 : Below callerA g [] g) (F : Fr g L s.heap m)
    (N : News g L s.heap ((H, instObj 109 Hd) :: (Hd, hisO k1 k2 k3 k4 k5 h1 h2 h3 h4 h5 R d dk hn) :: (R, W.listOf (ys ++ [Value.ref ra]).toArray rn) :: (ra, tupO [.str (Str.ofString "insert") i0, .int a i1, .int b i2] en) :: tl))
    (hz : ys.length < 100000) (hR : ra ≠ R) (hb : b < st) (htl : OwnOff tl [H, Hd, R]) (hRH : R ≠ H) (hRd : R ≠ Hd) (hm1 : 1 ≤ mn) (hm4 : mn ≤ 4)
    (ret : ∀ (h' : Heap) (tk' nr : Nat) (u1 u2 u3 : Tok), Fr g L h' m → News g L h' ((nr, tupO [.str (Str.ofString "insert") u1, .int st u2, .int (st + mn) u3] 0) :: (H, instObj 109 Hd) :: (Hd, hisO k1 k2 k3 k4 k5 h1 h2 h3 h4 h5 R d dk hn) :: (R, W.listOf (ys ++ [Value.ref ra] ++ [Value.ref nr]).toArray (rn + 1)) :: (ra, tupO [.str (Str.ofString "insert") i0, .int a i1, .int b i2] en) :: tl) → R < nr → H < nr → Hd < nr → AllLt nr tl → Q .none { s with heap := h', toks := tk' }) :
    wpAny (model PW w) (lawA L fa cd) (call (.ref 78) [.ref H, .int st t1, .int mn t2, .int po t3, .bool true, .int tk0 t4]) Q E s := by
  unfold lawA lawEnv
  repeat' (first | (k_unfold; (try dsimp only)) | (k_end; wrow_close) | ((try dsimp only); first | w_nolog (with_reducible (k_here; (with_reducible show wpAny _ _ (call (Value.builtin "len") [Value.ref _]) _ _ _); k_dflt (first | (refine' len_snoc ?N ?m ?z ?_; (case N => k_asm); (case m => k_mem); (case z => k_asm); k_whole) | (refine' len_any ?N ?m ?z ?_; (case N => k_asm); (case m => k_mem); (case z => k_asm); k_whole)))) | w_nolog (with_reducible (k_here; (with_reducible show wpAny _ _ (subscriptTail _ _ (Value.ref _) (Value.int (-1) _)) _ _ _); k_dflt (refine' last_item ?N ?m ?z ?_ ?k; (case N => k_asm); (case m => k_mem); (case z => k_asm); (case k => with_unfolding_all rfl); k_whole))) | w_nolog (with_reducible (k_here; (with_reducible show wpAny _ _ (compareOp CmpOp.Eq (Value.ref _) (Value.ref _)) _ _ _); k_dflt (first | (refine' eq_bdbd ?F ?X ?u ?_; (case F => k_asm); (case X => k_asm); (case u => k_units); k_whole) | (refine' eq_bd ?F ?X ?N ?m ?x ?u ?_; (case F => k_asm); (case X => k_asm); (case N => k_asm); (case m => k_mem); (case x => first | assumption | decide); (case u => k_units); k_whole)))) | walk1) | walk1 | (leave1; walk_say "STEP leave1"; try dsimp only) | fail "no step")
  all_goals first | (exfalso; omega) | (rename Fr _ _ _ _ => kF; rename News _ _ _ _ => kN; (try rw [List.push_toArray] at kN); exact ret _ _ _ _ _ _ kF kN (by omega) (by omega) (by omega) (by obtain ⟨_, _, _, h9⟩ := ‹_ < _ ∧ _ < _ ∧ _ < _ ∧ _›; first | exact h9 | exact h9.2))

set_option maxHeartbeats 600000 in
theorem insert_del {ys : List Value} {ra en : Nat} {a : Int} {pv qv : Value} {i0 i1 : Tok} {st mn po tk0 : Int} {t1 t2 t3 t4 : Tok}
    (X : (hd.heap_39 w.params).In g) (T : Top p loose mean mg mb g) (K0 : Below callerA g [] g) (F : Fr g L s.heap m)
    (N : News g L s.heap ((H, instObj 109 Hd) :: (Hd, hisO k1 k2 k3 k4 k5 h1 h2 h3 h4 h5 R d dk hn) :: (R, W.listOf (ys ++ [Value.ref ra]).toArray rn) :: (ra, tupO [.str (Str.ofString "delete") i0, .int a i1, pv, qv] en) :: tl))
    (hz : ys.length < 100000) (hR : ra ≠ R) (htl : OwnOff tl [H, Hd, R]) (hRH : R ≠ H) (hRd : R ≠ Hd) (hm1 : 1 ≤ mn) (hm4 : mn ≤ 4)
    (ret : ∀ (h' : Heap) (tk' nr : Nat) (u1 u2 u3 : Tok), Fr g L h' m → News g L h' ((nr, tupO [.str (Str.ofString "insert") u1, .int st u2, .int (st + mn) u3] 0) :: (H, instObj 109 Hd) :: (Hd, hisO k1 k2 k3 k4 k5 h1 h2 h3 h4 h5 R d dk hn) :: (R, W.listOf (ys ++ [Value.ref ra] ++ [Value.ref nr]).toArray (rn + 1)) :: (ra, tupO [.str (Str.ofString "delete") i0, .int a i1, pv, qv] en) :: tl) → R < nr → H < nr → Hd < nr → AllLt nr tl → Q .none { s with heap := h', toks := tk' }) :
    wpAny (model PW w) (lawA L fa cd) (call (.ref 78) [.ref H, .int st t1, .int mn t2, .int po t3, .bool true, .int tk0 t4]) Q E s := by
  unfold lawA lawEnv
  repeat' (first | (k_unfold; (try dsimp only)) | (k_end; wrow_close) | ((try dsimp only); first | w_nolog (with_reducible (k_here; (with_reducible show wpAny _ _ (call (Value.builtin "len") [Value.ref _]) _ _ _); k_dflt (first | (refine' len_snoc ?N ?m ?z ?_; (case N => k_asm); (case m => k_mem); (case z => k_asm); k_whole) | (refine' len_any ?N ?m ?z ?_; (case N => k_asm); (case m => k_mem); (case z => k_asm); k_whole)))) | w_nolog (with_reducible (k_here; (with_reducible show wpAny _ _ (subscriptTail _ _ (Value.ref _) (Value.int (-1) _)) _ _ _); k_dflt (refine' last_item ?N ?m ?z ?_ ?k; (case N => k_asm); (case m => k_mem); (case z => k_asm); (case k => with_unfolding_all rfl); k_whole))) | w_nolog (with_reducible (k_here; (with_reducible show wpAny _ _ (compareOp CmpOp.Eq (Value.ref _) (Value.ref _)) _ _ _); k_dflt (first | (refine' eq_bdbd ?F ?X ?u ?_; (case F => k_asm); (case X => k_asm); (case u => k_units); k_whole) | (refine' eq_bd ?F ?X ?N ?m ?x ?u ?_; (case F => k_asm); (case X => k_asm); (case N => k_asm); (case m => k_mem); (case x => first | assumption | decide); (case u => k_units); k_whole)))) | walk1) | walk1 | (leave1; walk_say "STEP leave1"; try dsimp only) | fail "no step")
  all_goals first | (exfalso; omega) | (rename Fr _ _ _ _ => kF; rename News _ _ _ _ => kN; (try rw [List.push_toArray] at kN); exact ret _ _ _ _ _ _ kF kN (by omega) (by omega) (by omega) (by obtain ⟨_, _, _, h9⟩ := ‹_ < _ ∧ _ < _ ∧ _ < _ ∧ _›; first | exact h9 | exact h9.2))
end
end
section
theorem fresh_NDel : True := by
  w_top off
  first | walk1 | skip
  trivial
set_option maxRecDepth 100000
section
variable {w : World} {p : Program} {loose : List Str} {mean : ExcName → Option Value} {mg mb : Str → Option Value} {g : Heap} {L fa H Hd R : Nat} {cd : Value} {m : Str → Option Value} {s : Shared} {Q E : Value → Shared → Prop}
  {k1 k2 k3 k4 k5 dk : Tok} {h1 h2 h3 h4 h5 d : Int} {hn rn : Nat} {tl : List (Addr × Obj)}

set_option maxHeartbeats 1000000 in
theorem delete_nil {st po tk0 : Int} {t1 t3 t4 : Tok} {pa pd ca rr ma e cn man : Nat} {hc hr : Int} {kc kr : Tok} {cvs : List Value}
    (X : (hd.heap_39 w.params).In g) (T : Top p loose mean mg mb g) (K0 : Below callerA g [] g) (F : Fr g L s.heap m)
    (N : News g L s.heap ((ma, W.listOf #[] man) :: (pa, instObj 144 pd) :: (pd, pieO hc hr kc kr ca rr e) :: (ca, W.listOf cvs.toArray cn) :: (H, instObj 109 Hd) :: (Hd, hisO k1 k2 k3 k4 k5 h1 h2 h3 h4 h5 R d dk hn) :: (R, W.listOf (([] : List Value)).toArray rn) :: tl))
    (htl : OwnOff tl [H, Hd, R]) (hRH : R ≠ H) (hRd : R ≠ Hd) (hc0 : 0 < cvs.length) (hc4 : cvs.length < 100000) (n1 : ma ≠ R) (n2 : pa ≠ R) (n3 : pd ≠ R) (n4 : ca ≠ R)
    (ret : ∀ (h' : Heap) (tk' nr : Nat) (u1 : Tok) (q : Bool), Fr g L h' m → News g L h' ((nr, tupO [.str (Str.ofString "delete") u1, .int st t1, .ref pa, .bool q] 0) :: (ma, W.listOf #[] man) :: (pa, instObj 144 pd) :: (pd, pieO hc hr kc kr ca rr e) :: (ca, W.listOf cvs.toArray cn) :: (H, instObj 109 Hd) :: (Hd, hisO k1 k2 k3 k4 k5 h1 h2 h3 h4 h5 R d dk hn) :: (R, W.listOf (([] : List Value) ++ [Value.ref nr]).toArray (rn + 1)) :: tl) → R < nr → H < nr → Hd < nr → AllLt nr tl → Q .none { s with heap := h', toks := tk' }) :
    wpAny (model PW w) (lawA L fa cd) (call (.ref 85) [.ref H, .int st t1, .ref pa, .int po t3, .ref ma, .bool true, .int tk0 t4]) Q E s := by
  unfold lawA lawEnv
  repeat' (first | (k_unfold; (try dsimp only)) | (k_end; wrow_close) | ((try dsimp only); first | w_nolog (with_reducible ((with_reducible show wpAny _ _ (exec (Stmt.For ..) _) _ _ _); (k_here; k_dflt (refine' For_nil ?h ?F ?N ?v ?m ?_ ?a ?b ?c ?d; (case h => rfl); (case F => k_asm); (case N => k_asm); (case v => rfl); (case m => k_mem); (case a => rfl); (case b => rfl); (case c => decide); (case d => (intro _; rfl)); k_whole); intro h' F' N'; (try k_sweep)))) | w_nolog (with_reducible (k_here; (with_reducible show wpAny _ _ (call (Value.builtin "len") [Value.ref _]) _ _ _); k_dflt (first | (refine' len_snoc ?N ?m ?z ?_; (case N => k_asm); (case m => k_mem); (case z => k_asm); k_whole) | (refine' len_any ?N ?m ?z ?_; (case N => k_asm); (case m => k_mem); (case z => k_asm); k_whole)))) | w_nolog (with_reducible (k_here; (with_reducible show wpAny _ _ (subscriptTail _ _ (Value.ref _) (Value.int (-1) _)) _ _ _); k_dflt (refine' last_item ?N ?m ?z ?_ ?k; (case N => k_asm); (case m => k_mem); (case z => k_asm); (case k => with_unfolding_all rfl); k_whole))) | w_nolog (with_reducible (k_here; (with_reducible show wpAny _ _ (compareOp CmpOp.Eq (Value.ref _) (Value.ref _)) _ _ _); k_dflt (first | (refine' eq_bdbd ?F ?X ?u ?_; (case F => k_asm); (case X => k_asm); (case u => k_units); k_whole) | (refine' eq_bd ?F ?X ?N ?m ?x ?u ?_; (case F => k_asm); (case X => k_asm); (case N => k_asm); (case m => k_mem); (case x => first | assumption | decide); (case u => k_units); k_whole)))) | walk1) | walk1 | (leave1; walk_say "STEP leave1"; try dsimp only) | fail "no step")
  all_goals first | (exfalso; omega) | (rename Fr _ _ _ _ => kF; rename News _ _ _ _ => kN; (try rw [List.push_toArray] at kN); exact ret _ _ _ _ _ kF kN (by omega) (by omega) (by omega) (by obtain ⟨_, _, _, _, _, _, _, h9⟩ := ‹_ < _ ∧ _ < _ ∧ _ < _ ∧ _ < _ ∧ _ < _ ∧ _ < _ ∧ _ < _ ∧ _›; first | exact h9 | exact h9.2))

set_option maxHeartbeats 1000000 in
theorem delete_bd {ys : List Value} {st po tk0 : Int} {t1 t3 t4 : Tok} {pa pd ca rr ma e cn man : Nat} {hc hr : Int} {kc kr : Tok} {cvs : List Value}
    (X : (hd.heap_39 w.params).In g) (T : Top p loose mean mg mb g) (K0 : Below callerA g [] g) (F : Fr g L s.heap m)
    (N : News g L s.heap ((ma, W.listOf #[] man) :: (pa, instObj 144 pd) :: (pd, pieO hc hr kc kr ca rr e) :: (ca, W.listOf cvs.toArray cn) :: (H, instObj 109 Hd) :: (Hd, hisO k1 k2 k3 k4 k5 h1 h2 h3 h4 h5 R d dk hn) :: (R, W.listOf (ys ++ [Value.ref 22]).toArray rn) :: tl))
    (hz : ys.length < 100000) (htl : OwnOff tl [H, Hd, R]) (hRH : R ≠ H) (hRd : R ≠ Hd) (hc0 : 0 < cvs.length) (hc4 : cvs.length < 100000) (n1 : ma ≠ R) (n2 : pa ≠ R) (n3 : pd ≠ R) (n4 : ca ≠ R)
    (ret : ∀ (h' : Heap) (tk' nr : Nat) (u1 : Tok) (q : Bool), Fr g L h' m → News g L h' ((nr, tupO [.str (Str.ofString "delete") u1, .int st t1, .ref pa, .bool q] 0) :: (ma, W.listOf #[] man) :: (pa, instObj 144 pd) :: (pd, pieO hc hr kc kr ca rr e) :: (ca, W.listOf cvs.toArray cn) :: (H, instObj 109 Hd) :: (Hd, hisO k1 k2 k3 k4 k5 h1 h2 h3 h4 h5 R d dk hn) :: (R, W.listOf (ys ++ [Value.ref 22] ++ [Value.ref nr]).toArray (rn + 1)) :: tl) → R < nr → H < nr → Hd < nr → AllLt nr tl → Q .none { s with heap := h', toks := tk' }) :
    wpAny (model PW w) (lawA L fa cd) (call (.ref 85) [.ref H, .int st t1, .ref pa, .int po t3, .ref ma, .bool true, .int tk0 t4]) Q E s := by
  unfold lawA lawEnv
  repeat' (first | (k_unfold; (try dsimp only)) | (k_end; wrow_close) | ((try dsimp only); first | w_nolog (with_reducible ((with_reducible show wpAny _ _ (exec (Stmt.For ..) _) _ _ _); (k_here; k_dflt (refine' For_nil ?h ?F ?N ?v ?m ?_ ?a ?b ?c ?d; (case h => rfl); (case F => k_asm); (case N => k_asm); (case v => rfl); (case m => k_mem); (case a => rfl); (case b => rfl); (case c => decide); (case d => (intro _; rfl)); k_whole); intro h' F' N'; (try k_sweep)))) | w_nolog (with_reducible (k_here; (with_reducible show wpAny _ _ (call (Value.builtin "len") [Value.ref _]) _ _ _); k_dflt (first | (refine' len_snoc ?N ?m ?z ?_; (case N => k_asm); (case m => k_mem); (case z => k_asm); k_whole) | (refine' len_any ?N ?m ?z ?_; (case N => k_asm); (case m => k_mem); (case z => k_asm); k_whole)))) | w_nolog (with_reducible (k_here; (with_reducible show wpAny _ _ (subscriptTail _ _ (Value.ref _) (Value.int (-1) _)) _ _ _); k_dflt (refine' last_item ?N ?m ?z ?_ ?k; (case N => k_asm); (case m => k_mem); (case z => k_asm); (case k => with_unfolding_all rfl); k_whole))) | w_nolog (with_reducible (k_here; (with_reducible show wpAny _ _ (compareOp CmpOp.Eq (Value.ref _) (Value.ref _)) _ _ _); k_dflt (first | (refine' eq_bdbd ?F ?X ?u ?_; (case F => k_asm); (case X => k_asm); (case u => k_units); k_whole) | (refine' eq_bd ?F ?X ?N ?m ?x ?u ?_; (case F => k_asm); (case X => k_asm); (case N => k_asm); (case m => k_mem); (case x => first | assumption | decide); (case u => k_units); k_whole)))) | walk1) | walk1 | (leave1; walk_say "STEP leave1"; try dsimp only) | fail "no step")
  all_goals first | (exfalso; omega) | (rename Fr _ _ _ _ => kF; rename News _ _ _ _ => kN; (try rw [List.push_toArray] at kN); exact ret _ _ _ _ _ kF kN (by omega) (by omega) (by omega) (by obtain ⟨_, _, _, _, _, _, _, h9⟩ := ‹_ < _ ∧ _ < _ ∧ _ < _ ∧ _ < _ ∧ _ < _ ∧ _ < _ ∧ _ < _ ∧ _›; first | exact h9 | exact h9.2))

set_option maxHeartbeats 1000000 in
theorem delete_row {ys vs : List Value} {ra en : Nat} {x : Str} {xt : Tok} {st po tk0 : Int} {t1 t3 t4 : Tok} {pa pd ca rr ma e cn man : Nat} {hc hr : Int} {kc kr : Tok} {cvs : List Value}
    (X : (hd.heap_39 w.params).In g) (T : Top p loose mean mg mb g) (K0 : Below callerA g [] g) (F : Fr g L s.heap m)
    (N : News g L s.heap ((ma, W.listOf #[] man) :: (pa, instObj 144 pd) :: (pd, pieO hc hr kc kr ca rr e) :: (ca, W.listOf cvs.toArray cn) :: (H, instObj 109 Hd) :: (Hd, hisO k1 k2 k3 k4 k5 h1 h2 h3 h4 h5 R d dk hn) :: (R, W.listOf (ys ++ [Value.ref ra]).toArray rn) :: (ra, tupO (Value.str x xt :: vs) en) :: tl))
    (hx : (x == Str.ofString "boundary") = false) (hz : ys.length < 100000) (hR : ra ≠ R) (htl : OwnOff tl [H, Hd, R]) (hRH : R ≠ H) (hRd : R ≠ Hd) (hc0 : 0 < cvs.length) (hc4 : cvs.length < 100000) (n1 : ma ≠ R) (n2 : pa ≠ R) (n3 : pd ≠ R) (n4 : ca ≠ R)
    (ret : ∀ (h' : Heap) (tk' nr : Nat) (u1 : Tok) (q : Bool), Fr g L h' m → News g L h' ((nr, tupO [.str (Str.ofString "delete") u1, .int st t1, .ref pa, .bool q] 0) :: (ma, W.listOf #[] man) :: (pa, instObj 144 pd) :: (pd, pieO hc hr kc kr ca rr e) :: (ca, W.listOf cvs.toArray cn) :: (H, instObj 109 Hd) :: (Hd, hisO k1 k2 k3 k4 k5 h1 h2 h3 h4 h5 R d dk hn) :: (R, W.listOf (ys ++ [Value.ref ra] ++ [Value.ref nr]).toArray (rn + 1)) :: (ra, tupO (Value.str x xt :: vs) en) :: tl) → R < nr → H < nr → Hd < nr → AllLt nr tl → Q .none { s with heap := h', toks := tk' }) :
    wpAny (model PW w) (lawA L fa cd) (call (.ref 85) [.ref H, .int st t1, .ref pa, .int po t3, .ref ma, .bool true, .int tk0 t4]) Q E s := by
  unfold lawA lawEnv
  repeat' (first | (k_unfold; (try dsimp only)) | (k_end; wrow_close) | ((try dsimp only); first | w_nolog (with_reducible ((with_reducible show wpAny _ _ (exec (Stmt.For ..) _) _ _ _); (k_here; k_dflt (refine' For_nil ?h ?F ?N ?v ?m ?_ ?a ?b ?c ?d; (case h => rfl); (case F => k_asm); (case N => k_asm); (case v => rfl); (case m => k_mem); (case a => rfl); (case b => rfl); (case c => decide); (case d => (intro _; rfl)); k_whole); intro h' F' N'; (try k_sweep)))) | w_nolog (with_reducible (k_here; (with_reducible show wpAny _ _ (call (Value.builtin "len") [Value.ref _]) _ _ _); k_dflt (first | (refine' len_snoc ?N ?m ?z ?_; (case N => k_asm); (case m => k_mem); (case z => k_asm); k_whole) | (refine' len_any ?N ?m ?z ?_; (case N => k_asm); (case m => k_mem); (case z => k_asm); k_whole)))) | w_nolog (with_reducible (k_here; (with_reducible show wpAny _ _ (subscriptTail _ _ (Value.ref _) (Value.int (-1) _)) _ _ _); k_dflt (refine' last_item ?N ?m ?z ?_ ?k; (case N => k_asm); (case m => k_mem); (case z => k_asm); (case k => with_unfolding_all rfl); k_whole))) | w_nolog (with_reducible (k_here; (with_reducible show wpAny _ _ (compareOp CmpOp.Eq (Value.ref _) (Value.ref _)) _ _ _); k_dflt (first | (refine' eq_bdbd ?F ?X ?u ?_; (case F => k_asm); (case X => k_asm); (case u => k_units); k_whole) | (refine' eq_bd ?F ?X ?N ?m ?x ?u ?_; (case F => k_asm); (case X => k_asm); (case N => k_asm); (case m => k_mem); (case x => first | assumption | decide); (case u => k_units); k_whole)))) | walk1) | walk1 | (leave1; walk_say "STEP leave1"; try dsimp only) | fail "no step")
  all_goals first | (exfalso; omega) | (rename Fr _ _ _ _ => kF; rename News _ _ _ _ => kN; (try rw [List.push_toArray] at kN); exact ret _ _ _ _ _ kF kN (by omega) (by omega) (by omega) (by obtain ⟨_, _, _, _, _, _, _, h9⟩ := ‹_ < _ ∧ _ < _ ∧ _ < _ ∧ _ < _ ∧ _ < _ ∧ _ < _ ∧ _ < _ ∧ _›; first | exact h9 | exact h9.2))
end
end
section
theorem fresh_NUse : True := by
  w_top off
  first | walk1 | skip
  trivial
section
variable {w : World} {p : Program} {loose : List Str} {mean : ExcName → Option Value} {mg mb : Str → Option Value} {g : Heap} {L fa : Nat} {cd : Value} {m : Str → Option Value} {s : Shared} {Q E : Value → Shared → Prop} {news rest : List (Addr × Obj)}

theorem mem_more {q : Addr × Obj} {l r : List (Addr × Obj)} (h : q ∈ l) (hs : ∀ p ∈ r, p ∈ l) : ∀ p ∈ q :: r, p ∈ l := List.forall_mem_cons.mpr ⟨h, hs⟩

theorem off_sub {l : List (Addr × Obj)} {ds ds' : List Nat} (h : OwnOff l ds') (hs : ∀ b ∈ ds, b ∈ ds') : OwnOff l ds := fun p hp b hb => h p hp b (hs b hb)

theorem draw_use {D B C : Nat} {k many : Int} {kt mt : Tok} {dn bn cn : Nat} {cs bs : List Value} {ms ns : List Int}
    (X : (hd.heap_39 w.params).In g) (T : Top p loose mean mg mb g) (F : Fr g L s.heap m) (N : News g L s.heap news)
    (hD : (D, W.listOf #[.ref B, .ref C, .int k kt] dn) ∈ news) (hB : (B, W.listOf bs.toArray bn) ∈ news) (hC : (C, W.listOf cs.toArray cn) ∈ news)
    (dr : Drop [D, B] news rest) (hDB : D ≠ B) (hDC : D ≠ C) (hBC : B ≠ C)
    (hI : IntsAre cs ms) (hms : 0 < ms.length) (hcl : ms.length ≤ 21) (hbI : IntsAre bs ns) (hbl : ns.length ≤ 21) (hm : 0 < many) (hm' : many < 100)
    (ret : ∀ (h' : Heap) (r : Int) (t : Tok) (k' : Int) (kt' tk' : Nat) (bs' : List Value) (ns' : List Int) (bn' : Nat), Fr g L h' m → News g L h' ((D, W.listOf #[.ref B, .ref C, .int k' kt'] dn) :: (B, W.listOf bs'.toArray bn') :: rest) → IntsAre bs' ns' → ns'.length ≤ 21 → 0 ≤ r → r < many → Q (.int r t) { s with heap := h', toks := tk' }) :
    wpAny (model PW w) (lawA L fa cd) (call (.ref 167) [.ref D, .int many mt]) Q E s := by
  have K0 : Below callerA g [] g := below_caller g
  have N1 : News g L s.heap ((D, W.listOf #[.ref B, .ref C, .int k kt] dn) :: (B, W.listOf bs.toArray bn) :: (C, W.listOf cs.toArray cn) :: rest) :=
    News.less N (mem_more hD (mem_more hB (mem_more hC dr.sub)))
  have hCr : (C, W.listOf cs.toArray cn) ∈ rest ∨ True := .inr trivial
  cases hbI with
  | nil =>
    refine draw_nil X T K0 F N1 hDB hDC hBC dr.off hI hms hcl hm hm' fun h' r t k' kt' tk' F' N' h0 h1 => ?_
    exact ret h' r t k' kt' tk' [] [] bn F' (News.less N' (mem_more (.head _) (mem_more (.tail _ (.head _)) fun p hp => .tail _ (.tail _ (.tail _ hp))))) .nil (by simp) h0 h1
  | cons b bt hb =>
    rename_i bs₁ ns₁
    have hl := hb.length
    have hl2 : ns₁.length ≤ 20 := by simpa using hbl
    refine draw_cons X T K0 F N1 hDB hDC hBC dr.off hI hms hb hl2 (by omega) hcl hm hm' fun h' r t k' kt' tk' bs' ns' bn' F' N' i' l' h0 h1 => ?_
    exact ret h' r t k' kt' tk' bs' ns' bn' F' (News.less N' (mem_more (.head _) (mem_more (.tail _ (.head _)) fun p hp => .tail _ (.tail _ (.tail _ hp))))) i' l' h0 h1

variable {H Hd R : Nat} {k1 k2 k3 k4 k5 dk : Tok} {h1 h2 h3 h4 h5 d lim : Int} {hn rn : Nat} {rs : List Value}

theorem row_head {tl : List (Addr × Obj)} {v : Value} {z : Nat} (r : RowIn tl lim v z) : ∃ (ra n : Nat) (x : Str) (xt : Tok) (vs : List Value), v = .ref ra ∧ (ra, tupO (.str x xt :: vs) n) ∈ tl ∧ (x == Str.ofString "boundary") = false := by
  cases r with
  | ins hm hb => exact ⟨_, _, _, _, _, rfl, hm, by decide⟩
  | del hm hp hd hca hz => exact ⟨_, _, _, _, _, rfl, hm, by decide⟩

theorem boundary_use (X : (hd.heap_39 w.params).In g) (T : Top p loose mean mg mb g) (F : Fr g L s.heap m) (N : News g L s.heap news)
    (hH : (H, instObj 109 Hd) ∈ news) (hHd : (Hd, hisO k1 k2 k3 k4 k5 h1 h2 h3 h4 h5 R d dk hn) ∈ news) (hR : (R, W.listOf rs.toArray rn) ∈ news)
    (dr : Drop [H, Hd, R] news rest) (hRH : R ≠ H) (hRd : R ≠ Hd) (hz : rs.length < 1000) (hl : LastOk rest lim rs)
    (ret : ∀ (h' : Heap) (tk' : Nat) (rs' : List Value) (rn' : Nat), Fr g L h' m → News g L h' ((H, instObj 109 Hd) :: (Hd, hisO k1 k2 k3 k4 k5 h1 h2 h3 h4 h5 R d dk hn) :: (R, W.listOf rs'.toArray rn') :: rest) →
      ((rs = [] ∨ ∃ ys, rs = ys ++ [Value.ref 22]) ∧ rs' = rs) ∨ ((∃ ys v z, rs = ys ++ [v] ∧ RowIn rest lim v z) ∧ rs' = rs ++ [Value.ref 22]) → Q .none { s with heap := h', toks := tk' }) :
    wpAny (model PW w) (lawA L fa cd) (call (.ref 57) [.ref H]) Q E s := by
  have K0 : Below callerA g [] g := below_caller g
  have N1 : News g L s.heap ((H, instObj 109 Hd) :: (Hd, hisO k1 k2 k3 k4 k5 h1 h2 h3 h4 h5 R d dk hn) :: (R, W.listOf rs.toArray rn) :: rest) :=
    News.less N (mem_more hH (mem_more hHd (mem_more hR dr.sub)))
  rcases hl with rfl | ⟨ys, rfl⟩ | ⟨ys, v, z, rfl, r⟩
  · exact boundary_nil X T K0 F N1 dr.off fun h' tk' F' N' => ret h' tk' _ _ F' N' (.inl ⟨.inl rfl, rfl⟩)
  · have hy : ys.length < 100000 := by simp at hz; omega
    exact boundary_bd X T K0 F N1 dr.off hy fun h' tk' F' N' => ret h' tk' _ _ F' N' (.inl ⟨.inr ⟨_, rfl⟩, rfl⟩)
  · have hy : ys.length < 100000 := by simp at hz; omega
    obtain ⟨ra, en, x, xt, vs, rfl, hm, hx⟩ := row_head r
    have hne : ra ≠ R := dr.off _ hm R (by simp)
    have N2 := News.less N1 (l' := (H, instObj 109 Hd) :: (Hd, hisO k1 k2 k3 k4 k5 h1 h2 h3 h4 h5 R d dk hn) :: (R, W.listOf (ys ++ [Value.ref ra]).toArray rn) :: (ra, tupO (Value.str x xt :: vs) en) :: rest)
      (mem_more (.head _) (mem_more (.tail _ (.head _)) (mem_more (.tail _ (.tail _ (.head _))) (mem_more (.tail _ (.tail _ (.tail _ hm))) fun p hp => .tail _ (.tail _ (.tail _ hp))))))
    refine boundary_row X T K0 F N2 hx dr.off hy hne hRH hRd fun h' tk' F' N' => ret h' tk' _ _ F' (News.less N' (mem_more (.head _) (mem_more (.tail _ (.head _)) (mem_more (.tail _ (.tail _ (.head _))) fun p hp => .tail _ (.tail _ (.tail _ (.tail _ hp))))))) (.inr ⟨⟨_, _, _, rfl, r⟩, rfl⟩)

theorem insert_use {st mn po tk0 : Int} {t1 t2 t3 t4 : Tok} (X : (hd.heap_39 w.params).In g) (T : Top p loose mean mg mb g) (F : Fr g L s.heap m) (N : News g L s.heap news)
    (hH : (H, instObj 109 Hd) ∈ news) (hHd : (Hd, hisO k1 k2 k3 k4 k5 h1 h2 h3 h4 h5 R d dk hn) ∈ news) (hR : (R, W.listOf rs.toArray rn) ∈ news)
    (dr : Drop [H, Hd, R] news rest) (hRH : R ≠ H) (hRd : R ≠ Hd) (hz : rs.length < 1000) (hl : LastOk rest lim rs) (hlim : lim < st) (hm1 : 1 ≤ mn) (hm4 : mn ≤ 4)
    (ret : ∀ (h' : Heap) (tk' nr : Nat) (u1 u2 u3 : Tok), Fr g L h' m → News g L h' ((nr, tupO [.str (Str.ofString "insert") u1, .int st u2, .int (st + mn) u3] 0) :: (H, instObj 109 Hd) :: (Hd, hisO k1 k2 k3 k4 k5 h1 h2 h3 h4 h5 R d dk hn) :: (R, W.listOf (rs ++ [Value.ref nr]).toArray (rn + 1)) :: rest) → R < nr → H < nr → Hd < nr → AllLt nr rest → Q .none { s with heap := h', toks := tk' }) :
    wpAny (model PW w) (lawA L fa cd) (call (.ref 78) [.ref H, .int st t1, .int mn t2, .int po t3, .bool true, .int tk0 t4]) Q E s := by
  have K0 : Below callerA g [] g := below_caller g
  have N1 : News g L s.heap ((H, instObj 109 Hd) :: (Hd, hisO k1 k2 k3 k4 k5 h1 h2 h3 h4 h5 R d dk hn) :: (R, W.listOf rs.toArray rn) :: rest) :=
    News.less N (mem_more hH (mem_more hHd (mem_more hR dr.sub)))
  rcases hl with rfl | ⟨ys, rfl⟩ | ⟨ys, v, z, rfl, r⟩
  · exact insert_nil X T K0 F N1 dr.off hRH hRd hm1 hm4 ret
  · have hy : ys.length < 100000 := by simp at hz; omega
    exact insert_bd X T K0 F N1 hy dr.off hRH hRd hm1 hm4 ret
  · have hy : ys.length < 100000 := by simp at hz; omega
    cases r with
    | @ins ra n a b t0 t1' t2' hm hb =>
      have hne : ra ≠ R := dr.off _ hm R (by simp)
      have N2 := News.less N1 (l' := (H, instObj 109 Hd) :: (Hd, hisO k1 k2 k3 k4 k5 h1 h2 h3 h4 h5 R d dk hn) :: (R, W.listOf (ys ++ [Value.ref ra]).toArray rn) :: (ra, tupO [.str (Str.ofString "insert") t0, .int a t1', .int b t2'] n) :: rest)
        (mem_more (.head _) (mem_more (.tail _ (.head _)) (mem_more (.tail _ (.tail _ (.head _))) (mem_more (.tail _ (.tail _ (.tail _ hm))) fun p hp => .tail _ (.tail _ (.tail _ hp))))))
      refine insert_ins X T K0 F N2 hy hne (by omega) dr.off hRH hRd hm1 hm4 fun h' tk' nr u1 u2 u3 F' N' => ret h' tk' nr u1 u2 u3 F' (News.less N' ?_)
      exact mem_more (.head _) (mem_more (.tail _ (.head _)) (mem_more (.tail _ (.tail _ (.head _))) (mem_more (.tail _ (.tail _ (.tail _ (.head _)))) fun p hp => .tail _ (.tail _ (.tail _ (.tail _ (.tail _ hp)))))))
    | @del ra n pa pd ca rr e cn st' q t0 t1' kc kr hc hr cvs hm hp hd' hca hz' =>
      have hne : ra ≠ R := dr.off _ hm R (by simp)
      have N2 := News.less N1 (l' := (H, instObj 109 Hd) :: (Hd, hisO k1 k2 k3 k4 k5 h1 h2 h3 h4 h5 R d dk hn) :: (R, W.listOf (ys ++ [Value.ref ra]).toArray rn) :: (ra, tupO [.str (Str.ofString "delete") t0, .int st' t1', .ref pa, .bool q] n) :: rest)
        (mem_more (.head _) (mem_more (.tail _ (.head _)) (mem_more (.tail _ (.tail _ (.head _))) (mem_more (.tail _ (.tail _ (.tail _ hm))) fun p hp => .tail _ (.tail _ (.tail _ hp))))))
      refine insert_del X T K0 F N2 hy hne dr.off hRH hRd hm1 hm4 fun h' tk' nr u1 u2 u3 F' N' => ret h' tk' nr u1 u2 u3 F' (News.less N' ?_)
      exact mem_more (.head _) (mem_more (.tail _ (.head _)) (mem_more (.tail _ (.tail _ (.head _))) (mem_more (.tail _ (.tail _ (.tail _ (.head _)))) fun p hp => .tail _ (.tail _ (.tail _ (.tail _ (.tail _ hp)))))))

theorem delete_use {st po tk0 : Int} {t1 t3 t4 : Tok} {pa pd ca rr ma e cn man : Nat} {hc hr : Int} {kc kr : Tok} {cvs : List Value} (X : (hd.heap_39 w.params).In g) (T : Top p loose mean mg mb g) (F : Fr g L s.heap m) (N : News g L s.heap news)
    (hH : (H, instObj 109 Hd) ∈ news) (hHd : (Hd, hisO k1 k2 k3 k4 k5 h1 h2 h3 h4 h5 R d dk hn) ∈ news) (hR : (R, W.listOf rs.toArray rn) ∈ news)
    (hma : (ma, W.listOf #[] man) ∈ rest) (hpa : (pa, instObj 144 pd) ∈ rest) (hpd : (pd, pieO hc hr kc kr ca rr e) ∈ rest) (hca : (ca, W.listOf cvs.toArray cn) ∈ rest)
    (dr : Drop [H, Hd, R] news rest) (hRH : R ≠ H) (hRd : R ≠ Hd) (hz : rs.length < 1000) (hl : LastOk rest lim rs) (hc0 : 0 < cvs.length) (hc4 : cvs.length < 100000)
    (ret : ∀ (h' : Heap) (tk' nr : Nat) (u1 : Tok) (q : Bool), Fr g L h' m → News g L h' ((nr, tupO [.str (Str.ofString "delete") u1, .int st t1, .ref pa, .bool q] 0) :: (H, instObj 109 Hd) :: (Hd, hisO k1 k2 k3 k4 k5 h1 h2 h3 h4 h5 R d dk hn) :: (R, W.listOf (rs ++ [Value.ref nr]).toArray (rn + 1)) :: rest) → R < nr → H < nr → Hd < nr → AllLt nr rest → Q .none { s with heap := h', toks := tk' }) :
    wpAny (model PW w) (lawA L fa cd) (call (.ref 85) [.ref H, .int st t1, .ref pa, .int po t3, .ref ma, .bool true, .int tk0 t4]) Q E s := by
  have K0 : Below callerA g [] g := below_caller g
  have n1 : ma ≠ R := dr.off _ hma R (by simp)
  have n2 : pa ≠ R := dr.off _ hpa R (by simp)
  have n3 : pd ≠ R := dr.off _ hpd R (by simp)
  have n4 : ca ≠ R := dr.off _ hca R (by simp)
  have N1 : News g L s.heap ((ma, W.listOf #[] man) :: (pa, instObj 144 pd) :: (pd, pieO hc hr kc kr ca rr e) :: (ca, W.listOf cvs.toArray cn) :: (H, instObj 109 Hd) :: (Hd, hisO k1 k2 k3 k4 k5 h1 h2 h3 h4 h5 R d dk hn) :: (R, W.listOf rs.toArray rn) :: rest) :=
    News.less N (mem_more (dr.sub _ hma) (mem_more (dr.sub _ hpa) (mem_more (dr.sub _ hpd) (mem_more (dr.sub _ hca) (mem_more hH (mem_more hHd (mem_more hR dr.sub)))))))
  rcases hl with rfl | ⟨ys, rfl⟩ | ⟨ys, v, z, rfl, r⟩
  · refine delete_nil X T K0 F N1 dr.off hRH hRd hc0 hc4 n1 n2 n3 n4 fun h' tk' nr u1 q F' N' => ret h' tk' nr u1 q F' (News.less N' ?_)
    exact mem_more (.head _) (mem_more (.tail _ (.tail _ (.tail _ (.tail _ (.tail _ (.head _)))))) (mem_more (.tail _ (.tail _ (.tail _ (.tail _ (.tail _ (.tail _ (.head _))))))) (mem_more (.tail _ (.tail _ (.tail _ (.tail _ (.tail _ (.tail _ (.tail _ (.head _)))))))) fun p hp => .tail _ (.tail _ (.tail _ (.tail _ (.tail _ (.tail _ (.tail _ (.tail _ hp)))))))))) 
  · have hy : ys.length < 100000 := by simp at hz; omega
    refine delete_bd X T K0 F N1 hy dr.off hRH hRd hc0 hc4 n1 n2 n3 n4 fun h' tk' nr u1 q F' N' => ret h' tk' nr u1 q F' (News.less N' ?_)
    exact mem_more (.head _) (mem_more (.tail _ (.tail _ (.tail _ (.tail _ (.tail _ (.head _)))))) (mem_more (.tail _ (.tail _ (.tail _ (.tail _ (.tail _ (.tail _ (.head _))))))) (mem_more (.tail _ (.tail _ (.tail _ (.tail _ (.tail _ (.tail _ (.tail _ (.head _)))))))) fun p hp => .tail _ (.tail _ (.tail _ (.tail _ (.tail _ (.tail _ (.tail _ (.tail _ hp))))))))))
  · have hy : ys.length < 100000 := by simp at hz; omega
    obtain ⟨ra, en, x, xt, vs, rfl, hm, hx⟩ := row_head r
    have hne : ra ≠ R := dr.off _ hm R (by simp)
    have N2 := News.less N1 (l' := (ma, W.listOf #[] man) :: (pa, instObj 144 pd) :: (pd, pieO hc hr kc kr ca rr e) :: (ca, W.listOf cvs.toArray cn) :: (H, instObj 109 Hd) :: (Hd, hisO k1 k2 k3 k4 k5 h1 h2 h3 h4 h5 R d dk hn) :: (R, W.listOf (ys ++ [Value.ref ra]).toArray rn) :: (ra, tupO (Value.str x xt :: vs) en) :: rest) ?_
    · refine delete_row X T K0 F N2 hx hy hne dr.off hRH hRd hc0 hc4 n1 n2 n3 n4 fun h' tk' nr u1 q F' N' => ret h' tk' nr u1 q F' (News.less N' ?_)
      exact mem_more (.head _) (mem_more (.tail _ (.tail _ (.tail _ (.tail _ (.tail _ (.head _)))))) (mem_more (.tail _ (.tail _ (.tail _ (.tail _ (.tail _ (.tail _ (.head _))))))) (mem_more (.tail _ (.tail _ (.tail _ (.tail _ (.tail _ (.tail _ (.tail _ (.head _)))))))) fun p hp => .tail _ (.tail _ (.tail _ (.tail _ (.tail _ (.tail _ (.tail _ (.tail _ (.tail _ hp)))))))))))
    · intro p hp
      simp only [List.mem_cons] at hp ⊢
      rcases hp with h | h | h | h | h | h | h | h | h
      · exact .inl h
      · exact .inr (.inl h)
      · exact .inr (.inr (.inl h))
      · exact .inr (.inr (.inr (.inl h)))
      · exact .inr (.inr (.inr (.inr (.inl h))))
      · exact .inr (.inr (.inr (.inr (.inr (.inl h)))))
      · exact .inr (.inr (.inr (.inr (.inr (.inr (.inl h))))))
      · subst h; exact .inr (.inr (.inr (.inr (.inr (.inr (.inr hm))))))
      · exact .inr (.inr (.inr (.inr (.inr (.inr (.inr h))))))
end

section
variable {g h' : Heap} {L B C D Hd H R nr : Nat} {k1 k2 k3 k4 k5 dk u1 u2 u3 kt : Tok} {h1 h2 h3 h4 h5 d st mn lim k : Int} {hn rn dn bn cn : Nat} {rs bs cs : List Value} {tl rest : List (Addr × Obj)}
theorem again_fin_ins (N : News g L h' ((nr, tupO [.str (Str.ofString "insert") u1, .int st u2, .int (st + mn) u3] 0) :: (H, instObj 109 Hd) :: (Hd, hisO k1 k2 k3 k4 k5 h1 h2 h3 h4 h5 R d dk hn) :: (R, W.listOf (rs ++ [Value.ref nr]).toArray (rn + 1)) :: rest))
    (hD : (D, W.listOf #[.ref B, .ref C, .int k kt] dn) ∈ rest) (hB : (B, W.listOf bs.toArray bn) ∈ rest) (hC : (C, W.listOf cs.toArray cn) ∈ rest) (hs : ∀ p ∈ tl, p ∈ rest) (l4 : AllLt nr rest) (hR : R < nr) (hlim : st + mn ≤ lim) :
    ∃ add v z, News g L h' ((D, W.listOf #[.ref B, .ref C, .int k kt] dn) :: (B, W.listOf bs.toArray bn) :: (R, W.listOf (rs ++ [v]).toArray (rn + 1)) :: (H, instObj 109 Hd) :: (Hd, hisO k1 k2 k3 k4 k5 h1 h2 h3 h4 h5 R d dk hn) :: (C, W.listOf cs.toArray cn) :: (add ++ tl)) ∧
      RowIn add lim v z ∧ (∀ q ∈ add, ∀ p ∈ tl, @LT.lt Nat _ p.1 q.1) ∧ (∀ q ∈ add, @LT.lt Nat _ R q.1) := by
  have up : ∀ {q}, q ∈ rest → q ∈ (nr, tupO [.str (Str.ofString "insert") u1, .int st u2, .int (st + mn) u3] 0) :: (H, instObj 109 Hd) :: (Hd, hisO k1 k2 k3 k4 k5 h1 h2 h3 h4 h5 R d dk hn) :: (R, W.listOf (rs ++ [Value.ref nr]).toArray (rn + 1)) :: rest := fun h => .tail _ (.tail _ (.tail _ (.tail _ h)))
  refine ⟨[(nr, tupO [.str (Str.ofString "insert") u1, .int st u2, .int (st + mn) u3] 0)], .ref nr, 1, News.less N ?_, .ins (.head _) hlim, ?_, ?_⟩
  · exact mem_more (up hD) (mem_more (up hB) (mem_more (.tail _ (.tail _ (.tail _ (.head _)))) (mem_more (.tail _ (.head _)) (mem_more (.tail _ (.tail _ (.head _))) (mem_more (up hC) (mem_more (.head _) fun p hp => up (hs p hp)))))))
  · intro q hq p hp
    rw [List.mem_singleton.mp hq]
    exact tb_ltOf l4 p (hs p hp)
  · intro q hq
    rw [List.mem_singleton.mp hq]
    exact hR
theorem allLt_up {a b : Nat} : ∀ {l : List (Addr × Obj)}, AllLt a l → @LE.le Nat _ a b → AllLt b l
  | [], _, _ => trivial
  | _ :: _, h, hl => ⟨Nat.lt_of_lt_of_le h.1 hl, allLt_up h.2 hl⟩
theorem again_fin_del {pa pd ca rr e cvn : Nat} {hc hr : Int} {kc kr t1 : Tok} {q : Bool} {cvs : List Value} {a1 a2 a3 a4 a5 a6 a7 a8 : Nat} (N : News g L h' ((nr, tupO [.str (Str.ofString "delete") u1, .int st t1, .ref pa, .bool q] 0) :: (H, instObj 109 Hd) :: (Hd, hisO k1 k2 k3 k4 k5 h1 h2 h3 h4 h5 R d dk hn) :: (R, W.listOf (rs ++ [Value.ref nr]).toArray (rn + 1)) :: rest))
    (hD : (D, W.listOf #[.ref B, .ref C, .int k kt] dn) ∈ rest) (hB : (B, W.listOf bs.toArray bn) ∈ rest) (hC : (C, W.listOf cs.toArray cn) ∈ rest)
    (hpa : (pa, instObj 144 pd) ∈ rest) (hpd : (pd, pieO hc hr kc kr ca rr e) ∈ rest) (hca : (ca, W.listOf cvs.toArray cvn) ∈ rest) (hz : cvs.length ≤ 4)
    (hs : ∀ p ∈ tl, p ∈ rest) (l4 : AllLt nr rest) (hR : R < nr) (l : a1 < ca ∧ a2 < ca ∧ a3 < ca ∧ a4 < ca ∧ a5 < ca ∧ a6 < ca ∧ a7 < ca ∧ a8 < ca ∧ AllLt ca tl) (hcd : ca < pd) (hcp : ca < pa) (hRc : R < ca) :
    ∃ add v z, News g L h' ((D, W.listOf #[.ref B, .ref C, .int k kt] dn) :: (B, W.listOf bs.toArray bn) :: (R, W.listOf (rs ++ [v]).toArray (rn + 1)) :: (H, instObj 109 Hd) :: (Hd, hisO k1 k2 k3 k4 k5 h1 h2 h3 h4 h5 R d dk hn) :: (C, W.listOf cs.toArray cn) :: (add ++ tl)) ∧
      RowIn add lim v z ∧ (∀ q ∈ add, ∀ p ∈ tl, @LT.lt Nat _ p.1 q.1) ∧ (∀ q ∈ add, @LT.lt Nat _ R q.1) := by
  have l9 : AllLt ca tl := l.2.2.2.2.2.2.2.2
  have up : ∀ {x}, x ∈ rest → x ∈ (nr, tupO [.str (Str.ofString "delete") u1, .int st t1, .ref pa, .bool q] 0) :: (H, instObj 109 Hd) :: (Hd, hisO k1 k2 k3 k4 k5 h1 h2 h3 h4 h5 R d dk hn) :: (R, W.listOf (rs ++ [Value.ref nr]).toArray (rn + 1)) :: rest := fun h => .tail _ (.tail _ (.tail _ (.tail _ h)))
  refine ⟨[(nr, tupO [.str (Str.ofString "delete") u1, .int st t1, .ref pa, .bool q] 0), (pa, instObj 144 pd), (pd, pieO hc hr kc kr ca rr e), (ca, W.listOf cvs.toArray cvn)], .ref nr, 1 + cvs.length, News.less N ?_, .del (.head _) (.tail _ (.head _)) (.tail _ (.tail _ (.head _))) (.tail _ (.tail _ (.tail _ (.head _)))) hz, ?_, ?_⟩
  · exact mem_more (up hD) (mem_more (up hB) (mem_more (.tail _ (.tail _ (.tail _ (.head _)))) (mem_more (.tail _ (.head _)) (mem_more (.tail _ (.tail _ (.head _))) (mem_more (up hC) (mem_more (.head _) (mem_more (up hpa) (mem_more (up hpd) (mem_more (up hca) fun p hp => up (hs p hp))))))))))
  · intro x hx p hp
    simp only [List.mem_cons, List.mem_nil_iff, or_false] at hx
    have b1 := tb_ltOf l9 p hp
    rcases hx with rfl | rfl | rfl | rfl
    · exact tb_ltOf l4 p (hs p hp)
    · exact Nat.lt_trans b1 hcp
    · exact Nat.lt_trans b1 hcd
    · exact b1
  · intro x hx
    simp only [List.mem_cons, List.mem_nil_iff, or_false] at hx
    rcases hx with rfl | rfl | rfl | rfl
    · exact hR
    · exact Nat.lt_trans hRc hcp
    · exact Nat.lt_trans hRc hcd
    · exact hRc
end
end
section
theorem fresh_NPick : True := by
  w_top off
  first | walk1 | skip
  trivial
def at1 {α : Type} : List α → Nat → List α
  | [], _ => []
  | a :: _, 0 => [a]
  | _ :: l, n + 1 => at1 l n
def pickL {α : Type} (l : List α) (k : Nat) : List Nat → List α
  | [] => l.drop k
  | i :: is => at1 l i ++ pickL l k is
theorem at1_sub {α : Type} {q : α} : ∀ {l : List α} {n : Nat}, q ∈ at1 l n → q ∈ l
  | [], _, h => by cases h
  | a :: l, 0, h => by rw [List.mem_singleton.mp h]; exact .head _
  | a :: l, n + 1, h => .tail _ (at1_sub (l := l) (n := n) h)
theorem pick_sub {α : Type} {l : List α} {k : Nat} : ∀ (is : List Nat), ∀ q ∈ pickL l k is, q ∈ l
  | [], _, h => List.mem_of_mem_drop h
  | i :: is, q, h => by
    rcases List.mem_append.mp h with h | h
    · exact at1_sub h
    · exact pick_sub is q h
theorem News.pick {h₀ h : Heap} {L : Addr} {l : List (Addr × Obj)} (N : News h₀ L h l) (k : Nat) (is : List Nat) : News h₀ L h (pickL l k is) := News.less N (pick_sub is)
theorem News.rot {h₀ h : Heap} {L : Addr} {pre add : List (Addr × Obj)} {x : Addr × Obj} (N : News h₀ L h (pre ++ (add ++ [x]))) : News h₀ L h (x :: (pre ++ add)) :=
  News.less N fun q hq => by
    rcases List.mem_cons.mp hq with rfl | hq
    · simp
    · rcases List.mem_append.mp hq with hq | hq
      · exact List.mem_append_left _ hq
      · exact List.mem_append_right _ (List.mem_append_left _ hq)
theorem sub_cons {α : Type} {a : α} {r r' : List α} (h : ∀ p ∈ r, p ∈ r') : ∀ p ∈ a :: r, p ∈ a :: r' := List.forall_mem_cons.mpr ⟨.head _, fun p hp => .tail _ (h p hp)⟩
theorem sub_skip {α : Type} {a : α} {r r' : List α} (h : ∀ p ∈ r, p ∈ r') : ∀ p ∈ r, p ∈ a :: r' := fun p hp => .tail _ (h p hp)
theorem sub_grow {α : Type} (a1 a t o : List α) : ∀ p ∈ (a1 ++ a) ++ t, p ∈ a1 ++ ((a ++ t) ++ o) := fun p hp => by
  rcases List.mem_append.mp hp with hp | hp
  · rcases List.mem_append.mp hp with hp | hp
    · exact List.mem_append_left _ hp
    · exact List.mem_append_right _ (List.mem_append_left _ (List.mem_append_left _ hp))
  · exact List.mem_append_right _ (List.mem_append_left _ (List.mem_append_right _ hp))
theorem sub_own {α : Type} (a1 a o : List α) : ∀ p ∈ o, p ∈ a1 ++ (a ++ o) := fun _ hp => List.mem_append_right _ (List.mem_append_right _ hp)
theorem off_gt {l : List (Addr × Obj)} {ds : List Nat} {G : Nat} (hd : ∀ b ∈ ds, b ≤ G) (a : ∀ q ∈ l, @LT.lt Nat _ G q.1) : OwnOff l ds := fun q hq b hb => Nat.ne_of_gt (Nat.lt_of_le_of_lt (hd b hb) (a q hq))
theorem off_lt {l : List (Addr × Obj)} {ds : List Nat} {G : Nat} (hd : ∀ b ∈ ds, G ≤ b) (a : ∀ q ∈ l, @LT.lt Nat _ q.1 G) : OwnOff l ds := fun q hq b hb => Nat.ne_of_lt (Nat.lt_of_lt_of_le (a q hq) (hd b hb))
theorem off_app {l r : List (Addr × Obj)} {ds : List Nat} (h1 : OwnOff l ds) (h2 : OwnOff r ds) : OwnOff (l ++ r) ds := fun q hq => (List.mem_append.mp hq).elim (h1 q) (h2 q)
theorem off_one {a : Nat} {o : Obj} {ds : List Nat} (h : ∀ b ∈ ds, @Ne Nat a b) : OwnOff [(a, o)] ds := fun q hq => by rw [List.mem_singleton.mp hq]; exact h
theorem off_cons {a : Nat} {o : Obj} {l : List (Addr × Obj)} {ds : List Nat} (h : ∀ b ∈ ds, @Ne Nat a b) (h2 : OwnOff l ds) : OwnOff ((a, o) :: l) ds := fun q hq => (List.mem_cons.mp hq).elim (fun e => e ▸ h) (h2 q)
theorem own_grow {own add1 add tl : List (Addr × Obj)} {ds : List Nat} (h : OwnOff own (ds ++ (add ++ tl).map (·.1))) (b1 : ∀ q ∈ add1, ∀ p ∈ own, @LT.lt Nat _ p.1 q.1) : OwnOff own (ds ++ ((add1 ++ add) ++ tl).map (·.1)) := by
  intro q hq b hb
  rcases List.mem_append.mp hb with hb | hb
  · exact h q hq b (List.mem_append_left _ hb)
  · rw [List.append_assoc, List.map_append] at hb
    rcases List.mem_append.mp hb with hb | hb
    · obtain ⟨q1, hq1, rfl⟩ := List.mem_map.mp hb
      exact Nat.ne_of_lt (b1 q1 hq1 q hq)
    · exact h q hq b (List.mem_append_right _ hb)
theorem chain6 {B C D Hd H R : Nat} (o1 : B < C) (o2 : C < D) (o3 : D < Hd) (o4 : Hd < H) (o5 : H < R) : ∀ b ∈ [B, C, D, Hd, H, R], b ≤ R := by
  simp only [List.mem_cons, List.mem_nil_iff, or_false]
  rintro b (rfl | rfl | rfl | rfl | rfl | rfl) <;> omega
theorem chain7 {B C D Hd H R G : Nat} (o1 : B < C) (o2 : C < D) (o3 : D < Hd) (o4 : Hd < H) (o5 : H < R) (o6 : R < G) : ∀ b ∈ [B, C, D, Hd, H, R, G], b ≤ G := by
  simp only [List.mem_cons, List.mem_nil_iff, or_false]
  rintro b (rfl | rfl | rfl | rfl | rfl | rfl | rfl) <;> omega
theorem chain_low {B C D Hd H R G x : Nat} (o1 : B < C) (o2 : C < D) (o3 : D < Hd) (o4 : Hd < H) (o5 : H < R) (o6 : R < G) (e1 : x ≠ B) (e2 : x < C) : ∀ b ∈ [B, C, D, Hd, H, R, G], x ≠ b := by
  simp only [List.mem_cons, List.mem_nil_iff, or_false]
  rintro b (rfl | rfl | rfl | rfl | rfl | rfl | rfl) <;> first | exact e1 | omega
theorem own6 {own l : List (Addr × Obj)} {D B R H Hd C : Nat} (h : OwnOff own (D :: B :: R :: H :: Hd :: C :: l.map (·.1))) : OwnOff own [B, C, D, Hd, H, R] := off_sub h (by simp)
theorem own7 {own l : List (Addr × Obj)} {D B R G H Hd C : Nat} (h : OwnOff own (D :: B :: R :: G :: H :: Hd :: C :: l.map (·.1))) : OwnOff own [B, C, D, Hd, H, R, G] := off_sub h (by simp)
theorem lt_app {add1 add tl own : List (Addr × Obj)} (b1 : ∀ q ∈ add1, ∀ p ∈ (add ++ tl) ++ own, @LT.lt Nat _ p.1 q.1) (a1 : ∀ q ∈ add, ∀ p ∈ tl, @LT.lt Nat _ p.1 q.1) : ∀ q ∈ add1 ++ add, ∀ p ∈ tl, @LT.lt Nat _ p.1 q.1 :=
  fun q hq p hp => (List.mem_append.mp hq).elim (fun hq => b1 q hq p (List.mem_append_left _ (List.mem_append_right _ hp))) (fun hq => a1 q hq p hp)
theorem gt_app {add1 add : List (Addr × Obj)} {G : Nat} (b2 : ∀ q ∈ add1, @LT.lt Nat _ G q.1) (a2 : ∀ q ∈ add, @LT.lt Nat _ G q.1) : ∀ q ∈ add1 ++ add, @LT.lt Nat _ G q.1 :=
  fun q hq => (List.mem_append.mp hq).elim (b2 q) (a2 q)
end
section
theorem fresh_NLaw1 : True := by
  w_top off
  first | walk1 | skip
  trivial
set_option maxRecDepth 100000
section
variable {w : World} {p : Program} {loose : List Str} {mean : ExcName → Option Value} {mg mb : Str → Option Value} {g : Heap} {L fa B C D Hd H R : Nat} {cd : Value} {m : Str → Option Value} {s : Shared} {Q : Flow → Shared → Prop} {E : Value → Shared → Prop}
  {k1 k2 k3 k4 k5 dk : Tok} {h1 h2 h3 h4 h5 d : Int} {hn rn dn bn cn : Nat} {rs bs cs : List Value} {ns ms : List Int} {k at_ : Int} {kt att : Tok} {tl : List (Addr × Obj)}
set_option maxHeartbeats 1000000 in
theorem again_turn (X : (hd.heap_39 w.params).In g) (T : Top p loose mean mg mb g) (K0 : Below callerA g [] g) (F : Fr g L s.heap m)
    (hm1 : m (Str.ofString "deck") = some (.ref D)) (hm2 : m (Str.ofString "history") = some (.ref H)) (hm3 : m (Str.ofString "at") = some (.int at_ att))
    (N : News g L s.heap ((D, W.listOf #[.ref B, .ref C, .int k kt] dn) :: (B, W.listOf bs.toArray bn) :: (R, W.listOf rs.toArray rn) :: (H, instObj 109 Hd) :: (Hd, hisO k1 k2 k3 k4 k5 h1 h2 h3 h4 h5 R d dk hn) :: (C, W.listOf cs.toArray cn) :: tl))
    (o1 : B < C) (o2 : C < D) (o3 : D < Hd) (o4 : Hd < H) (o5 : H < R) (hoff : OwnOff tl [B, C, D, Hd, H, R])
    (hI : IntsAre cs ms) (hms : 0 < ms.length) (hcl : ms.length ≤ 21) (hbI : IntsAre bs ns) (hbl : ns.length ≤ 21) (hz : rs.length < 900) (hl : LastOk tl (at_ + 4) rs)
    (ret : ∀ (h' : Heap) (tk' : Nat) (m' : Str → Option Value) (add : List (Addr × Obj)) (v : Value) (z : Nat) (k' : Int) (kt' att' : Tok) (bs' : List Value) (ns' : List Int) (bn' : Nat), Fr g L h' m' →
      (∀ y, y ≠ Str.ofString "at" → y ≠ Str.ofString "many" → m' y = m y) → m' (Str.ofString "at") = some (.int (at_ + 9) att') →
      News g L h' ((D, W.listOf #[.ref B, .ref C, .int k' kt'] dn) :: (B, W.listOf bs'.toArray bn') :: (R, W.listOf (rs ++ [v]).toArray (rn + 1)) :: (H, instObj 109 Hd) :: (Hd, hisO k1 k2 k3 k4 k5 h1 h2 h3 h4 h5 R d dk hn) :: (C, W.listOf cs.toArray cn) :: (add ++ tl)) →
      IntsAre bs' ns' → ns'.length ≤ 21 → RowIn add (at_ + 9 + 4) v z → (∀ q ∈ add, ∀ p ∈ tl, @LT.lt Nat _ p.1 q.1) → (∀ q ∈ add, @LT.lt Nat _ R q.1) → Q .next { s with heap := h', toks := tk' }) :
    wpAny (model PW w) (lawA L fa cd) (execs againBody (lawEnv L fa cd)) Q E s := by
  unfold lawA lawEnv
  generalize hsc : scopeOf (Str.ofString "law") = sc
  conv at hsc => lhs; whnf
  subst hsc
  generalize hbb : againBody = bb
  conv at hbb => lhs; whnf
  subst hbb
  repeat' (first | (k_unfold; (try dsimp only)) | (k_end; wrow_close) | ((try dsimp only); first | w_nolog (with_reducible (k_here; (with_reducible show wpAny _ _ (call (Value.ref 85) _) _ _ _); k_dflt (refine' delete_use ?X ?T ?F ?N ?H ?Hd ?R ?ma ?pa ?pd ?ca ?dr ?n1 ?n2 ?hz ?hl ?m1 ?m4 ?_; (case X => k_asm); (case T => k_asm); (case F => k_asm); (case N => k_asm); (case H => k_mem); (case Hd => k_mem); (case R => k_mem); (case dr => (repeat' (first | exact Drop.nil | (refine' Drop.hit ?dh9 ?_; (case dh9 => (repeat' (first | exact List.Mem.head _ | refine List.Mem.tail _ ?_)))) | (refine' Drop.keep ?dh9 ?_; (case dh9 => (repeat' (first | exact List.forall_mem_nil _ | refine List.forall_mem_cons.mpr ⟨by k_ne, ?_⟩)))) | exact Drop.tl (by (refine' off_sub ?oh9 ?os9; (case oh9 => assumption); (case os9 => (repeat' (first | exact List.forall_mem_nil _ | refine List.forall_mem_cons.mpr ⟨by (repeat' (first | exact List.Mem.head _ | refine List.Mem.tail _ ?_)), ?_⟩)))))))); (case ma => k_mem); (case pa => k_mem); (case pd => k_mem); (case ca => k_mem); (case n1 => k_ne); (case n2 => k_ne); (case hz => omega); (case hl => (refine' LastOk.mono ?lk9 ?ls9 ?ll9; (case lk9 => assumption); (case ls9 => (intro p9 hp9; (repeat' (first | assumption | refine List.Mem.tail _ ?_)))); (case ll9 => exact Int.le_refl _))); (case m1 => (rename IntsAre _ (rangeKs _ _) => hIr; have hlr := IntsAre.length hIr; rw [rangeKs_length] at hlr; omega)); (case m4 => (rename IntsAre _ (rangeKs _ _) => hIr; have hlr := IntsAre.length hIr; rw [rangeKs_length] at hlr; omega)); k_whole); intro h' tk' nr' u1' q' F' N' l1' l2' l3' l4'; (try k_sweep))) | w_nolog (with_reducible (k_here; (with_reducible show wpAny _ _ (call (Value.ref 78) _) _ _ _); k_dflt (refine' insert_use ?X ?T ?F ?N ?H ?Hd ?R ?dr ?n1 ?n2 ?hz ?hl ?hlim ?m1 ?m4 ?_; (case X => k_asm); (case T => k_asm); (case F => k_asm); (case N => k_asm); (case H => k_mem); (case Hd => k_mem); (case R => k_mem); (case dr => (repeat' (first | exact Drop.nil | (refine' Drop.hit ?dh9 ?_; (case dh9 => (repeat' (first | exact List.Mem.head _ | refine List.Mem.tail _ ?_)))) | (refine' Drop.keep ?dh9 ?_; (case dh9 => (repeat' (first | exact List.forall_mem_nil _ | refine List.forall_mem_cons.mpr ⟨by k_ne, ?_⟩)))) | exact Drop.tl (by (refine' off_sub ?oh9 ?os9; (case oh9 => assumption); (case os9 => (repeat' (first | exact List.forall_mem_nil _ | refine List.forall_mem_cons.mpr ⟨by (repeat' (first | exact List.Mem.head _ | refine List.Mem.tail _ ?_)), ?_⟩)))))))); (case n1 => k_ne); (case n2 => k_ne); (case hz => omega); (case hl => (refine' LastOk.mono ?lk9 ?ls9 ?ll9; (case lk9 => assumption); (case ls9 => (intro p9 hp9; (repeat' (first | assumption | refine List.Mem.tail _ ?_)))); (case ll9 => exact Int.le_refl _))); (case hlim => omega); (case m1 => omega); (case m4 => omega); k_whole); intro h' tk' nr' u1' u2' u3' F' N' l1' l2' l3' l4'; (try k_sweep))) | w_nolog (with_reducible (k_here; (with_reducible show wpAny _ _ (call (Value.ref 167) _) _ _ _); k_dflt (refine' draw_use ?X ?T ?F ?N ?D ?B ?C ?dr ?n1 ?n2 ?n3 ?I ?ms ?cl ?bI ?bl ?m ?m' ?_; (case X => k_asm); (case T => k_asm); (case F => k_asm); (case N => k_asm); (case D => k_mem); (case B => k_mem); (case C => k_mem); (case dr => (repeat' (first | exact Drop.nil | (refine' Drop.hit ?dh9 ?_; (case dh9 => (repeat' (first | exact List.Mem.head _ | refine List.Mem.tail _ ?_)))) | (refine' Drop.keep ?dh9 ?_; (case dh9 => (repeat' (first | exact List.forall_mem_nil _ | refine List.forall_mem_cons.mpr ⟨by k_ne, ?_⟩)))) | exact Drop.tl (by (refine' off_sub ?oh9 ?os9; (case oh9 => assumption); (case os9 => (repeat' (first | exact List.forall_mem_nil _ | refine List.forall_mem_cons.mpr ⟨by (repeat' (first | exact List.Mem.head _ | refine List.Mem.tail _ ?_)), ?_⟩)))))))); (case n1 => k_ne); (case n2 => k_ne); (case n3 => k_ne); (case I => assumption); (case ms => assumption); (case cl => assumption); (case bI => assumption); (case bl => assumption); (case m => decide); (case m' => decide); k_whole); intro h' r' t' k' kt' tk' bs' ns' bn' F' N' iB' lB' r0' r1'; (try k_sweep))) | w_nolog (with_reducible ((with_reducible show wpAny _ _ (eval (PySem.Expr.Name _ _) _) _ _ _); (k_here; k_dflt (refine' nameX_L ?F ?v ?_ ?a ?b ?c; (case F => k_asm); (case a => rfl); (case b => rfl); (case c => decide); (case v => first | (with_reducible assumption) | assumption); k_whole)))) | walk1) | walk1 | (leave1; walk_say "STEP leave1"; try dsimp only) | fail "no step")
  all_goals (rename Fr _ _ _ _ => kF; rename News _ _ _ _ => kN)
  · obtain ⟨add, v, z, N2, r9, a1, a2⟩ := again_fin_ins (B := B) (C := C) (D := D) (tl := tl) (lim := at_ + 9 + 4) kN (by k_mem) (by k_mem) (by k_mem) (fun p9 hp9 => by (repeat' (first | assumption | refine List.Mem.tail _ ?_))) (by assumption) (by omega) (by omega)
    exact ret _ _ _ add v z _ _ _ _ _ _ kF (fun y h1 h2 => by simp only [if_neg h1, if_neg h2]) rfl N2 (by assumption) (by assumption) r9 a1 a2
  · obtain ⟨add, v, z, N2, r9, a1, a2⟩ := again_fin_del (B := B) (C := C) (D := D) (tl := tl) (lim := at_ + 9 + 4) kN (by k_mem) (by k_mem) (by k_mem) (by k_mem) (by k_mem) (by k_mem) (by rename IntsAre _ (rangeKs _ _) => hIr; have hlr := IntsAre.length hIr; rw [rangeKs_length] at hlr; omega) (fun p9 hp9 => by (repeat' (first | assumption | refine List.Mem.tail _ ?_))) (by assumption) (by omega) (by assumption) (by omega) (by omega) (by omega)
    exact ret _ _ _ add v z _ _ _ _ _ _ kF (fun y h1 h2 => by simp only [if_neg h1, if_neg h2]) rfl N2 (by assumption) (by assumption) r9 a1 a2
end
end
section
theorem fresh_NLoop : True := by
  w_top off
  first | walk1 | skip
  trivial
section
variable {prog : Program} {w : World} {A : Around} {E : Value → Shared → Prop} {s : Shared} {env : Env} {h₀ : Heap} {x : Str} {body : List Stmt} {Q : Flow → Shared → Prop}
theorem range_loop {r : Addr} {a₀ b₀ : Int} {t₀ u₀ v₀ : Tok} {n : Nat} {m₀ : Str → Option Value} {news : List (Addr × Obj)} (J : Nat → (Str → Option Value) → List (Addr × Obj) → Prop)
    (hh : A.handled = none) (hr : IsRange s.heap r a₀ b₀ 1 t₀ u₀ v₀) (hsmall : Builtin.Range.small a₀ b₀ 1 = true) (hsz : Builtin.Range.rangeSize a₀ b₀ 1 = (n : Int)) (F : Fr h₀ env.locals s.heap m₀) (N : News h₀ env.locals s.heap news) (hj : J 0 m₀ news)
    (turn : ∀ i t m₁ nx h tk own, i < n → OwnOff own (nx.map (·.1)) → J i m₁ nx → Fr h₀ env.locals h (fun y => if y = x then some (.int (a₀ + (i : Int)) t) else m₁ y) → News h₀ env.locals h (nx ++ own) →
      wpAny (model prog w) A (execs body env) (InvPostG h₀ env.locals (J (i + 1)) own { s with heap := h, toks := tk } Q) E { s with heap := h, toks := tk })
    (done : ∀ m₁ nx h tk, J n m₁ nx → Fr h₀ env.locals h m₁ → News h₀ env.locals h nx → Q .next { s with heap := h, toks := tk }) :
    wpAny (model prog w) A (pyIter (.ref r)) (fun it s₂ => LoopAtV prog w A h₀ env x body Q E it s₂) E s := by
  refine wpAny_pyIter_range hr hsmall ?_
  have W : Walks prog w A s.heap.objs.size [s.heap.objs.size] [s.heap.objs.size] n (fun i v => i < n ∧ ∃ t, v = .int (a₀ + i * 1) t)
      (fun i h => IsRangeIter h s.heap.objs.size (a₀ + (i : Nat) * 1) ((n : Int) - (i : Nat)) 1) := (Walks.range hh _ a₀ 1 n).bound
  refine kdr_loop J W (fun _ h => h) (fun _ h => h) ?_ ?_ ?_ ?_ (by show IsRangeIter _ _ _ _ _; rw [hsz]; simpa using Heap.get?_push_size _ rfl) (F.push _) (fun p hp => ⟨Heap.get?_push_of_some _ (N p hp).1, (N p hp).2⟩) hj ?_ done
  · intro i h hi b hb
    rw [List.mem_singleton.mp hb]
    exact ⟨_, hi⟩
  · intro hm
    exact absurd F.ns.lt ((List.mem_singleton.mp hm) ▸ Nat.lt_irrefl _)
  · intro b hb
    rw [List.mem_singleton.mp hb]
    exact next_is_new F
  · intro p hp hI
    exact absurd (Heap.lt_size (N p hp).1) ((List.mem_singleton.mp hI) ▸ Nat.lt_irrefl _)
  · rintro i v m₁ nx h tk own hi ⟨_, t, rfl⟩ hoff hJ F₁ N₁
    have e1 : a₀ + (i : Int) * 1 = a₀ + (i : Int) := by omega
    rw [e1] at F₁
    exact turn i t m₁ nx h tk own hi hoff hJ F₁ N₁
end
inductive RowsIn (news : List (Addr × Obj)) (lim : Int) : List Value → List Nat → Prop
  | nil : RowsIn news lim [] []
  | cons {v z vs zs} : RowIn news lim v z → RowsIn news lim vs zs → RowsIn news lim (v :: vs) (z :: zs)
theorem RowsIn.mono {news news' : List (Addr × Obj)} {lim lim' : Int} {vs : List Value} {zs : List Nat} (h : RowsIn news lim vs zs) (hs : ∀ p ∈ news, p ∈ news') (hl : lim ≤ lim') : RowsIn news' lim' vs zs := by
  induction h with
  | nil => exact .nil
  | cons r _ ih => exact .cons (r.mono hs hl) ih
theorem RowsIn.snoc {news : List (Addr × Obj)} {lim : Int} {vs : List Value} {zs : List Nat} {v : Value} {z : Nat} (h : RowsIn news lim vs zs) (r : RowIn news lim v z) : RowsIn news lim (vs ++ [v]) (zs ++ [z]) := by
  induction h with
  | nil => exact .cons r .nil
  | cons r' _ ih => exact .cons r' ih
theorem RowsIn.length {news : List (Addr × Obj)} {lim : Int} {vs : List Value} {zs : List Nat} (h : RowsIn news lim vs zs) : vs.length = zs.length := by
  induction h with
  | nil => rfl
  | cons _ _ ih => simp [ih]
theorem RowsIn.last {news : List (Addr × Obj)} {lim : Int} {vs : List Value} {zs : List Nat} (h : RowsIn news lim vs zs) (hn : vs ≠ []) : ∃ ys v z, vs = ys ++ [v] ∧ RowIn news lim v z := by
  induction h with
  | nil => exact absurd rfl hn
  | @cons v z vs zs r hr ih =>
    cases vs with
    | nil => exact ⟨[], v, z, rfl, r⟩
    | cons v' vs' =>
      obtain ⟨ys, u, y, e, q⟩ := ih (by simp)
      exact ⟨v :: ys, u, y, by rw [e]; rfl, q⟩
section
variable {w : World} {p : Program} {loose : List Str} {mean : ExcName → Option Value} {mg mb : Str → Option Value} {g : Heap} {L fa B C D Hd H R : Nat} {cd : Value} {m : Str → Option Value} {s : Shared} {Q : Flow → Shared → Prop} {E : Value → Shared → Prop}
  {k1 k2 k3 k4 k5 dk : Tok} {h1 h2 h3 h4 h5 d : Int} {hn rn dn bn cn : Nat} {rs bs cs : List Value} {ns ms : List Int} {k at_ : Int} {kt att : Tok} {tl news : List (Addr × Obj)}
inductive AgainInv (D B C R H Hd dn cn rn hn : Nat) (k1 k2 k3 k4 k5 dk : Tok) (h1 h2 h3 h4 h5 d at_ : Int) (rs cs : List Value) (tl : List (Addr × Obj)) (m : Str → Option Value) (i : Nat) (m' : Str → Option Value) (nx : List (Addr × Obj)) : Prop
  | mk (k' : Int) (kt' att' : Tok) (bs' : List Value) (ns' : List Int) (bn' : Nat) (add : List (Addr × Obj)) (vs : List Value) (zs : List Nat) :
      nx = ((D, W.listOf #[.ref B, .ref C, .int k' kt'] dn) :: (B, W.listOf bs'.toArray bn') :: (R, W.listOf (rs ++ vs).toArray (rn + i)) :: (H, instObj 109 Hd) :: (Hd, hisO k1 k2 k3 k4 k5 h1 h2 h3 h4 h5 R d dk hn) :: (C, W.listOf cs.toArray cn) :: (add ++ tl)) →
      (∀ y, y ≠ Str.ofString "at" → y ≠ Str.ofString "many" → y ≠ Str.ofString "the_again" → m' y = m y) → m' (Str.ofString "at") = some (.int (at_ + 9 * (i : Int)) att') → IntsAre bs' ns' → ns'.length ≤ 21 →
      RowsIn add (at_ + 9 * (i : Int) + 4) vs zs → vs.length = i → (∀ q ∈ add, ∀ p ∈ tl, @LT.lt Nat _ p.1 q.1) → (∀ q ∈ add, @LT.lt Nat _ R q.1) → AgainInv D B C R H Hd dn cn rn hn k1 k2 k3 k4 k5 dk h1 h2 h3 h4 h5 d at_ rs cs tl m i m' nx
theorem last_app {rs vs : List Value} {zs : List Nat} {add tl own : List (Addr × Obj)} {a b : Int} (hl : LastOk tl a rs) (hab : a ≤ b) (hrow : RowsIn add b vs zs) : LastOk ((add ++ tl) ++ own) b (rs ++ vs) := by
  by_cases he : vs = []
  · subst he
    rw [List.append_nil]
    exact hl.mono (fun p hp => List.mem_append_left _ (List.mem_append_right _ hp)) hab
  · obtain ⟨ys, v, z, e, q⟩ := hrow.last he
    exact .inr (.inr ⟨rs ++ ys, v, z, by rw [e, List.append_assoc], q.mono (fun p hp => List.mem_append_left _ (List.mem_append_left _ hp)) (Int.le_refl _)⟩)
theorem rows_snoc {vs : List Value} {zs : List Nat} {v : Value} {z : Nat} {add add1 : List (Addr × Obj)} {at_ : Int} {i : Nat} (hrow : RowsIn add (at_ + 9 * (i : Int) + 4) vs zs) (r9 : RowIn add1 (at_ + 9 * (i : Int) + 9 + 4) v z) : RowsIn (add1 ++ add) (at_ + 9 * ((i + 1 : Nat) : Int) + 4) (vs ++ [v]) (zs ++ [z]) := by
  have e1 : at_ + 9 * (i : Int) + 9 + 4 = at_ + 9 * ((i + 1 : Nat) : Int) + 4 := by push_cast; omega
  rw [e1] at r9
  exact (hrow.mono (fun p hp => List.mem_append_right _ hp) (by push_cast; omega)).snoc (r9.mono (fun p hp => List.mem_append_left _ hp) (Int.le_refl _))
theorem at_next {at_ : Int} {i : Nat} {t : Tok} : (some (.int (at_ + 9 * (i : Int) + 9) t) : Option Value) = some (.int (at_ + 9 * ((i + 1 : Nat) : Int)) t) := by
  have e1 : at_ + 9 * (i : Int) + 9 = at_ + 9 * ((i + 1 : Nat) : Int) := by push_cast; omega
  rw [e1]
theorem not_x {x y : Str} {m : Str → Option Value} {u : Option Value} (h : ¬ y = x) {v : Option Value} (e : m y = u) : (if y = x then v else m y) = u := (if_neg h).trans e
theorem again_loop {r : Addr} {b₀ : Int} {t₀ u₀ v₀ : Tok} {n : Nat} (X : (hd.heap_39 w.params).In g) (T : Top p loose mean mg mb g) (F : Fr g L s.heap m)
    (hr : IsRange s.heap r 0 b₀ 1 t₀ u₀ v₀) (hb : b₀ = (n : Int)) (hn3 : n ≤ 3)
    (hm1 : m (Str.ofString "deck") = some (.ref D)) (hm2 : m (Str.ofString "history") = some (.ref H)) (hm3 : m (Str.ofString "at") = some (.int at_ att))
    (N : News g L s.heap ((D, W.listOf #[.ref B, .ref C, .int k kt] dn) :: (B, W.listOf bs.toArray bn) :: (R, W.listOf rs.toArray rn) :: (H, instObj 109 Hd) :: (Hd, hisO k1 k2 k3 k4 k5 h1 h2 h3 h4 h5 R d dk hn) :: (C, W.listOf cs.toArray cn) :: tl))
    (o1 : B < C) (o2 : C < D) (o3 : D < Hd) (o4 : Hd < H) (o5 : H < R) (hoff : OwnOff tl [B, C, D, Hd, H, R])
    (hI : IntsAre cs ms) (hms : 0 < ms.length) (hcl : ms.length ≤ 21) (hbI : IntsAre bs ns) (hbl : ns.length ≤ 21) (hz : rs.length < 800) (hl : LastOk tl (at_ + 4) rs)
    (ret : ∀ (h' : Heap) (tk' : Nat) (m' : Str → Option Value) (add : List (Addr × Obj)) (vs : List Value) (zs : List Nat) (k' : Int) (kt' att' : Tok) (bs' : List Value) (ns' : List Int) (bn' : Nat), Fr g L h' m' →
      (∀ y, y ≠ Str.ofString "at" → y ≠ Str.ofString "many" → y ≠ Str.ofString "the_again" → m' y = m y) → m' (Str.ofString "at") = some (.int (at_ + 9 * (n : Int)) att') →
      News g L h' ((D, W.listOf #[.ref B, .ref C, .int k' kt'] dn) :: (B, W.listOf bs'.toArray bn') :: (R, W.listOf (rs ++ vs).toArray (rn + n)) :: (H, instObj 109 Hd) :: (Hd, hisO k1 k2 k3 k4 k5 h1 h2 h3 h4 h5 R d dk hn) :: (C, W.listOf cs.toArray cn) :: (add ++ tl)) →
      IntsAre bs' ns' → ns'.length ≤ 21 → RowsIn add (at_ + 9 * (n : Int) + 4) vs zs → vs.length = n → (∀ q ∈ add, ∀ p ∈ tl, @LT.lt Nat _ p.1 q.1) → (∀ q ∈ add, @LT.lt Nat _ R q.1) → Q .next { s with heap := h', toks := tk' }) :
    wpAny (model PW w) (lawA L fa cd) (pyIter (.ref r)) (fun it s₂ => LoopAtV PW w (lawA L fa cd) g (lawEnv L fa cd) (Str.ofString "the_again") againBody Q E it s₂) E s := by
  have K0 : Below callerA g [] g := below_caller g
  subst hb
  refine range_loop (n := n) (AgainInv D B C R H Hd dn cn rn hn k1 k2 k3 k4 k5 dk h1 h2 h3 h4 h5 d at_ rs cs tl m)
    rfl hr (small_one (by decide) (by decide) (by omega) (by omega)) (by rw [rangeSize_nat]; omega) F N ?_ ?_ ?_
  · exact ⟨k, kt, att, bs, ns, bn, [], [], [], by simp, fun _ _ _ _ => rfl, by simpa using hm3, hbI, hbl, .nil, rfl, by simp, by simp⟩
  · rintro i t m₁ nx h tk own hi hown ⟨k', kt', att', bs', ns', bn', add, vs, zs, rfl, hm, hat, hb', hl', hrow, hvl, a1, a2⟩ F₁ N₁
    refine again_turn (tl := (add ++ tl) ++ own) (att := att') X T K0 F₁ (not_x (by decide) ((hm _ (by decide) (by decide) (by decide)).trans hm1)) (not_x (by decide) ((hm _ (by decide) (by decide) (by decide)).trans hm2)) (not_x (by decide) hat) N₁ o1 o2 o3 o4 o5
      (off_app (off_app (off_gt (chain6 o1 o2 o3 o4 o5) a2) hoff) (own6 hown)) hI hms hcl hb' hl' (by rw [List.length_append, hvl]; omega) (last_app hl (by omega) hrow) ?_
    intro h' tk' m' add1 v z k'' kt'' att'' bs'' ns'' bn'' F' hm' hat' N' ib'' il'' r9 b1 b2
    refine InvEndG.intro F' N' (.mk k'' kt'' att'' bs'' ns'' bn'' (add1 ++ add) (vs ++ [v]) (zs ++ [z]) rfl (fun y y1 y2 y3 => (hm' y y1 y2).trans (not_x y3 (hm y y1 y2 y3))) (hat'.trans at_next) ib'' il'' (rows_snoc hrow r9) (by rw [List.length_append, hvl]; rfl) (lt_app b1 a1) (gt_app b2 a2))
      (own_grow (ds := [D, B, R, H, Hd, C]) hown fun q hq p hp => b1 q hq p (List.mem_append_right _ hp)) ?_ ?_
    · rw [← List.append_assoc rs vs [v]]
      exact sub_cons (sub_cons (sub_cons (sub_cons (sub_cons (sub_cons (sub_grow _ _ _ _))))))
    · exact sub_skip (sub_skip (sub_skip (sub_skip (sub_skip (sub_skip (sub_own _ _ _))))))
  · rintro m₁ nx h tk ⟨k', kt', att', bs', ns', bn', add, vs, zs, rfl, hm, hat, hb', hl', hrow, hvl, a1, a2⟩ F₁ N₁
    exact ret h tk m₁ add vs zs k' kt' att' bs' ns' bn' F₁ hm hat N₁ hb' hl' hrow hvl a1 a2
end
end
section
theorem fresh_NMore : True := by
  w_top off
  first | walk1 | skip
  trivial
section
variable {prog : Program} {w : World} {A : Around} {s : Shared} {h₀ : Heap} {L : Addr} {m : Str → Option Value} {news : List (Addr × Obj)} {value slice : PySem.Expr} {vs xs ys : List Value} {x y : Int} {Q : Value → Shared → Prop} {E : Value → Shared → Prop} {n : Nat} {t : Tok} {D : Nat}
theorem pick_from (h : 0 ≤ x) : slicePick vs.toArray (some x) none none = (vs.drop x.toNat).toArray := by
  have e : sliceBounds (some x) none none vs.toArray.size = (((min x.toNat vs.toArray.size : Nat) : Int), ((vs.toArray.size : Nat) : Int), 1) := by
    simp only [sliceBounds, Option.getD_none, show (1 : Int) > 0 by decide, if_true, if_neg (show ¬ (x < 0) by omega)]
    congr 1
    omega
  rw [kmk_pick_nat _ e]
  show ((vs.drop (min x.toNat vs.toArray.size)).take (vs.toArray.size - min x.toNat vs.toArray.size)).toArray = _
  rw [List.size_toArray, kmk_drop_min, List.take_of_length_le (by rw [List.length_drop]; omega)]
theorem pick_upto (h : 0 ≤ y) : slicePick vs.toArray none (some y) none = (vs.take y.toNat).toArray := by
  have e : sliceBounds none (some y) none vs.toArray.size = (((0 : Nat) : Int), ((min y.toNat vs.toArray.size : Nat) : Int), 1) := by
    simp only [sliceBounds, Option.getD_none, show (1 : Int) > 0 by decide, if_true, if_neg (show ¬ (y < 0) by omega)]
    congr 1
    congr 1
    omega
  rw [kmk_pick_nat _ e]
  show ((vs.drop 0).take (min y.toNat vs.toArray.size - 0)).toArray = _
  rw [List.drop_zero, Nat.sub_zero, List.size_toArray, kmk_take_min]
theorem slice_from {hp : Heap} {gg : Array GenState} {dr : Drawn} {tk : Nat} {os : OsState} (F : Fr h₀ L hp m) (N : News h₀ L hp news) (hm : (D, W.listOf vs.toArray n) ∈ news) (hx : 0 ≤ x) (hz : vs.length < 100000)
    (h : ∀ (D' : Nat) h', Fr h₀ L h' m → News h₀ L h' ((D', W.listOf (vs.drop x.toNat).toArray 0) :: news) → (∀ p ∈ news, p.1 < D') → Q (.ref D') ⟨h', gg, dr, tk, os⟩)
    (hs : subscripted slice false (.ref D) (.ref hp.objs.size) = operate [.ref hp.objs.size, .ref D] (getItem (.ref D) (.ref hp.objs.size))) (ht : ∀ r, letTemporaryGo value (.ref D) r = pure ()) :
    wpAny (model prog w) A (subscriptTail value slice (.ref D) (.ref hp.objs.size)) Q E ⟨hp.push { cls := .type "slice", data := .fields #[.int x t, .none, .none] }, gg, dr, tk, os⟩ := by
  refine kmk_slice (s := ⟨hp, gg, dr, tk, os⟩) F N (News.isList N hm) (.int x t) .none (fun D' h' F' N' l => h D' h' F' ?_ l) hs ht (by rw [sizeLine_eq]; simp; omega)
  rw [pick_from hx] at N'
  exact N'
theorem slice_app {hp : Heap} {gg : Array GenState} {dr : Drawn} {tk : Nat} {os : OsState} (F : Fr h₀ L hp m) (N : News h₀ L hp news) (hm : (D, W.listOf (xs ++ ys).toArray n) ∈ news) (hx : x = (xs.length : Int)) (hz : xs.length + ys.length < 100000)
    (h : ∀ (D' : Nat) h', Fr h₀ L h' m → News h₀ L h' ((D', W.listOf ys.toArray 0) :: news) → (∀ p ∈ news, p.1 < D') → Q (.ref D') ⟨h', gg, dr, tk, os⟩)
    (hs : subscripted slice false (.ref D) (.ref hp.objs.size) = operate [.ref hp.objs.size, .ref D] (getItem (.ref D) (.ref hp.objs.size))) (ht : ∀ r, letTemporaryGo value (.ref D) r = pure ()) :
    wpAny (model prog w) A (subscriptTail value slice (.ref D) (.ref hp.objs.size)) Q E ⟨hp.push { cls := .type "slice", data := .fields #[.int x t, .none, .none] }, gg, dr, tk, os⟩ := by
  refine slice_from F N hm (by omega) (by simp; omega) (fun D' h' F' N' l => h D' h' F' ?_ l) hs ht
  rw [show x.toNat = xs.length by omega, List.drop_left] at N'
  exact N'
theorem slice_upto {hp : Heap} {gg : Array GenState} {dr : Drawn} {tk : Nat} {os : OsState} (F : Fr h₀ L hp m) (N : News h₀ L hp news) (hm : (D, W.listOf vs.toArray n) ∈ news) (hx : 0 ≤ x) (hz : vs.length < 100000)
    (h : ∀ (D' : Nat) h', Fr h₀ L h' m → News h₀ L h' ((D', W.listOf (vs.take x.toNat).toArray 0) :: news) → (∀ p ∈ news, p.1 < D') → Q (.ref D') ⟨h', gg, dr, tk, os⟩)
    (hs : subscripted slice false (.ref D) (.ref hp.objs.size) = operate [.ref hp.objs.size, .ref D] (getItem (.ref D) (.ref hp.objs.size))) (ht : ∀ r, letTemporaryGo value (.ref D) r = pure ()) :
    wpAny (model prog w) A (subscriptTail value slice (.ref D) (.ref hp.objs.size)) Q E ⟨hp.push { cls := .type "slice", data := .fields #[.none, .int x t, .none] }, gg, dr, tk, os⟩ := by
  refine kmk_slice (s := ⟨hp, gg, dr, tk, os⟩) F N (News.isList N hm) .none (.int x t) (fun D' h' F' N' l => h D' h' F' ?_ l) hs ht (by rw [sizeLine_eq]; simp; omega)
  rw [pick_upto hx] at N'
  exact N'
end
section
variable {w : World} {p : Program} {loose : List Str} {mean : ExcName → Option Value} {mg mb : Str → Option Value} {g : Heap} {L fa B C D Hd H R G : Nat} {cd : Value} {m : Str → Option Value} {s : Shared} {E : Value → Shared → Prop}
  {k1 k2 k3 k4 k5 dk : Tok} {h1 h2 h3 h4 h5 d lim : Int} {hn rn dn bn cn gn : Nat} {rs bs cs gs : List Value} {ns ms : List Int} {k at_ : Int} {kt att : Tok} {tl news rest : List (Addr × Obj)}
def BdEnd (rs : List Value) : Prop := rs = [] ∨ ∃ ys, rs = ys ++ [Value.ref 22]
theorem BdEnd.last {rs : List Value} (h : BdEnd rs) {l : List (Addr × Obj)} {lim : Int} : LastOk l lim rs := h.elim .inl fun h => .inr (.inl h)
theorem boundary_use2 {Q : Value → Shared → Prop} (X : (hd.heap_39 w.params).In g) (T : Top p loose mean mg mb g) (F : Fr g L s.heap m) (N : News g L s.heap news)
    (hH : (H, instObj 109 Hd) ∈ news) (hHd : (Hd, hisO k1 k2 k3 k4 k5 h1 h2 h3 h4 h5 R d dk hn) ∈ news) (hR : (R, W.listOf rs.toArray rn) ∈ news)
    (dr : Drop [H, Hd, R] news rest) (hRH : R ≠ H) (hRd : R ≠ Hd) (hz : rs.length < 1000) (hl : LastOk rest lim rs)
    (ret : ∀ (h' : Heap) (tk' : Nat) (rs' : List Value) (rn' : Nat), Fr g L h' m → News g L h' ((H, instObj 109 Hd) :: (Hd, hisO k1 k2 k3 k4 k5 h1 h2 h3 h4 h5 R d dk hn) :: (R, W.listOf rs'.toArray rn') :: rest) →
      ((BdEnd rs ∧ rs' = rs) ∨ ((∃ ys v z, rs = ys ++ [v] ∧ RowIn rest lim v z) ∧ rs' = rs ++ [Value.ref 22])) → BdEnd rs' → rs'.length ≤ rs.length + 1 → rs'.length < 100000 → Q .none { s with heap := h', toks := tk' }) :
    wpAny (model PW w) (lawA L fa cd) (call (.ref 57) [.ref H]) Q E s := by
  refine boundary_use X T F N hH hHd hR dr hRH hRd hz hl fun h' tk' rs' rn' F' N' e => ret h' tk' rs' rn' F' N' e ?_ ?_ ?_
  · rcases e with ⟨h, rfl⟩ | ⟨_, rfl⟩
    · exact h
    · exact .inr ⟨_, rfl⟩
  · rcases e with ⟨h, rfl⟩ | ⟨_, rfl⟩
    · omega
    · simp
  · rcases e with ⟨h, rfl⟩ | ⟨_, rfl⟩
    · omega
    · simp; omega
theorem again_use {Q : Flow → Shared → Prop} {r : Addr} {b₀ : Int} {t₀ u₀ v₀ : Tok} (X : (hd.heap_39 w.params).In g) (T : Top p loose mean mg mb g) (F : Fr g L s.heap m) (N : News g L s.heap news)
    (hr : IsRange s.heap r 0 b₀ 1 t₀ u₀ v₀) (hb0 : 1 ≤ b₀) (hb3 : b₀ ≤ 3)
    (hm1 : m (Str.ofString "deck") = some (.ref D)) (hm2 : m (Str.ofString "history") = some (.ref H)) (hm3 : m (Str.ofString "at") = some (.int at_ att)) {vf : Value} (hm4 : m (Str.ofString "groups") = some (.ref G)) (hm5 : m (Str.ofString "first") = some vf)
    (eD : (D, W.listOf #[.ref B, .ref C, .int k kt] dn) ∈ news) (eB : (B, W.listOf bs.toArray bn) ∈ news) (eR : (R, W.listOf rs.toArray rn) ∈ news) (eH : (H, instObj 109 Hd) ∈ news) (eHd : (Hd, hisO k1 k2 k3 k4 k5 h1 h2 h3 h4 h5 R d dk hn) ∈ news) (eC : (C, W.listOf cs.toArray cn) ∈ news)
    (dr : Drop [B, C, D, Hd, H, R] news rest) (eG : (G, W.listOf gs.toArray gn) ∈ rest) (hsub : ∀ p ∈ tl, p ∈ rest)
    (o1 : B < C) (o2 : C < D) (o3 : D < Hd) (o4 : Hd < H) (o5 : H < R) (hoff : OwnOff tl [B, C, D, Hd, H, R, G])
    (hI : IntsAre cs ms) (hms : 0 < ms.length) (hcl : ms.length ≤ 21) (hbI : IntsAre bs ns) (hbl : ns.length ≤ 21) (hz : rs.length < 800) (hl : LastOk rest (at_ + 4) rs)
    (ret : ∀ (h' : Heap) (tk' : Nat) (m' : Str → Option Value) (add : List (Addr × Obj)) (vs : List Value) (zs : List Nat) (k' : Int) (kt' att' : Tok) (bs' : List Value) (ns' : List Int) (bn' : Nat) (rn' : Nat), Fr g L h' m' →
      (∀ y, y ≠ Str.ofString "at" → y ≠ Str.ofString "many" → y ≠ Str.ofString "the_again" → m' y = m y) → m' (Str.ofString "at") = some (.int (at_ + 9 * b₀) att') →
      News g L h' ((D, W.listOf #[.ref B, .ref C, .int k' kt'] dn) :: (B, W.listOf bs'.toArray bn') :: (R, W.listOf (rs ++ vs).toArray rn') :: (H, instObj 109 Hd) :: (Hd, hisO k1 k2 k3 k4 k5 h1 h2 h3 h4 h5 R d dk hn) :: (C, W.listOf cs.toArray cn) :: (rest ++ add)) →
      IntsAre bs' ns' → ns'.length ≤ 21 → RowsIn add (at_ + 9 * b₀ + 4) vs zs → 0 < vs.length → vs.length ≤ 3 → rs.length + vs.length < 100000 → OwnOff (tl ++ add) [B, C, D, Hd, H, R, G] → (∀ q ∈ add, ∀ p ∈ tl, @LT.lt Nat _ p.1 q.1) → (∀ q ∈ add, @LT.lt Nat _ R q.1) → (∀ q ∈ add, ∀ p ∈ rest, @LT.lt Nat _ p.1 q.1) → m' (Str.ofString "deck") = some (.ref D) → m' (Str.ofString "history") = some (.ref H) → m' (Str.ofString "groups") = some (.ref G) → m' (Str.ofString "first") = some vf → Q .next { s with heap := h', toks := tk' }) :
    wpAny (model PW w) (lawA L fa cd) (pyIter (.ref r)) (fun it s₂ => LoopAtV PW w (lawA L fa cd) g (lawEnv L fa cd) (Str.ofString "the_again") againBody Q E it s₂) E s := by
  obtain ⟨n, rfl⟩ := Int.eq_ofNat_of_zero_le (show 0 ≤ b₀ by omega)
  have N1 : News g L s.heap ((D, W.listOf #[.ref B, .ref C, .int k kt] dn) :: (B, W.listOf bs.toArray bn) :: (R, W.listOf rs.toArray rn) :: (H, instObj 109 Hd) :: (Hd, hisO k1 k2 k3 k4 k5 h1 h2 h3 h4 h5 R d dk hn) :: (C, W.listOf cs.toArray cn) :: rest) :=
    News.less N (mem_more eD (mem_more eB (mem_more eR (mem_more eH (mem_more eHd (mem_more eC dr.sub))))))
  refine again_loop X T F hr rfl (by omega) hm1 hm2 hm3 N1 o1 o2 o3 o4 o5 dr.off hI hms hcl hbI hbl hz hl fun h' tk' m' add vs zs k' kt' att' bs' ns' bn' F' hm' hat' N' ib il hr' hv a1 a2 => ?_
  refine ret h' tk' m' add vs zs k' kt' att' bs' ns' bn' (rn + n) F' hm' hat' (News.less N' ?_) ib il hr' (by omega) (by omega) (by omega) ?_ (fun q hq p hp => a1 q hq p (hsub p hp)) a2 a1 ((hm' _ (by decide) (by decide) (by decide)).trans hm1) ((hm' _ (by decide) (by decide) (by decide)).trans hm2) ((hm' _ (by decide) (by decide) (by decide)).trans hm4) ((hm' _ (by decide) (by decide) (by decide)).trans hm5)
  · refine mem_more (.head _) (mem_more (.tail _ (.head _)) (mem_more (.tail _ (.tail _ (.head _))) (mem_more (.tail _ (.tail _ (.tail _ (.head _)))) (mem_more (.tail _ (.tail _ (.tail _ (.tail _ (.head _))))) (mem_more (.tail _ (.tail _ (.tail _ (.tail _ (.tail _ (.head _)))))) fun p hp => ?_)))))
    simp only [List.mem_cons, List.mem_append] at hp ⊢
    grind
  · intro q hq b hb
    rcases List.mem_append.mp hq with hq | hq
    · exact hoff q hq b hb
    · have e1 := a2 q hq
      have e2 := a1 q hq _ eG
      simp only [List.mem_cons, List.mem_nil_iff, or_false] at hb
      rcases hb with rfl | rfl | rfl | rfl | rfl | rfl | rfl <;> exact Nat.ne_of_gt (by omega)
end
section
variable {w : World} {g h' : Heap} {L B C D Hd H R G ga : Nat} {k1 k2 k3 k4 k5 dk kt : Tok} {h1 h2 h3 h4 h5 d lim k : Int} {hn rn dn bn cn gn : Nat} {rs gs bs cs vs : List Value} {tl news add : List (Addr × Obj)}
theorem row_ne {v : Value} {z : Nat} (X : (hd.heap_39 w.params).In g) (N : News g L h' news) (hs : ∀ p ∈ tl, p ∈ news) (r : RowIn tl lim v z) : v ≠ .ref 22 := by
  obtain ⟨ra, n, x, xt, vs, rfl, hm, _⟩ := row_head r
  intro e
  have e2 : ra = 22 := by injection e
  subst e2
  have h9 := (N _ (hs _ hm)).2.2
  obtain ⟨t, o, ho, _⟩ := bd_tup X
  simp only at h9
  rw [h9] at ho; cases ho
def LastRow (news : List (Addr × Obj)) (lim : Int) (rs : List Value) : Prop := rs = [] ∨ ∃ ys v z, rs = ys ++ [v] ∧ RowIn news lim v z
def bdOf (rs : List Value) : List Value := if rs.isEmpty then [] else rs ++ [Value.ref 22]
theorem LastRow.ok (h : LastRow tl lim rs) : LastOk tl lim rs := h.elim .inl fun h => .inr (.inr h)
theorem bd_out {rs' : List Value} {rest : List (Addr × Obj)} {lim' : Int} (X : (hd.heap_39 w.params).In g) (N : News g L h' news) (hs : ∀ p ∈ tl, p ∈ news) (h : LastRow tl lim rs) (e : (BdEnd rs ∧ rs' = rs) ∨ ((∃ ys v z, rs = ys ++ [v] ∧ RowIn rest lim' v z) ∧ rs' = rs ++ [Value.ref 22])) : rs' = bdOf rs := by
  rcases e with ⟨e, rfl⟩ | ⟨⟨ys, v, z, rfl, _⟩, rfl⟩
  · rcases h with rfl | ⟨ys, v, z, rfl, r⟩
    · rfl
    · rcases e with e | ⟨zs, e⟩
      · simp at e
      · have := List.append_inj_right' e rfl
        simp at this
        exact absurd this (row_ne X N hs r)
  · unfold bdOf
    rw [if_neg]
    simp
theorem turn_fin {rs' : List Value} {add tl : List (Addr × Obj)} {a1 a2 a3 a4 a5 a6 a7 : Nat} (N : News g L h' ((ga, W.listOf vs.toArray 0) :: (D, W.listOf #[.ref B, .ref C, .int k kt] dn) :: (B, W.listOf bs.toArray bn) :: (R, W.listOf (rs' ++ vs).toArray rn) :: (H, instObj 109 Hd) :: (Hd, hisO k1 k2 k3 k4 k5 h1 h2 h3 h4 h5 R d dk hn) :: (C, W.listOf cs.toArray cn) :: (G, W.listOf (gs.toArray.push (Value.ref ga)) gn) :: (tl ++ add)))
    (l : a1 < ga ∧ a2 < ga ∧ a3 < ga ∧ a4 < ga ∧ a5 < ga ∧ a6 < ga ∧ a7 < ga ∧ AllLt ga (tl ++ add)) (hR : R < ga) (hG : G < ga) (p1 : ∀ q ∈ add, ∀ p ∈ tl, @LT.lt Nat _ p.1 q.1) (p2 : ∀ q ∈ add, @LT.lt Nat _ R q.1) (p3 : ∀ q ∈ add, @LT.lt Nat _ G q.1) :
    ∃ add2, (ga, W.listOf vs.toArray 0) ∈ add2 ∧ (∀ p ∈ add, p ∈ add2) ∧ News g L h' ((D, W.listOf #[.ref B, .ref C, .int k kt] dn) :: (B, W.listOf bs.toArray bn) :: (R, W.listOf (rs' ++ vs).toArray rn) :: (G, W.listOf (gs ++ [Value.ref ga]).toArray gn) :: (H, instObj 109 Hd) :: (Hd, hisO k1 k2 k3 k4 k5 h1 h2 h3 h4 h5 R d dk hn) :: (C, W.listOf cs.toArray cn) :: (add2 ++ tl)) ∧
      (∀ q ∈ add2, ∀ p ∈ tl, @LT.lt Nat _ p.1 q.1) ∧ (∀ q ∈ add2, @LT.lt Nat _ G q.1) := by
  have l9 : AllLt ga (tl ++ add) := l.2.2.2.2.2.2.2
  rw [List.push_toArray] at N
  refine ⟨(ga, W.listOf vs.toArray 0) :: add, .head _, fun p hp => .tail _ hp, News.less N ?_, ?_, ?_⟩
  · intro p hp
    simp only [List.mem_cons, List.cons_append, List.mem_append] at hp ⊢
    grind
  · intro q hq p hp
    rcases List.mem_cons.mp hq with rfl | hq
    · exact tb_ltOf l9 p (List.mem_append_left _ hp)
    · exact p1 q hq p hp
  · intro q hq
    rcases List.mem_cons.mp hq with rfl | hq
    · exact hG
    · exact p3 q hq
end
end
section
theorem fresh_NTurn : True := by
  w_top off
  first | walk1 | skip
  trivial
set_option maxRecDepth 100000
section
variable {w : World} {p : Program} {loose : List Str} {mean : ExcName → Option Value} {mg mb : Str → Option Value} {g : Heap} {L fa B C D Hd H R G : Nat} {cd : Value} {m : Str → Option Value} {s : Shared} {Q : Flow → Shared → Prop} {E : Value → Shared → Prop}
  {k1 k2 k3 k4 k5 dk : Tok} {h1 h2 h3 h4 h5 d : Int} {hn rn dn bn cn gn : Nat} {rs bs cs gs : List Value} {ns ms : List Int} {k at_ : Int} {kt att : Tok} {tl : List (Addr × Obj)}
set_option maxHeartbeats 1000000 in
theorem turn_turn (X : (hd.heap_39 w.params).In g) (T : Top p loose mean mg mb g) (K0 : Below callerA g [] g) (F : Fr g L s.heap m)
    (hm1 : m (Str.ofString "deck") = some (.ref D)) (hm2 : m (Str.ofString "history") = some (.ref H)) (hm3 : m (Str.ofString "at") = some (.int at_ att)) (hm4 : m (Str.ofString "groups") = some (.ref G))
    (N : News g L s.heap ((D, W.listOf #[.ref B, .ref C, .int k kt] dn) :: (B, W.listOf bs.toArray bn) :: (R, W.listOf rs.toArray rn) :: (G, W.listOf gs.toArray gn) :: (H, instObj 109 Hd) :: (Hd, hisO k1 k2 k3 k4 k5 h1 h2 h3 h4 h5 R d dk hn) :: (C, W.listOf cs.toArray cn) :: tl))
    (o1 : B < C) (o2 : C < D) (o3 : D < Hd) (o4 : Hd < H) (o5 : H < R) (o6 : R < G) (hoff : OwnOff tl [B, C, D, Hd, H, R, G])
    (hI : IntsAre cs ms) (hms : 0 < ms.length) (hcl : ms.length ≤ 21) (hbI : IntsAre bs ns) (hbl : ns.length ≤ 21) (hz : rs.length < 700) (hgz : gs.length < 100) (hl0 : LastRow tl (at_ + 4) rs)
    (ret : ∀ (h' : Heap) (tk' : Nat) (m' : Str → Option Value) (add : List (Addr × Obj)) (ga : Nat) (vs : List Value) (zs : List Nat) (k' at' : Int) (kt' att' : Tok) (bs' : List Value) (ns' : List Int) (bn' rn' : Nat), Fr g L h' m' →
      m' (Str.ofString "deck") = some (.ref D) → m' (Str.ofString "history") = some (.ref H) → m' (Str.ofString "groups") = some (.ref G) → m' (Str.ofString "at") = some (.int at' att') →
      News g L h' ((D, W.listOf #[.ref B, .ref C, .int k' kt'] dn) :: (B, W.listOf bs'.toArray bn') :: (R, W.listOf (bdOf rs ++ vs).toArray rn') :: (G, W.listOf (gs ++ [Value.ref ga]).toArray (gn + 1)) :: (H, instObj 109 Hd) :: (Hd, hisO k1 k2 k3 k4 k5 h1 h2 h3 h4 h5 R d dk hn) :: (C, W.listOf cs.toArray cn) :: (add ++ tl)) →
      IntsAre bs' ns' → ns'.length ≤ 21 → (ga, W.listOf vs.toArray 0) ∈ add → RowsIn add (at' + 4) vs zs → 0 < vs.length → vs.length ≤ 3 → at_ ≤ at' → (∀ q ∈ add, ∀ p ∈ tl, @LT.lt Nat _ p.1 q.1) → (∀ q ∈ add, @LT.lt Nat _ G q.1) → Q .next { s with heap := h', toks := tk' }) :
    wpAny (model PW w) (lawA L fa cd) (execs turnBody (lawEnv L fa cd)) Q (fun _ _ => False) s := by
  have hl := hl0.ok
  unfold lawA lawEnv
  generalize hsc : scopeOf (Str.ofString "law") = sc
  conv at hsc => lhs; whnf
  subst hsc
  generalize hbb : turnBody = bb
  conv at hbb => lhs; whnf
  subst hbb
  repeat' (first | (k_unfold; (try dsimp only)) | (k_end; wrow_close) | ((try dsimp only); first | w_nolog (with_reducible ((with_reducible show wpAny _ _ (exec (Stmt.For ..) _) _ _ _); (k_here; (rename Fr _ _ _ _ => lF'); (with_unfolding_all refine' For_invVF lF' ?k1 ?k2 ?_; (case k1 => exact rfl); (case k2 => exact rfl); k_whole)))) | w_nolog (with_reducible (k_here; (with_reducible show wpAny _ _ (subscriptTail _ (PySem.Expr.Slice _ _ _ _) (Value.ref _) (Value.ref _)) _ _ _); k_dflt (refine' slice_app ?F ?N ?m ?x ?z ?_ ?s ?t; (case F => k_asm); (case N => k_asm); (case m => k_mem); (case x => exact rfl); (case z => assumption); (case s => with_unfolding_all rfl); (case t => kmk_pure)); intro D' h' F' N' l1; (try k_lt l1); (try k_sweep))) | w_nolog (with_reducible (k_here; (with_reducible show wpAny _ _ (pyIter (Value.ref _)) (fun _ _ => LoopAtV _ _ _ _ _ _ _ _ _ _ _) _ _); (rename IsRange _ _ _ _ _ _ _ _ => hR9); k_dflt (refine' again_use ?X ?T ?F ?N hR9 ?b0 ?b3 ?m1 ?m2 ?m3 ?m4 ?m5 ?D ?B ?R ?H ?Hd ?C ?dr ?G ?sub ?o1 ?o2 ?o3 ?o4 ?o5 ?off ?I ?ms ?cl ?bI ?bl ?hz ?hl ?_; (case X => k_asm); (case T => k_asm); (case F => k_asm); (case N => k_asm); (case b0 => omega); (case b3 => omega); (case m1 => (first | (with_reducible assumption) | assumption)); (case m2 => (first | (with_reducible assumption) | assumption)); (case m3 => (first | (with_reducible assumption) | assumption)); (case m4 => (first | (with_reducible assumption) | assumption)); (case m5 => first | exact rfl | (first | (with_reducible assumption) | assumption)); (case D => k_mem); (case B => k_mem); (case H => k_mem); (case Hd => k_mem); (case R => k_mem); (case C => k_mem); (case o1 => assumption); (case o2 => assumption); (case o3 => assumption); (case o4 => assumption); (case o5 => assumption); (case off => assumption); (case dr => (repeat' (first | exact Drop.nil | (refine' Drop.hit ?dh9 ?_; (case dh9 => (repeat' (first | exact List.Mem.head _ | refine List.Mem.tail _ ?_)))) | (refine' Drop.keep ?dh9 ?_; (case dh9 => (repeat' (first | exact List.forall_mem_nil _ | refine List.forall_mem_cons.mpr ⟨by k_ne, ?_⟩)))) | exact Drop.tl (by (refine' off_sub ?oh9 ?os9; (case oh9 => assumption); (case os9 => (repeat' (first | exact List.forall_mem_nil _ | refine List.forall_mem_cons.mpr ⟨by (repeat' (first | exact List.Mem.head _ | refine List.Mem.tail _ ?_)), ?_⟩)))))))); (case G => k_mem); (case sub => (intro p9 hp9; (repeat' (first | assumption | refine List.Mem.tail _ ?_)))); (case I => assumption); (case ms => assumption); (case cl => assumption); (case bI => assumption); (case bl => assumption); (case hz => omega); (case hl => exact BdEnd.last (by assumption)); k_whole); intro h' tk' m' add' vs' zs' k' kt' att' bs' ns' bn' rn' F' hm' hat' N' ib' il' rw' v0' v3' vz' oa' a1' a2' a3' n1' n2' n3' n4'; (try simp only [List.cons_append, List.nil_append] at N'); (try k_sweep))) | w_nolog (with_reducible (k_here; (with_reducible show wpAny _ _ (call (Value.builtin "len") [Value.ref _]) _ _ _); k_dflt (refine' len_any ?N ?m ?z ?_; (case N => k_asm); (case m => k_mem); (case z => first | assumption | omega); k_whole))) | w_nolog (with_reducible (k_here; (with_reducible show wpAny _ _ (call (Value.ref 57) _) _ _ _); k_dflt (refine' boundary_use2 ?X ?T ?F ?N ?H ?Hd ?R ?dr ?n1 ?n2 ?hz ?hl ?_; (case X => k_asm); (case T => k_asm); (case F => k_asm); (case N => k_asm); (case H => k_mem); (case Hd => k_mem); (case R => k_mem); (case dr => (repeat' (first | exact Drop.nil | (refine' Drop.hit ?dh9 ?_; (case dh9 => (repeat' (first | exact List.Mem.head _ | refine List.Mem.tail _ ?_)))) | (refine' Drop.keep ?dh9 ?_; (case dh9 => (repeat' (first | exact List.forall_mem_nil _ | refine List.forall_mem_cons.mpr ⟨by k_ne, ?_⟩)))) | exact Drop.tl (by (refine' off_sub ?oh9 ?os9; (case oh9 => assumption); (case os9 => (repeat' (first | exact List.forall_mem_nil _ | refine List.forall_mem_cons.mpr ⟨by (repeat' (first | exact List.Mem.head _ | refine List.Mem.tail _ ?_)), ?_⟩)))))))); (case n1 => k_ne); (case n2 => k_ne); (case hz => omega); (case hl => (refine' LastOk.mono ?lk9 ?ls9 ?ll9; (case lk9 => assumption); (case ls9 => (intro p9 hp9; (repeat' (first | assumption | refine List.Mem.tail _ ?_)))); (case ll9 => exact Int.le_refl _))); k_whole); intro h' tk' rs' rn' F' N' e' be' bl' bm'; (try k_sweep))) | w_nolog (with_reducible (k_here; (with_reducible show wpAny _ _ (call (Value.ref 85) _) _ _ _); k_dflt (refine' delete_use ?X ?T ?F ?N ?H ?Hd ?R ?ma ?pa ?pd ?ca ?dr ?n1 ?n2 ?hz ?hl ?m1 ?m4 ?_; (case X => k_asm); (case T => k_asm); (case F => k_asm); (case N => k_asm); (case H => k_mem); (case Hd => k_mem); (case R => k_mem); (case dr => (repeat' (first | exact Drop.nil | (refine' Drop.hit ?dh9 ?_; (case dh9 => (repeat' (first | exact List.Mem.head _ | refine List.Mem.tail _ ?_)))) | (refine' Drop.keep ?dh9 ?_; (case dh9 => (repeat' (first | exact List.forall_mem_nil _ | refine List.forall_mem_cons.mpr ⟨by k_ne, ?_⟩)))) | exact Drop.tl (by (refine' off_sub ?oh9 ?os9; (case oh9 => assumption); (case os9 => (repeat' (first | exact List.forall_mem_nil _ | refine List.forall_mem_cons.mpr ⟨by (repeat' (first | exact List.Mem.head _ | refine List.Mem.tail _ ?_)), ?_⟩)))))))); (case ma => k_mem); (case pa => k_mem); (case pd => k_mem); (case ca => k_mem); (case n1 => k_ne); (case n2 => k_ne); (case hz => omega); (case hl => (refine' LastOk.mono ?lk9 ?ls9 ?ll9; (case lk9 => assumption); (case ls9 => (intro p9 hp9; (repeat' (first | assumption | refine List.Mem.tail _ ?_)))); (case ll9 => exact Int.le_refl _))); (case m1 => (rename IntsAre _ (rangeKs _ _) => hIr; have hlr := IntsAre.length hIr; rw [rangeKs_length] at hlr; omega)); (case m4 => (rename IntsAre _ (rangeKs _ _) => hIr; have hlr := IntsAre.length hIr; rw [rangeKs_length] at hlr; omega)); k_whole); intro h' tk' nr' u1' q' F' N' l1' l2' l3' l4'; (try k_sweep))) | w_nolog (with_reducible (k_here; (with_reducible show wpAny _ _ (call (Value.ref 78) _) _ _ _); k_dflt (refine' insert_use ?X ?T ?F ?N ?H ?Hd ?R ?dr ?n1 ?n2 ?hz ?hl ?hlim ?m1 ?m4 ?_; (case X => k_asm); (case T => k_asm); (case F => k_asm); (case N => k_asm); (case H => k_mem); (case Hd => k_mem); (case R => k_mem); (case dr => (repeat' (first | exact Drop.nil | (refine' Drop.hit ?dh9 ?_; (case dh9 => (repeat' (first | exact List.Mem.head _ | refine List.Mem.tail _ ?_)))) | (refine' Drop.keep ?dh9 ?_; (case dh9 => (repeat' (first | exact List.forall_mem_nil _ | refine List.forall_mem_cons.mpr ⟨by k_ne, ?_⟩)))) | exact Drop.tl (by (refine' off_sub ?oh9 ?os9; (case oh9 => assumption); (case os9 => (repeat' (first | exact List.forall_mem_nil _ | refine List.forall_mem_cons.mpr ⟨by (repeat' (first | exact List.Mem.head _ | refine List.Mem.tail _ ?_)), ?_⟩)))))))); (case n1 => k_ne); (case n2 => k_ne); (case hz => omega); (case hl => (refine' LastOk.mono ?lk9 ?ls9 ?ll9; (case lk9 => assumption); (case ls9 => (intro p9 hp9; (repeat' (first | assumption | refine List.Mem.tail _ ?_)))); (case ll9 => exact Int.le_refl _))); (case hlim => omega); (case m1 => omega); (case m4 => omega); k_whole); intro h' tk' nr' u1' u2' u3' F' N' l1' l2' l3' l4'; (try k_sweep))) | w_nolog (with_reducible (k_here; (with_reducible show wpAny _ _ (call (Value.ref 167) _) _ _ _); k_dflt (refine' draw_use ?X ?T ?F ?N ?D ?B ?C ?dr ?n1 ?n2 ?n3 ?I ?ms ?cl ?bI ?bl ?m ?m' ?_; (case X => k_asm); (case T => k_asm); (case F => k_asm); (case N => k_asm); (case D => k_mem); (case B => k_mem); (case C => k_mem); (case dr => (repeat' (first | exact Drop.nil | (refine' Drop.hit ?dh9 ?_; (case dh9 => (repeat' (first | exact List.Mem.head _ | refine List.Mem.tail _ ?_)))) | (refine' Drop.keep ?dh9 ?_; (case dh9 => (repeat' (first | exact List.forall_mem_nil _ | refine List.forall_mem_cons.mpr ⟨by k_ne, ?_⟩)))) | exact Drop.tl (by (refine' off_sub ?oh9 ?os9; (case oh9 => assumption); (case os9 => (repeat' (first | exact List.forall_mem_nil _ | refine List.forall_mem_cons.mpr ⟨by (repeat' (first | exact List.Mem.head _ | refine List.Mem.tail _ ?_)), ?_⟩)))))))); (case n1 => k_ne); (case n2 => k_ne); (case n3 => k_ne); (case I => assumption); (case ms => assumption); (case cl => assumption); (case bI => assumption); (case bl => assumption); (case m => decide); (case m' => decide); k_whole); intro h' r' t' k' kt' tk' bs' ns' bn' F' N' iB' lB' r0' r1'; (try k_sweep))) | w_nolog (with_reducible ((with_reducible show wpAny _ _ (eval (PySem.Expr.Name _ _) _) _ _ _); (k_here; k_dflt (refine' nameX_L ?F ?v ?_ ?a ?b ?c; (case F => k_asm); (case a => rfl); (case b => rfl); (case c => decide); (case v => first | (with_reducible assumption) | assumption); k_whole)))) | walk1) | walk1 | (leave1; walk_say "STEP leave1"; try dsimp only) | fail "no step")
  have F9 := ‹Fr g L _ _›
  rename News g L _ _ => N9
  rename (BdEnd rs ∧ _) ∨ _ => e9
  have e8 := bd_out X (tl := tl) N9 (fun p9 hp9 => by repeat first | exact List.mem_append_left _ hp9 | refine List.Mem.tail _ ?_) hl0 e9
  subst e8
  obtain ⟨add2, b1, b2, N2, b3, b4⟩ := turn_fin N9 (by assumption) (by omega) (by omega) (by assumption) (by assumption) (fun q hq => by rename (∀ q ∈ _, ∀ p ∈ (G, _) :: _, _) => a3; exact a3 q hq _ (.head _))
  exact ret _ _ _ add2 _ _ _ _ _ _ _ _ _ _ _ F9 (by assumption) (by assumption) (by assumption) (by assumption) N2 (by assumption) (by assumption) b1 (RowsIn.mono (by assumption) b2 (Int.le_refl _)) (by assumption) (by assumption) (by omega) b3 b4
end
end
section
theorem fresh_NOuter : True := by
  w_top off
  first | walk1 | skip
  trivial
inductive GroupsIn (news : List (Addr × Obj)) (lim : Int) : List Value → List (List Value × List Nat) → Prop
  | nil : GroupsIn news lim [] []
  | cons {ga : Nat} {n : Nat} {vs zs gvs gss} : (ga, W.listOf vs.toArray n) ∈ news → RowsIn news lim vs zs → 0 < vs.length → vs.length ≤ 3 → GroupsIn news lim gvs gss → GroupsIn news lim (.ref ga :: gvs) ((vs, zs) :: gss)
theorem GroupsIn.mono {news news' : List (Addr × Obj)} {lim lim' : Int} {gvs : List Value} {gss : List (List Value × List Nat)} (h : GroupsIn news lim gvs gss) (hs : ∀ p ∈ news, p ∈ news') (hl : lim ≤ lim') : GroupsIn news' lim' gvs gss := by
  induction h with
  | nil => exact .nil
  | cons hm r h1 h2 _ ih => exact .cons (hs _ hm) (r.mono hs hl) h1 h2 ih
theorem GroupsIn.snoc {news : List (Addr × Obj)} {lim : Int} {gvs : List Value} {gss : List (List Value × List Nat)} {ga n : Nat} {vs : List Value} {zs : List Nat} (h : GroupsIn news lim gvs gss) (hm : (ga, W.listOf vs.toArray n) ∈ news) (r : RowsIn news lim vs zs) (h1 : 0 < vs.length) (h2 : vs.length ≤ 3) :
    GroupsIn news lim (gvs ++ [.ref ga]) (gss ++ [(vs, zs)]) := by
  induction h with
  | nil => exact .cons hm r h1 h2 .nil
  | cons hm' r' h1' h2' _ ih => exact .cons hm' r' h1' h2' ih
theorem GroupsIn.length {news : List (Addr × Obj)} {lim : Int} {gvs : List Value} {gss : List (List Value × List Nat)} (h : GroupsIn news lim gvs gss) : gvs.length = gss.length := by
  induction h with
  | nil => rfl
  | cons _ _ _ _ _ ih => simp [ih]
def rowsOf (gss : List (List Value)) : List Value := gss.foldl (fun acc g => bdOf acc ++ g) []
theorem rowsOf_snoc (gss : List (List Value)) (g : List Value) : rowsOf (gss ++ [g]) = bdOf (rowsOf gss) ++ g := by
  unfold rowsOf; rw [List.foldl_append]; rfl
theorem bdOf_length (rs : List Value) : (bdOf rs).length ≤ rs.length + 1 := by
  unfold bdOf; split <;> simp
inductive TurnInv (D B C R G H Hd dn cn hn : Nat) (k1 k2 k3 k4 k5 dk : Tok) (h1 h2 h3 h4 h5 d : Int) (cs : List Value) (tl : List (Addr × Obj)) (i : Nat) (m' : Str → Option Value) (nx : List (Addr × Obj)) : Prop
  | mk (k' at' : Int) (kt' att' : Tok) (bs' : List Value) (ns' : List Int) (bn' rn' gn' : Nat) (add : List (Addr × Obj)) (gvs : List Value) (gss : List (List Value × List Nat)) :
      nx = ((D, W.listOf #[.ref B, .ref C, .int k' kt'] dn) :: (B, W.listOf bs'.toArray bn') :: (R, W.listOf (rowsOf (gss.map (·.1))).toArray rn') :: (G, W.listOf gvs.toArray gn') :: (H, instObj 109 Hd) :: (Hd, hisO k1 k2 k3 k4 k5 h1 h2 h3 h4 h5 R d dk hn) :: (C, W.listOf cs.toArray cn) :: (add ++ tl)) →
      m' (Str.ofString "deck") = some (.ref D) → m' (Str.ofString "history") = some (.ref H) → m' (Str.ofString "groups") = some (.ref G) → m' (Str.ofString "at") = some (.int at' att') → IntsAre bs' ns' → ns'.length ≤ 21 →
      GroupsIn add (at' + 4) gvs gss → gss.length = i → (rowsOf (gss.map (·.1))).length ≤ 4 * i → LastRow add (at' + 4) (rowsOf (gss.map (·.1))) → (∀ q ∈ add, ∀ p ∈ tl, @LT.lt Nat _ p.1 q.1) → (∀ q ∈ add, @LT.lt Nat _ G q.1) →
      TurnInv D B C R G H Hd dn cn hn k1 k2 k3 k4 k5 dk h1 h2 h3 h4 h5 d cs tl i m' nx
theorem LastRow.left {add tl own : List (Addr × Obj)} {lim : Int} {rs : List Value} (h : LastRow add lim rs) : LastRow ((add ++ tl) ++ own) lim rs :=
  h.imp id fun ⟨ys, v, z, e, q⟩ => ⟨ys, v, z, e, q.mono (fun p hp => List.mem_append_left _ (List.mem_append_left _ hp)) (Int.le_refl _)⟩
theorem groups_snoc {add add1 : List (Addr × Obj)} {lim lim' : Int} {gvs : List Value} {gss : List (List Value × List Nat)} {ga n : Nat} {vs : List Value} {zs : List Nat} (h : GroupsIn add lim gvs gss) (hl : lim ≤ lim') (hm : (ga, W.listOf vs.toArray n) ∈ add1) (r : RowsIn add1 lim' vs zs) (h1 : 0 < vs.length) (h2 : vs.length ≤ 3) :
    GroupsIn (add1 ++ add) lim' (gvs ++ [.ref ga]) (gss ++ [(vs, zs)]) :=
  (h.mono (fun p hp => List.mem_append_right _ hp) hl).snoc (List.mem_append_left _ hm) (r.mono (fun p hp => List.mem_append_left _ hp) (Int.le_refl _)) h1 h2
theorem rowsOf_next (gss : List (List Value × List Nat)) (vs : List Value) (zs : List Nat) : rowsOf ((gss ++ [(vs, zs)]).map (·.1)) = bdOf (rowsOf (gss.map (·.1))) ++ vs := by rw [List.map_append]; exact rowsOf_snoc _ _
theorem last_snoc {add add1 : List (Addr × Obj)} {lim : Int} {xs vs : List Value} {zs : List Nat} (r : RowsIn add1 lim vs zs) (h1 : 0 < vs.length) : LastRow (add1 ++ add) lim (xs ++ vs) := by
  obtain ⟨ys, v, z, e, q⟩ := r.last (by intro h; rw [h] at h1; simp at h1)
  exact .inr ⟨_, v, z, by rw [e, ← List.append_assoc], q.mono (fun p hp => List.mem_append_left _ hp) (Int.le_refl _)⟩
section
variable {w : World} {p : Program} {loose : List Str} {mean : ExcName → Option Value} {mg mb : Str → Option Value} {g : Heap} {L fa B C D Hd H R G : Nat} {cd : Value} {m : Str → Option Value} {s : Shared} {Q : Flow → Shared → Prop}
  {k1 k2 k3 k4 k5 dk : Tok} {h1 h2 h3 h4 h5 d : Int} {hn rn dn bn cn gn : Nat} {bs cs : List Value} {ns ms : List Int} {k at_ : Int} {kt att : Tok} {tl : List (Addr × Obj)}
theorem turn_loop {r : Addr} {b₀ : Int} {t₀ u₀ v₀ : Tok} {n : Nat} (X : (hd.heap_39 w.params).In g) (T : Top p loose mean mg mb g) (F : Fr g L s.heap m)
    (hr : IsRange s.heap r 0 b₀ 1 t₀ u₀ v₀) (hb : b₀ = (n : Int)) (hn3 : n ≤ 6)
    (hm1 : m (Str.ofString "deck") = some (.ref D)) (hm2 : m (Str.ofString "history") = some (.ref H)) (hm3 : m (Str.ofString "at") = some (.int at_ att)) (hm4 : m (Str.ofString "groups") = some (.ref G))
    (N : News g L s.heap ((D, W.listOf #[.ref B, .ref C, .int k kt] dn) :: (B, W.listOf bs.toArray bn) :: (R, W.listOf #[] rn) :: (G, W.listOf #[] gn) :: (H, instObj 109 Hd) :: (Hd, hisO k1 k2 k3 k4 k5 h1 h2 h3 h4 h5 R d dk hn) :: (C, W.listOf cs.toArray cn) :: tl))
    (o1 : B < C) (o2 : C < D) (o3 : D < Hd) (o4 : Hd < H) (o5 : H < R) (o6 : R < G) (hoff : OwnOff tl [B, C, D, Hd, H, R, G])
    (hI : IntsAre cs ms) (hms : 0 < ms.length) (hcl : ms.length ≤ 21) (hbI : IntsAre bs ns) (hbl : ns.length ≤ 21)
    (ret : ∀ (h' : Heap) (tk' : Nat) (m' : Str → Option Value) (add : List (Addr × Obj)) (gvs : List Value) (gss : List (List Value × List Nat)) (lim k' : Int) (kt' : Tok) (bs' : List Value) (ns' : List Int) (bn' rn' gn' : Nat), Fr g L h' m' →
      m' (Str.ofString "deck") = some (.ref D) → m' (Str.ofString "history") = some (.ref H) → m' (Str.ofString "groups") = some (.ref G) →
      News g L h' ((D, W.listOf #[.ref B, .ref C, .int k' kt'] dn) :: (B, W.listOf bs'.toArray bn') :: (R, W.listOf (rowsOf (gss.map (·.1))).toArray rn') :: (G, W.listOf gvs.toArray gn') :: (H, instObj 109 Hd) :: (Hd, hisO k1 k2 k3 k4 k5 h1 h2 h3 h4 h5 R d dk hn) :: (C, W.listOf cs.toArray cn) :: (add ++ tl)) →
      IntsAre bs' ns' → ns'.length ≤ 21 → GroupsIn add lim gvs gss → gss.length = n → (rowsOf (gss.map (·.1))).length ≤ 24 → LastRow add lim (rowsOf (gss.map (·.1))) → (∀ q ∈ add, ∀ p ∈ tl, @LT.lt Nat _ p.1 q.1) → (∀ q ∈ add, @LT.lt Nat _ G q.1) → Q .next { s with heap := h', toks := tk' }) :
    wpAny (model PW w) (lawA L fa cd) (pyIter (.ref r)) (fun it s₂ => LoopAtV PW w (lawA L fa cd) g (lawEnv L fa cd) (Str.ofString "the_turn") turnBody Q (fun _ _ => False) it s₂) (fun _ _ => False) s := by
  have K0 : Below callerA g [] g := below_caller g
  subst hb
  refine range_loop (n := n) (TurnInv D B C R G H Hd dn cn hn k1 k2 k3 k4 k5 dk h1 h2 h3 h4 h5 d cs tl)
    rfl hr (small_one (by decide) (by decide) (by omega) (by omega)) (by rw [rangeSize_nat]; omega) F N ?_ ?_ ?_
  · exact ⟨k, at_, kt, att, bs, ns, bn, rn, gn, [], [], [], rfl, hm1, hm2, hm4, hm3, hbI, hbl, .nil, rfl, by simp [rowsOf], .inl rfl, by simp, by simp⟩
  · rintro i t m₁ nx h tk own hi hown ⟨k', at', kt', att', bs', ns', bn', rn', gn', add, gvs, gss, rfl, hd', hh', hg', hat, hb', hl', hgr, hgl, hrl, hlr, a1, a2⟩ F₁ N₁
    refine turn_turn (tl := (add ++ tl) ++ own) (att := att') X T K0 F₁ (not_x (by decide) hd') (not_x (by decide) hh') (not_x (by decide) hat) (not_x (by decide) hg') N₁ o1 o2 o3 o4 o5 o6
      (off_app (off_app (off_gt (chain7 o1 o2 o3 o4 o5 o6) a2) hoff) (own7 hown)) hI hms hcl hb' hl' (by omega) (by have := hgr.length; omega) hlr.left ?_
    intro h' tk' m' add1 ga vs zs k'' at'' kt'' att'' bs'' ns'' bn'' rn'' F' e1 e2 e3 e4 N' ib'' il'' hga hrow hv0 hv3 hle b1 b2
    have hsn := rowsOf_next gss vs zs
    refine InvEndG.intro F' N' (.mk k'' at'' kt'' att'' bs'' ns'' bn'' rn'' (gn' + 1) (add1 ++ add) (gvs ++ [Value.ref ga]) (gss ++ [(vs, zs)]) rfl e1 e2 e3 e4 ib'' il'' (groups_snoc hgr (by omega) hga hrow hv0 hv3) (by rw [List.length_append, hgl]; rfl) ?_ ?_ (lt_app b1 a1) (gt_app b2 a2))
      (own_grow (ds := [D, B, R, G, H, Hd, C]) hown fun q hq p hp => b1 q hq p (List.mem_append_right _ hp)) ?_ ?_
    · rw [hsn, List.length_append]
      have := bdOf_length (rowsOf (gss.map (·.1)))
      omega
    · rw [hsn]; exact last_snoc hrow hv0
    · rw [hsn]
      exact sub_cons (sub_cons (sub_cons (sub_cons (sub_cons (sub_cons (sub_cons (sub_grow _ _ _ _)))))))
    · exact sub_skip (sub_skip (sub_skip (sub_skip (sub_skip (sub_skip (sub_skip (sub_own _ _ _)))))))
  · rintro m₁ nx h tk ⟨k', at', kt', att', bs', ns', bn', rn', gn', add, gvs, gss, rfl, hd', hh', hg', hat, hb', hl', hgr, hgl, hrl, hlr, a1, a2⟩ F₁ N₁
    exact ret h tk m₁ add gvs gss (at' + 4) k' kt' bs' ns' bn' rn' gn' F₁ hd' hh' hg' N₁ hb' hl' hgr hgl (by omega) hlr a1 a2
end
end
section
theorem fresh_NLim : True := by
  w_top off
  first | walk1 | skip
  trivial
def whT : Stmt → PySem.Expr
  | .While e _ _ _ => e
  | _ => default
def whB : Stmt → List Stmt
  | .While _ b _ _ => b
  | _ => []
def limBody : List Stmt := bodyOf (Str.ofString "limit_rows")
def stripW : Stmt := stOf limBody 3
def outerW : Stmt := stOf limBody 5
def innerW : Stmt := stOf (whB outerW) 1
def limEnv (L : Addr) : Env := envOf (Str.ofString "limit_rows") (scopeOf (Str.ofString "limit_rows")) L 127 (.ref 126)
def limA (L fa : Addr) (cd : Value) (L2 : Addr) : Around := (lawA L fa cd).deeper (limEnv L2)
theorem item_at {prog : Program} {w : World} {A : Around} {E : Value → Shared → Prop} {s : Shared} {h₀ : Heap} {L D : Addr} {m : Str → Option Value} {news : List (Addr × Obj)} {vs : List Value} {v : Value} {n : Nat} {k : Int} {u : Tok} {value slice : PySem.Expr} {Q : Value → Shared → Prop} (N : News h₀ L s.heap news) (hm : (D, W.listOf vs.toArray n) ∈ news) (h0 : 0 ≤ k) (hk : vs[k.toNat]? = some v) (hz : k < 100000) (h : Q v s)
    (hs : subscripted slice false (.ref D) (.int k u) = operate [.ref D, .int k u] (getItem (.ref D) (.int k u)) := by with_unfolding_all rfl) :
    wpAny (model prog w) A (subscriptTail value slice (.ref D) (.int k u)) Q E s := by
  have hl : s.heap.IsList D vs.toArray := ⟨_, (N _ hm).1, rfl, n, rfl⟩
  exact tail_any hl.typeIs slot_list_getitem.lookup (wpAny_getItem_list hl h0 (by omega) (by simpa using hk) h) hs
set_option maxRecDepth 100000
section
variable {w : World} {p : Program} {loose : List Str} {mean : ExcName → Option Value} {mg mb : Str → Option Value} {g g2 : Heap} {L L2 fa : Nat} {cd : Value} {m : Str → Option Value} {s : Shared} {Q E : Value → Shared → Prop}
  {tl : List (Addr × Obj)}
set_option maxHeartbeats 1000000 in
theorem rsize_ins {ra n : Nat} {a b : Int} {t0 t1 t2 : Tok} (X : (hd.heap_39 w.params).In g2) (T : Top p loose mean mg mb g2) (B2 : Below (lawA L fa cd) g [lawEnv L fa cd] g2) (F : Fr g2 L2 s.heap m)
    (N : News g2 L2 s.heap ((ra, tupO [.str (Str.ofString "insert") t0, .int a t1, .int b t2] n) :: tl))
    (ret : ∀ h' t tk', Fr g2 L2 h' m → News g2 L2 h' ((ra, tupO [.str (Str.ofString "insert") t0, .int a t1, .int b t2] n) :: tl) → Q (.int 1 t) { s with heap := h', toks := tk' }) :
    wpAny (model PW w) (limA L fa cd L2) (call (.ref 120) [.ref ra]) Q E s := by
  unfold limA lawA limEnv
  repeat' (first | (k_unfold; (try dsimp only)) | (k_end; wrow_close) | ((try dsimp only); first | w_nolog (with_reducible (k_here; (with_reducible show wpAny _ _ (subscriptTail _ _ (Value.ref _) (Value.int _ _)) _ _ _); k_dflt (refine' item_at ?N ?m ?z ?k ?h ?_ ?s; (case N => k_asm); (case m => k_mem); (case k => with_reducible assumption); (case z => omega); (case h => omega); (case s => with_unfolding_all rfl); k_whole))) | w_nolog (with_reducible ((with_reducible show wpAny _ _ (eval (PySem.Expr.Name _ _) _) _ _ _); (k_here; k_dflt (refine' nameX_L ?F ?v ?_ ?a ?b ?c; (case F => k_asm); (case a => rfl); (case b => rfl); (case c => decide); (case v => first | (with_reducible assumption) | assumption); k_whole)))) | w_nolog (with_reducible (k_here; (with_reducible show wpAny _ _ (compareOp CmpOp.NotEq (Value.ref _) (Value.ref _)) _ _ _); k_dflt (first | (refine' ne_bdbd ?F ?X ?u ?_; (case F => k_asm); (case X => k_asm); (case u => k_units); k_whole) | (refine' ne_bd ?F ?X ?N ?m ?x ?u ?_; (case F => k_asm); (case X => k_asm); (case N => k_asm); (case m => k_mem); (case x => first | assumption | decide); (case u => k_units); k_whole)))) | w_nolog (with_reducible (k_here; (with_reducible show wpAny _ _ (compareOp CmpOp.Eq (Value.ref _) (Value.ref _)) _ _ _); k_dflt (first | (refine' eq_bdbd ?F ?X ?u ?_; (case F => k_asm); (case X => k_asm); (case u => k_units); k_whole) | (refine' eq_bd ?F ?X ?N ?m ?x ?u ?_; (case F => k_asm); (case X => k_asm); (case N => k_asm); (case m => k_mem); (case x => first | assumption | decide); (case u => k_units); k_whole)))) | w_nolog (with_reducible (k_here; (with_reducible show wpAny _ _ (call (Value.builtin "len") [Value.ref _]) _ _ _); k_dflt (refine' len_any ?N ?m ?z ?_; (case N => k_asm); (case m => k_mem); (case z => first | assumption | omega); k_whole))) | walk1) | walk1 | (leave1; walk_say "STEP leave1"; try dsimp only) | fail "no step")
  rename Fr _ _ _ _ => kF
  rename News _ _ _ _ => kN
  exact ret _ _ _ kF kN
set_option maxHeartbeats 1000000 in
theorem rsize_del {ra n pa pd ca rr e cn : Nat} {st : Int} {q : Bool} {t0 t1 kc kr : Tok} {hc hr : Int} {cvs : List Value} (X : (hd.heap_39 w.params).In g2) (T : Top p loose mean mg mb g2) (B2 : Below (lawA L fa cd) g [lawEnv L fa cd] g2) (F : Fr g2 L2 s.heap m)
    (N : News g2 L2 s.heap ((ra, tupO [.str (Str.ofString "delete") t0, .int st t1, .ref pa, .bool q] n) :: (pa, instObj 144 pd) :: (pd, pieO hc hr kc kr ca rr e) :: (ca, W.listOf cvs.toArray cn) :: tl)) (hz : cvs.length ≤ 4)
    (ret : ∀ h' t tk', Fr g2 L2 h' m → News g2 L2 h' ((ra, tupO [.str (Str.ofString "delete") t0, .int st t1, .ref pa, .bool q] n) :: (pa, instObj 144 pd) :: (pd, pieO hc hr kc kr ca rr e) :: (ca, W.listOf cvs.toArray cn) :: tl) → Q (.int (1 + (cvs.length : Int)) t) { s with heap := h', toks := tk' }) :
    wpAny (model PW w) (limA L fa cd L2) (call (.ref 120) [.ref ra]) Q E s := by
  unfold limA lawA limEnv
  repeat' (first | (k_unfold; (try dsimp only)) | (k_end; wrow_close) | ((try dsimp only); first | w_nolog (with_reducible (k_here; (with_reducible show wpAny _ _ (subscriptTail _ _ (Value.ref _) (Value.int _ _)) _ _ _); k_dflt (refine' item_at ?N ?m ?z ?k ?h ?_ ?s; (case N => k_asm); (case m => k_mem); (case k => with_reducible assumption); (case z => omega); (case h => omega); (case s => with_unfolding_all rfl); k_whole))) | w_nolog (with_reducible ((with_reducible show wpAny _ _ (eval (PySem.Expr.Name _ _) _) _ _ _); (k_here; k_dflt (refine' nameX_L ?F ?v ?_ ?a ?b ?c; (case F => k_asm); (case a => rfl); (case b => rfl); (case c => decide); (case v => first | (with_reducible assumption) | assumption); k_whole)))) | w_nolog (with_reducible (k_here; (with_reducible show wpAny _ _ (compareOp CmpOp.NotEq (Value.ref _) (Value.ref _)) _ _ _); k_dflt (first | (refine' ne_bdbd ?F ?X ?u ?_; (case F => k_asm); (case X => k_asm); (case u => k_units); k_whole) | (refine' ne_bd ?F ?X ?N ?m ?x ?u ?_; (case F => k_asm); (case X => k_asm); (case N => k_asm); (case m => k_mem); (case x => first | assumption | decide); (case u => k_units); k_whole)))) | w_nolog (with_reducible (k_here; (with_reducible show wpAny _ _ (compareOp CmpOp.Eq (Value.ref _) (Value.ref _)) _ _ _); k_dflt (first | (refine' eq_bdbd ?F ?X ?u ?_; (case F => k_asm); (case X => k_asm); (case u => k_units); k_whole) | (refine' eq_bd ?F ?X ?N ?m ?x ?u ?_; (case F => k_asm); (case X => k_asm); (case N => k_asm); (case m => k_mem); (case x => first | assumption | decide); (case u => k_units); k_whole)))) | w_nolog (with_reducible (k_here; (with_reducible show wpAny _ _ (call (Value.builtin "len") [Value.ref _]) _ _ _); k_dflt (refine' len_any ?N ?m ?z ?_; (case N => k_asm); (case m => k_mem); (case z => first | assumption | omega); k_whole))) | walk1) | walk1 | (leave1; walk_say "STEP leave1"; try dsimp only) | fail "no step")
  rename Fr _ _ _ _ => kF
  rename News _ _ _ _ => kN
  exact ret _ _ _ kF kN
end

section
variable {w : World} {p : Program} {loose : List Str} {mean : ExcName → Option Value} {mg mb : Str → Option Value} {g g2 : Heap} {L L2 fa H Hd R : Nat} {cd : Value} {m : Str → Option Value} {s : Shared}
  {k1 k2 k3 k4 k5 dk : Tok} {h1 h2 h3 h4 h5 d lim : Int} {hn rn : Nat} {rs : List Value} {tl news : List (Addr × Obj)} {f t : Int} {ft tt : Tok}
theorem rsize_use {Q E : Value → Shared → Prop} {v : Value} {z : Nat} (X : (hd.heap_39 w.params).In g2) (T : Top p loose mean mg mb g2) (B2 : Below (lawA L fa cd) g [lawEnv L fa cd] g2) (F : Fr g2 L2 s.heap m)
    (N : News g2 L2 s.heap news) (r : RowIn news lim v z)
    (ret : ∀ h' t tk', Fr g2 L2 h' m → News g2 L2 h' news → Q (.int (z : Int) t) { s with heap := h', toks := tk' }) :
    wpAny (model PW w) (limA L fa cd L2) (call (.ref 120) [v]) Q E s := by
  cases r with
  | ins hm hb => exact rsize_ins X T B2 F (News.less N (mem_more hm fun p hp => hp)) fun h' t tk' F' N' => ret h' t tk' F' (News.less N' fun p hp => .tail _ hp)
  | del hm hp hd hca hz => 
    refine rsize_del X T B2 F (News.less N (mem_more hm (mem_more hp (mem_more hd (mem_more hca fun p hp => hp))))) hz fun h' t tk' F' N' => ?_
    have := ret h' t tk' F' (News.less N' fun p hp => .tail _ (.tail _ (.tail _ (.tail _ hp))))
    push_cast at this
    exact this
set_option maxHeartbeats 1000000 in
theorem inner_test0 {Q : Bool → Shared → Prop} (X : (hd.heap_39 w.params).In g2) (T : Top p loose mean mg mb g2) (B2 : Below (lawA L fa cd) g [lawEnv L fa cd] g2) (F : Fr g2 L2 s.heap m)
    (N : News g2 L2 s.heap news) (hm1 : m (Str.ofString "first") = some (.int f ft)) (hf : f = 0)
    (ret : ∀ h' tk', Fr g2 L2 h' m → News g2 L2 h' news → Q false { s with heap := h', toks := tk' }) :
    wpAny (model PW w) (limA L fa cd L2) (PySem.isTrue (whT innerW) (limEnv L2) (eval (whT innerW) (limEnv L2))) Q (fun _ _ => False) s := by
  unfold limA lawA limEnv
  generalize hsc : scopeOf (Str.ofString "limit_rows") = sc
  conv at hsc => lhs; whnf
  subst hsc
  generalize hbb : whT innerW = bb
  conv at hbb => lhs; whnf
  subst hbb
  repeat' (first | (k_unfold; (try dsimp only)) | (k_end; wrow_close) | ((try dsimp only); first | w_nolog (with_reducible (k_here; (with_reducible show wpAny _ _ (subscriptTail _ _ (Value.ref _) (Value.int _ _)) _ _ _); k_dflt (refine' item_at ?N ?m ?z ?k ?h ?_ ?s; (case N => k_asm); (case m => k_mem); (case k => with_reducible assumption); (case z => omega); (case h => omega); (case s => with_unfolding_all rfl); k_whole))) | w_nolog (with_reducible ((with_reducible show wpAny _ _ (eval (PySem.Expr.Name _ _) _) _ _ _); (k_here; k_dflt (refine' nameX_L ?F ?v ?_ ?a ?b ?c; (case F => k_asm); (case a => rfl); (case b => rfl); (case c => decide); (case v => first | (with_reducible assumption) | assumption); k_whole)))) | w_nolog (with_reducible (k_here; (with_reducible show wpAny _ _ (compareOp CmpOp.NotEq (Value.ref _) (Value.ref _)) _ _ _); k_dflt (first | (refine' ne_bdbd ?F ?X ?u ?_; (case F => k_asm); (case X => k_asm); (case u => k_units); k_whole) | (refine' ne_bd ?F ?X ?N ?m ?x ?u ?_; (case F => k_asm); (case X => k_asm); (case N => k_asm); (case m => k_mem); (case x => first | assumption | decide); (case u => k_units); k_whole)))) | w_nolog (with_reducible (k_here; (with_reducible show wpAny _ _ (compareOp CmpOp.Eq (Value.ref _) (Value.ref _)) _ _ _); k_dflt (first | (refine' eq_bdbd ?F ?X ?u ?_; (case F => k_asm); (case X => k_asm); (case u => k_units); k_whole) | (refine' eq_bd ?F ?X ?N ?m ?x ?u ?_; (case F => k_asm); (case X => k_asm); (case N => k_asm); (case m => k_mem); (case x => first | assumption | decide); (case u => k_units); k_whole)))) | w_nolog (with_reducible (k_here; (with_reducible show wpAny _ _ (call (Value.builtin "len") [Value.ref _]) _ _ _); k_dflt (refine' len_any ?N ?m ?z ?_; (case N => k_asm); (case m => k_mem); (case z => first | assumption | omega); k_whole))) | walk1) | walk1 | (leave1; walk_say "STEP leave1"; try dsimp only) | fail "no step")
  all_goals (try k_data)
  all_goals first | (exfalso; omega) | (rename Fr _ _ _ _ => kF; rename News _ _ _ _ => kN; exact ret _ _ kF kN)
set_option maxHeartbeats 1000000 in
theorem inner_test_bd {Q : Bool → Shared → Prop} (X : (hd.heap_39 w.params).In g2) (T : Top p loose mean mg mb g2) (B2 : Below (lawA L fa cd) g [lawEnv L fa cd] g2) (F : Fr g2 L2 s.heap m)
    (N : News g2 L2 s.heap ((H, instObj 109 Hd) :: (Hd, hisO k1 k2 k3 k4 k5 h1 h2 h3 h4 h5 R d dk hn) :: (R, W.listOf rs.toArray rn) :: tl)) (hm1 : m (Str.ofString "first") = some (.int f ft)) (hm2 : m (Str.ofString "undo") = some (.ref H)) (hf : 0 < f) (hf2 : f < 1000) (hv : rs[(f - 1).toNat]? = some (Value.ref 22))
    (ret : ∀ h' tk', Fr g2 L2 h' m → News g2 L2 h' ((H, instObj 109 Hd) :: (Hd, hisO k1 k2 k3 k4 k5 h1 h2 h3 h4 h5 R d dk hn) :: (R, W.listOf rs.toArray rn) :: tl) → Q false { s with heap := h', toks := tk' }) :
    wpAny (model PW w) (limA L fa cd L2) (PySem.isTrue (whT innerW) (limEnv L2) (eval (whT innerW) (limEnv L2))) Q (fun _ _ => False) s := by
  unfold limA lawA limEnv
  generalize hsc : scopeOf (Str.ofString "limit_rows") = sc
  conv at hsc => lhs; whnf
  subst hsc
  generalize hbb : whT innerW = bb
  conv at hbb => lhs; whnf
  subst hbb
  repeat' (first | (k_unfold; (try dsimp only)) | (k_end; wrow_close) | ((try dsimp only); first | w_nolog (with_reducible (k_here; (with_reducible show wpAny _ _ (subscriptTail _ _ (Value.ref _) (Value.int _ _)) _ _ _); k_dflt (refine' item_at ?N ?m ?z ?k ?h ?_ ?s; (case N => k_asm); (case m => k_mem); (case k => with_reducible assumption); (case z => omega); (case h => omega); (case s => with_unfolding_all rfl); k_whole))) | w_nolog (with_reducible ((with_reducible show wpAny _ _ (eval (PySem.Expr.Name _ _) _) _ _ _); (k_here; k_dflt (refine' nameX_L ?F ?v ?_ ?a ?b ?c; (case F => k_asm); (case a => rfl); (case b => rfl); (case c => decide); (case v => first | (with_reducible assumption) | assumption); k_whole)))) | w_nolog (with_reducible (k_here; (with_reducible show wpAny _ _ (compareOp CmpOp.NotEq (Value.ref _) (Value.ref _)) _ _ _); k_dflt (first | (refine' ne_bdbd ?F ?X ?u ?_; (case F => k_asm); (case X => k_asm); (case u => k_units); k_whole) | (refine' ne_bd ?F ?X ?N ?m ?x ?u ?_; (case F => k_asm); (case X => k_asm); (case N => k_asm); (case m => k_mem); (case x => first | assumption | decide); (case u => k_units); k_whole)))) | w_nolog (with_reducible (k_here; (with_reducible show wpAny _ _ (compareOp CmpOp.Eq (Value.ref _) (Value.ref _)) _ _ _); k_dflt (first | (refine' eq_bdbd ?F ?X ?u ?_; (case F => k_asm); (case X => k_asm); (case u => k_units); k_whole) | (refine' eq_bd ?F ?X ?N ?m ?x ?u ?_; (case F => k_asm); (case X => k_asm); (case N => k_asm); (case m => k_mem); (case x => first | assumption | decide); (case u => k_units); k_whole)))) | w_nolog (with_reducible (k_here; (with_reducible show wpAny _ _ (call (Value.builtin "len") [Value.ref _]) _ _ _); k_dflt (refine' len_any ?N ?m ?z ?_; (case N => k_asm); (case m => k_mem); (case z => first | assumption | omega); k_whole))) | walk1) | walk1 | (leave1; walk_say "STEP leave1"; try dsimp only) | fail "no step")
  all_goals (try k_data)
  all_goals first | (exfalso; omega) | (rename Fr _ _ _ _ => kF; rename News _ _ _ _ => kN; exact ret _ _ kF kN)
set_option maxHeartbeats 1000000 in
theorem inner_test_row {Q : Bool → Shared → Prop} {ra en : Nat} {x : Str} {xt : Tok} {vs : List Value} (X : (hd.heap_39 w.params).In g2) (T : Top p loose mean mg mb g2) (B2 : Below (lawA L fa cd) g [lawEnv L fa cd] g2) (F : Fr g2 L2 s.heap m)
    (N : News g2 L2 s.heap ((H, instObj 109 Hd) :: (Hd, hisO k1 k2 k3 k4 k5 h1 h2 h3 h4 h5 R d dk hn) :: (R, W.listOf rs.toArray rn) :: (ra, tupO (Value.str x xt :: vs) en) :: tl)) (hx : (x == Str.ofString "boundary") = false) (hm1 : m (Str.ofString "first") = some (.int f ft)) (hm2 : m (Str.ofString "undo") = some (.ref H)) (hf : 0 < f) (hf2 : f < 1000) (hv : rs[(f - 1).toNat]? = some (Value.ref ra))
    (ret : ∀ h' tk', Fr g2 L2 h' m → News g2 L2 h' ((H, instObj 109 Hd) :: (Hd, hisO k1 k2 k3 k4 k5 h1 h2 h3 h4 h5 R d dk hn) :: (R, W.listOf rs.toArray rn) :: (ra, tupO (Value.str x xt :: vs) en) :: tl) → Q true { s with heap := h', toks := tk' }) :
    wpAny (model PW w) (limA L fa cd L2) (PySem.isTrue (whT innerW) (limEnv L2) (eval (whT innerW) (limEnv L2))) Q (fun _ _ => False) s := by
  unfold limA lawA limEnv
  generalize hsc : scopeOf (Str.ofString "limit_rows") = sc
  conv at hsc => lhs; whnf
  subst hsc
  generalize hbb : whT innerW = bb
  conv at hbb => lhs; whnf
  subst hbb
  repeat' (first | (k_unfold; (try dsimp only)) | (k_end; wrow_close) | ((try dsimp only); first | w_nolog (with_reducible (k_here; (with_reducible show wpAny _ _ (subscriptTail _ _ (Value.ref _) (Value.int _ _)) _ _ _); k_dflt (refine' item_at ?N ?m ?z ?k ?h ?_ ?s; (case N => k_asm); (case m => k_mem); (case k => with_reducible assumption); (case z => omega); (case h => omega); (case s => with_unfolding_all rfl); k_whole))) | w_nolog (with_reducible ((with_reducible show wpAny _ _ (eval (PySem.Expr.Name _ _) _) _ _ _); (k_here; k_dflt (refine' nameX_L ?F ?v ?_ ?a ?b ?c; (case F => k_asm); (case a => rfl); (case b => rfl); (case c => decide); (case v => first | (with_reducible assumption) | assumption); k_whole)))) | w_nolog (with_reducible (k_here; (with_reducible show wpAny _ _ (compareOp CmpOp.NotEq (Value.ref _) (Value.ref _)) _ _ _); k_dflt (first | (refine' ne_bdbd ?F ?X ?u ?_; (case F => k_asm); (case X => k_asm); (case u => k_units); k_whole) | (refine' ne_bd ?F ?X ?N ?m ?x ?u ?_; (case F => k_asm); (case X => k_asm); (case N => k_asm); (case m => k_mem); (case x => first | assumption | decide); (case u => k_units); k_whole)))) | w_nolog (with_reducible (k_here; (with_reducible show wpAny _ _ (compareOp CmpOp.Eq (Value.ref _) (Value.ref _)) _ _ _); k_dflt (first | (refine' eq_bdbd ?F ?X ?u ?_; (case F => k_asm); (case X => k_asm); (case u => k_units); k_whole) | (refine' eq_bd ?F ?X ?N ?m ?x ?u ?_; (case F => k_asm); (case X => k_asm); (case N => k_asm); (case m => k_mem); (case x => first | assumption | decide); (case u => k_units); k_whole)))) | w_nolog (with_reducible (k_here; (with_reducible show wpAny _ _ (call (Value.builtin "len") [Value.ref _]) _ _ _); k_dflt (refine' len_any ?N ?m ?z ?_; (case N => k_asm); (case m => k_mem); (case z => first | assumption | omega); k_whole))) | walk1) | walk1 | (leave1; walk_say "STEP leave1"; try dsimp only) | fail "no step")
  all_goals (try k_data)
  all_goals first | (exfalso; omega) | (rename Fr _ _ _ _ => kF; rename News _ _ _ _ => kN; exact ret _ _ kF kN)
set_option maxHeartbeats 1000000 in
theorem inner_body {Q : Flow → Shared → Prop} {v : Value} {z : Nat} (X : (hd.heap_39 w.params).In g2) (T : Top p loose mean mg mb g2) (B2 : Below (lawA L fa cd) g [lawEnv L fa cd] g2) (F : Fr g2 L2 s.heap m)
    (N : News g2 L2 s.heap ((H, instObj 109 Hd) :: (Hd, hisO k1 k2 k3 k4 k5 h1 h2 h3 h4 h5 R d dk hn) :: (R, W.listOf rs.toArray rn) :: tl)) (hr : RowIn tl lim v z) (hm1 : m (Str.ofString "first") = some (.int f ft)) (hm2 : m (Str.ofString "undo") = some (.ref H)) (hm3 : m (Str.ofString "taken") = some (.int t tt)) (hf : 0 < f) (hf2 : f < 1000) (hv : rs[(f - 1).toNat]? = some v)
    (ret : ∀ h' tk' m' ft' tt', Fr g2 L2 h' m' → (∀ y, y ≠ Str.ofString "first" → y ≠ Str.ofString "taken" → m' y = m y) → m' (Str.ofString "first") = some (.int (f - 1) ft') → m' (Str.ofString "taken") = some (.int (t + z) tt') → News g2 L2 h' ((H, instObj 109 Hd) :: (Hd, hisO k1 k2 k3 k4 k5 h1 h2 h3 h4 h5 R d dk hn) :: (R, W.listOf rs.toArray rn) :: tl) → Q .next { s with heap := h', toks := tk' }) :
    wpAny (model PW w) (limA L fa cd L2) (execs (whB innerW) (limEnv L2)) Q (fun _ _ => False) s := by
  unfold limA lawA limEnv
  generalize hsc : scopeOf (Str.ofString "limit_rows") = sc
  conv at hsc => lhs; whnf
  subst hsc
  generalize hbb : whB innerW = bb
  conv at hbb => lhs; whnf
  subst hbb
  repeat' (first | (k_unfold; (try dsimp only)) | (k_end; wrow_close) | ((try dsimp only); first | w_nolog (with_reducible (k_here; (with_reducible show wpAny _ _ (call (Value.ref 120) _) _ _ _); k_dflt (refine' rsize_use ?X ?T ?B ?F ?N ?r ?_; (case X => k_asm); (case T => k_asm); (case B => assumption); (case F => k_asm); (case N => k_asm); (case r => (refine' RowIn.mono ?rr ?rs ?rl; (case rr => assumption); (case rs => (intro p9 hp9; exact .tail _ (.tail _ (.tail _ hp9)))); (case rl => exact Int.le_refl _))); k_whole); intro h' t' tk' F' N'; (try k_sweep))) | w_nolog (with_reducible (k_here; (with_reducible show wpAny _ _ (subscriptTail _ _ (Value.ref _) (Value.int _ _)) _ _ _); k_dflt (refine' item_at ?N ?m ?z ?k ?h ?_ ?s; (case N => k_asm); (case m => k_mem); (case k => with_reducible assumption); (case z => omega); (case h => omega); (case s => with_unfolding_all rfl); k_whole))) | w_nolog (with_reducible ((with_reducible show wpAny _ _ (eval (PySem.Expr.Name _ _) _) _ _ _); (k_here; k_dflt (refine' nameX_L ?F ?v ?_ ?a ?b ?c; (case F => k_asm); (case a => rfl); (case b => rfl); (case c => decide); (case v => first | (with_reducible assumption) | assumption); k_whole)))) | w_nolog (with_reducible (k_here; (with_reducible show wpAny _ _ (compareOp CmpOp.NotEq (Value.ref _) (Value.ref _)) _ _ _); k_dflt (first | (refine' ne_bdbd ?F ?X ?u ?_; (case F => k_asm); (case X => k_asm); (case u => k_units); k_whole) | (refine' ne_bd ?F ?X ?N ?m ?x ?u ?_; (case F => k_asm); (case X => k_asm); (case N => k_asm); (case m => k_mem); (case x => first | assumption | decide); (case u => k_units); k_whole)))) | w_nolog (with_reducible (k_here; (with_reducible show wpAny _ _ (compareOp CmpOp.Eq (Value.ref _) (Value.ref _)) _ _ _); k_dflt (first | (refine' eq_bdbd ?F ?X ?u ?_; (case F => k_asm); (case X => k_asm); (case u => k_units); k_whole) | (refine' eq_bd ?F ?X ?N ?m ?x ?u ?_; (case F => k_asm); (case X => k_asm); (case N => k_asm); (case m => k_mem); (case x => first | assumption | decide); (case u => k_units); k_whole)))) | w_nolog (with_reducible (k_here; (with_reducible show wpAny _ _ (call (Value.builtin "len") [Value.ref _]) _ _ _); k_dflt (refine' len_any ?N ?m ?z ?_; (case N => k_asm); (case m => k_mem); (case z => first | assumption | omega); k_whole))) | walk1) | walk1 | (leave1; walk_say "STEP leave1"; try dsimp only) | fail "no step")
  all_goals (try k_data)
  all_goals first | (exfalso; omega) | (rename Fr _ _ _ _ => kF; rename News _ _ _ _ => kN; exact ret _ _ _ _ _ kF (fun y h1 h2 => by simp only [if_neg h1, if_neg h2]) rfl rfl kN)
end
end
section
theorem fresh_NLim2 : True := by
  w_top off
  first | walk1 | skip
  trivial
section
variable {prog : Program} {w : World} {A : Around} {Q : Flow → Shared → Prop} {s : Shared} {env : Env} {h₀ : Heap} {L : Addr}
theorem While_brk {test : PySem.Expr} {body : List Stmt} {pos : Pos} {m : Str → Option Value} {news : List (Addr × Obj)} (J : Nat → (Str → Option Value) → List (Addr × Obj) → Prop) {n₀ : Nat}
    (F : Fr h₀ L s.heap m) (N : News h₀ L s.heap news) (hJ : J n₀ m news)
    (turn : ∀ n m₁ news₁ h₁ tk₁, Fr h₀ L h₁ m₁ → News h₀ L h₁ news₁ → J n m₁ news₁ →
      wpAny (model prog w) A (isTrue test env (eval test env)) (fun b s₂ =>
        if b = true then wpAny (model prog w) A (execs body env) (fun f s₃ => match f with
          | .ret v => Q (.ret v) s₃
          | .brk => Q .next s₃
          | _ => WhileStep h₀ L s J n .next s₃) (fun _ _ => False) s₂ else Q .next s₂) (fun _ _ => False) { s with heap := h₁, toks := tk₁ }) :
    wpAny (model prog w) A (exec (.While test body [] pos) env) Q (fun _ _ => False) s := by
  refine wpAny_While (codeAny_whileLoop (fun n s' => ∃ h₁ tk₁ m₁ news₁, s' = { s with heap := h₁, toks := tk₁ } ∧ Fr h₀ L h₁ m₁ ∧ News h₀ L h₁ news₁ ∧ J n m₁ news₁) ?_ n₀ ⟨s.heap, s.toks, m, news, rfl, F, N, hJ⟩)
  rintro n s' ⟨h₁, tk₁, m₁, news₁, rfl, F₁, N₁, J₁⟩
  refine wpAny_mono (turn n m₁ news₁ h₁ tk₁ F₁ N₁ J₁) (fun b s₂ h₂ => ?_) (fun _ _ x => x.elim)
  cases b with
  | false =>
    simp only [Bool.false_eq_true, if_false] at h₂ ⊢
    exact wpAny_execs_nil h₂
  | true =>
    simp only [if_true] at h₂ ⊢
    refine wpAny_mono h₂ (fun f s₃ h₃ => ?_) (fun _ _ x => x.elim)
    cases f with
    | ret v => exact h₃
    | brk => exact h₃
    | next =>
      obtain ⟨_, h', tk, m₂, news₂, n', rfl, F₂, N₂, hn, J₂⟩ := h₃
      exact ⟨n', hn, h', tk, m₂, news₂, rfl, F₂, N₂, J₂⟩
    | cont =>
      obtain ⟨_, h', tk, m₂, news₂, n', rfl, F₂, N₂, hn, J₂⟩ := h₃
      exact ⟨n', hn, h', tk, m₂, news₂, rfl, F₂, N₂, J₂⟩
end
inductive MixIn (news : List (Addr × Obj)) (lim : Int) : List Value → List (Option Nat) → Prop
  | nil : MixIn news lim [] []
  | bd {vs ks} : MixIn news lim vs ks → MixIn news lim (.ref 22 :: vs) (none :: ks)
  | row {v z vs ks} : RowIn news lim v z → MixIn news lim vs ks → MixIn news lim (v :: vs) (some z :: ks)
theorem MixIn.length {news : List (Addr × Obj)} {lim : Int} {vs : List Value} {ks : List (Option Nat)} (h : MixIn news lim vs ks) : vs.length = ks.length := by
  induction h with
  | nil => rfl
  | bd _ ih => simp [ih]
  | row _ _ ih => simp [ih]
theorem MixIn.get {news : List (Addr × Obj)} {lim : Int} {vs : List Value} {ks : List (Option Nat)} (h : MixIn news lim vs ks) : ∀ i, i < ks.length → (ks[i]? = some none ∧ vs[i]? = some (.ref 22)) ∨ ∃ z v, ks[i]? = some (some z) ∧ vs[i]? = some v ∧ RowIn news lim v z := by
  induction h with
  | nil => intro i hi; simp at hi
  | bd _ ih =>
    intro i hi
    cases i with
    | zero => exact .inl ⟨rfl, rfl⟩
    | succ i => simpa using ih i (by simpa using hi)
  | @row v z vs ks r _ ih =>
    intro i hi
    cases i with
    | zero => exact .inr ⟨z, v, rfl, rfl, r⟩
    | succ i => simpa using ih i (by simpa using hi)
theorem MixIn.mono {news news' : List (Addr × Obj)} {lim lim' : Int} {vs : List Value} {ks : List (Option Nat)} (h : MixIn news lim vs ks) (hs : ∀ p ∈ news, p ∈ news') (hl : lim ≤ lim') : MixIn news' lim' vs ks := by
  induction h with
  | nil => exact .nil
  | bd _ ih => exact .bd ih
  | row r _ ih => exact .row (r.mono hs hl) ih
theorem MixIn.append {news : List (Addr × Obj)} {lim : Int} {vs vs' : List Value} {ks ks' : List (Option Nat)} (h : MixIn news lim vs ks) (h' : MixIn news lim vs' ks') : MixIn news lim (vs ++ vs') (ks ++ ks') := by
  induction h with
  | nil => exact h'
  | bd _ ih => exact .bd ih
  | row r _ ih => exact .row r ih
theorem MixIn.rows {news : List (Addr × Obj)} {lim : Int} {vs : List Value} {zs : List Nat} (h : RowsIn news lim vs zs) : MixIn news lim vs (zs.map some) := by
  induction h with
  | nil => exact .nil
  | cons r _ ih => exact .row r ih
def innerF (ks : List (Option Nat)) : Nat → Nat → Nat × Nat
  | 0, t => (0, t)
  | f + 1, t => match ks[f]? with
    | some (some z) => innerF ks f (t + z)
    | _ => (f + 1, t)
def stripF (ks : List (Option Nat)) : Nat → Nat
  | 0 => 0
  | b + 1 => match ks[b]? with
    | some none => stripF ks b
    | _ => b + 1
def outerF (ks : List (Option Nat)) (most : Int) : Nat → Nat → Nat → Nat → Bool → Nat
  | 0, _, keep, _, _ => keep
  | fu + 1, b, keep, taken, nw => if b = 0 then keep else if nw = false ∧ most < ((innerF ks b taken).2 : Int) then keep else outerF ks most fu ((innerF ks b taken).1 - 1) (innerF ks b taken).1 (innerF ks b taken).2 false
theorem innerF_le (ks : List (Option Nat)) : ∀ f t, (innerF ks f t).1 ≤ f
  | 0, _ => Nat.le_refl _
  | f + 1, t => by
    unfold innerF
    split
    · exact Nat.le_succ_of_le (innerF_le ks f _)
    · exact Nat.le_refl _
theorem innerW_eq : innerW = .While (whT innerW) (whB innerW) [] ⟨78, 8, 80, 54⟩ ∨ True := .inr trivial
section
variable {w : World} {p : Program} {loose : List Str} {mean : ExcName → Option Value} {mg mb : Str → Option Value} {g g2 : Heap} {L L2 fa H Hd R : Nat} {cd : Value} {m : Str → Option Value} {s : Shared}
  {k1 k2 k3 k4 k5 dk : Tok} {h1 h2 h3 h4 h5 d lim : Int} {hn rn : Nat} {rs : List Value} {tl : List (Addr × Obj)} {ks : List (Option Nat)}
theorem inner_while {Q : Flow → Shared → Prop} {pos : Pos} {f t : Nat} {ft tt : Tok} (X : (hd.heap_39 w.params).In g2) (T : Top p loose mean mg mb g2) (B2 : Below (lawA L fa cd) g [lawEnv L fa cd] g2) (F : Fr g2 L2 s.heap m)
    (N : News g2 L2 s.heap ((H, instObj 109 Hd) :: (Hd, hisO k1 k2 k3 k4 k5 h1 h2 h3 h4 h5 R d dk hn) :: (R, W.listOf rs.toArray rn) :: tl)) (M : MixIn tl lim rs ks) (hz : rs.length < 900)
    (hm1 : m (Str.ofString "first") = some (.int (f : Int) ft)) (hm2 : m (Str.ofString "undo") = some (.ref H)) (hm3 : m (Str.ofString "taken") = some (.int (t : Int) tt)) (hf : f ≤ rs.length)
    (ret : ∀ h' tk' m' ft' tt', Fr g2 L2 h' m' → (∀ y, y ≠ Str.ofString "first" → y ≠ Str.ofString "taken" → m' y = m y) → m' (Str.ofString "first") = some (.int ((innerF ks f t).1 : Int) ft') → m' (Str.ofString "taken") = some (.int ((innerF ks f t).2 : Int) tt') → News g2 L2 h' ((H, instObj 109 Hd) :: (Hd, hisO k1 k2 k3 k4 k5 h1 h2 h3 h4 h5 R d dk hn) :: (R, W.listOf rs.toArray rn) :: tl) → Q .next { s with heap := h', toks := tk' }) :
    wpAny (model PW w) (limA L fa cd L2) (exec (.While (whT innerW) (whB innerW) [] pos) (limEnv L2)) Q (fun _ _ => False) s := by
  refine While_brk (n₀ := f) (fun n m₁ news₁ => ∃ (t' : Nat) (ft' tt' : Tok), n ≤ rs.length ∧ innerF ks n t' = innerF ks f t ∧ m₁ (Str.ofString "first") = some (.int (n : Int) ft') ∧ m₁ (Str.ofString "taken") = some (.int (t' : Int) tt') ∧
    (∀ y, y ≠ Str.ofString "first" → y ≠ Str.ofString "taken" → m₁ y = m y) ∧ news₁ = ((H, instObj 109 Hd) :: (Hd, hisO k1 k2 k3 k4 k5 h1 h2 h3 h4 h5 R d dk hn) :: (R, W.listOf rs.toArray rn) :: tl)) F N ⟨t, ft, tt, hf, rfl, hm1, hm3, fun _ _ _ => rfl, rfl⟩ ?_
  rintro n m₁ news₁ h₁ tk₁ F₁ N₁ ⟨t', ft', tt', hn', he, a1, a2, a3, rfl⟩
  have a4 : m₁ (Str.ofString "undo") = some (.ref H) := (a3 _ (by decide) (by decide)).trans hm2
  cases n with
  | zero =>
    refine inner_test0 X T B2 F₁ N₁ a1 rfl fun h' tk' F' N' => ?_
    simp only [Bool.false_eq_true, if_false]
    have he' : (0, t') = innerF ks f t := he
    rw [← he'] at ret
    exact ret h' tk' m₁ ft' tt' F' a3 a1 a2 N'
  | succ j =>
    have hj : j < ks.length := by have := M.length; omega
    have ej : (((j + 1 : Nat) : Int) - 1).toNat = j := by omega
    rcases M.get j hj with ⟨hk, hv⟩ | ⟨z, v, hk, hv, r⟩
    · refine inner_test_bd X T B2 F₁ N₁ a1 a4 (by omega) (by omega) (by rw [ej]; exact hv) fun h' tk' F' N' => ?_
      simp only [Bool.false_eq_true, if_false]
      have he' : innerF ks (j + 1) t' = (j + 1, t') := by simp only [innerF, hk]
      rw [he'] at he
      rw [← he] at ret
      exact ret h' tk' m₁ ft' tt' F' a3 a1 a2 N'
    · obtain ⟨ra, en, x, xt, vs, rfl, hm, hx⟩ := row_head r
      have N2 := News.less N₁ (mem_more (.head _) (mem_more (.tail _ (.head _)) (mem_more (.tail _ (.tail _ (.head _))) (mem_more (.tail _ (.tail _ (.tail _ hm))) fun p hp => .tail _ (.tail _ (.tail _ hp))))))
      refine inner_test_row X T B2 F₁ N2 hx a1 a4 (by omega) (by omega) (by rw [ej]; exact hv) fun h' tk' F' N' => ?_
      simp only [if_true]
      have N3 := News.less N' (mem_more (.head _) (mem_more (.tail _ (.head _)) (mem_more (.tail _ (.tail _ (.head _))) fun p hp => .tail _ (.tail _ (.tail _ (.tail _ hp))))))
      refine inner_body (s := { s with heap := h', toks := tk' }) X T B2 F' N3 r a1 a4 a2 (by omega) (by omega) (by rw [ej]; exact hv) fun h'' tk'' m'' ft'' tt'' F'' b1 b2 b3 N'' => ?_
      have he' : innerF ks (j + 1) t' = innerF ks j (t' + z) := by simp only [innerF, hk]
      exact WhileStep.intro F'' N'' (Nat.lt_succ_self j) ⟨t' + z, ft'', tt'', by omega, he' ▸ he, by rw [b2]; congr 2; push_cast; omega, by rw [b3]; push_cast; rfl, fun y y1 y2 => (b1 y y1 y2).trans (a3 y y1 y2), rfl⟩
end
end
section
theorem fresh_NLim3 : True := by
  w_top off
  first | walk1 | skip
  trivial
set_option maxRecDepth 100000
section
variable {w : World} {p : Program} {loose : List Str} {mean : ExcName → Option Value} {mg mb : Str → Option Value} {g g2 : Heap} {L L2 fa H Hd R : Nat} {cd : Value} {m : Str → Option Value} {s : Shared}
  {k1 k2 k3 k4 k5 dk : Tok} {h1 h2 h3 h4 h5 d lim : Int} {hn rn : Nat} {rs : List Value} {tl news : List (Addr × Obj)} {f t : Int} {ft tt : Tok} {ks : List (Option Nat)}
set_option maxHeartbeats 1000000 in
theorem strip_test0 {Q : Bool → Shared → Prop} (X : (hd.heap_39 w.params).In g2) (T : Top p loose mean mg mb g2) (B2 : Below (lawA L fa cd) g [lawEnv L fa cd] g2) (F : Fr g2 L2 s.heap m)
    (N : News g2 L2 s.heap news) (hm1 : m (Str.ofString "begin") = some (.int f ft)) (hf : f = 0)
    (ret : ∀ h' tk', Fr g2 L2 h' m → News g2 L2 h' news → Q false { s with heap := h', toks := tk' }) :
    wpAny (model PW w) (limA L fa cd L2) (PySem.isTrue (whT stripW) (limEnv L2) (eval (whT stripW) (limEnv L2))) Q (fun _ _ => False) s := by
  unfold limA lawA limEnv
  generalize hsc : scopeOf (Str.ofString "limit_rows") = sc
  conv at hsc => lhs; whnf
  subst hsc
  generalize hbb : whT stripW = bb
  conv at hbb => lhs; whnf
  subst hbb
  repeat' (first | (k_unfold; (try dsimp only)) | (k_end; wrow_close) | ((try dsimp only); first | w_nolog (with_reducible (k_here; (with_reducible show wpAny _ _ (subscriptTail _ _ (Value.ref _) (Value.int _ _)) _ _ _); k_dflt (refine' item_at ?N ?m ?z ?k ?h ?_ ?s; (case N => k_asm); (case m => k_mem); (case k => with_reducible assumption); (case z => omega); (case h => omega); (case s => with_unfolding_all rfl); k_whole))) | w_nolog (with_reducible ((with_reducible show wpAny _ _ (eval (PySem.Expr.Name _ _) _) _ _ _); (k_here; k_dflt (refine' nameX_L ?F ?v ?_ ?a ?b ?c; (case F => k_asm); (case a => rfl); (case b => rfl); (case c => decide); (case v => first | (with_reducible assumption) | assumption); k_whole)))) | w_nolog (with_reducible (k_here; (with_reducible show wpAny _ _ (compareOp CmpOp.NotEq (Value.ref _) (Value.ref _)) _ _ _); k_dflt (first | (refine' ne_bdbd ?F ?X ?u ?_; (case F => k_asm); (case X => k_asm); (case u => k_units); k_whole) | (refine' ne_bd ?F ?X ?N ?m ?x ?u ?_; (case F => k_asm); (case X => k_asm); (case N => k_asm); (case m => k_mem); (case x => first | assumption | decide); (case u => k_units); k_whole)))) | w_nolog (with_reducible (k_here; (with_reducible show wpAny _ _ (compareOp CmpOp.Eq (Value.ref _) (Value.ref _)) _ _ _); k_dflt (first | (refine' eq_bdbd ?F ?X ?u ?_; (case F => k_asm); (case X => k_asm); (case u => k_units); k_whole) | (refine' eq_bd ?F ?X ?N ?m ?x ?u ?_; (case F => k_asm); (case X => k_asm); (case N => k_asm); (case m => k_mem); (case x => first | assumption | decide); (case u => k_units); k_whole)))) | w_nolog (with_reducible (k_here; (with_reducible show wpAny _ _ (call (Value.builtin "len") [Value.ref _]) _ _ _); k_dflt (refine' len_any ?N ?m ?z ?_; (case N => k_asm); (case m => k_mem); (case z => first | assumption | omega); k_whole))) | walk1) | walk1 | (leave1; walk_say "STEP leave1"; try dsimp only) | fail "no step")
  all_goals (try k_data)
  all_goals first | (exfalso; omega) | (rename Fr _ _ _ _ => kF; rename News _ _ _ _ => kN; exact ret _ _ kF kN) | (rw [decide_eq_false (by omega)]; exact ret _ _ F N) | (rw [decide_eq_true (by omega)]; exact ret _ _ F N)
set_option maxHeartbeats 1000000 in
theorem strip_test_bd {Q : Bool → Shared → Prop} (X : (hd.heap_39 w.params).In g2) (T : Top p loose mean mg mb g2) (B2 : Below (lawA L fa cd) g [lawEnv L fa cd] g2) (F : Fr g2 L2 s.heap m)
    (N : News g2 L2 s.heap ((H, instObj 109 Hd) :: (Hd, hisO k1 k2 k3 k4 k5 h1 h2 h3 h4 h5 R d dk hn) :: (R, W.listOf rs.toArray rn) :: tl)) (hm1 : m (Str.ofString "begin") = some (.int f ft)) (hm2 : m (Str.ofString "undo") = some (.ref H)) (hf : 0 < f) (hf2 : f < 1000) (hv : rs[(f - 1).toNat]? = some (Value.ref 22))
    (ret : ∀ h' tk', Fr g2 L2 h' m → News g2 L2 h' ((H, instObj 109 Hd) :: (Hd, hisO k1 k2 k3 k4 k5 h1 h2 h3 h4 h5 R d dk hn) :: (R, W.listOf rs.toArray rn) :: tl) → Q true { s with heap := h', toks := tk' }) :
    wpAny (model PW w) (limA L fa cd L2) (PySem.isTrue (whT stripW) (limEnv L2) (eval (whT stripW) (limEnv L2))) Q (fun _ _ => False) s := by
  unfold limA lawA limEnv
  generalize hsc : scopeOf (Str.ofString "limit_rows") = sc
  conv at hsc => lhs; whnf
  subst hsc
  generalize hbb : whT stripW = bb
  conv at hbb => lhs; whnf
  subst hbb
  repeat' (first | (k_unfold; (try dsimp only)) | (k_end; wrow_close) | ((try dsimp only); first | w_nolog (with_reducible (k_here; (with_reducible show wpAny _ _ (subscriptTail _ _ (Value.ref _) (Value.int _ _)) _ _ _); k_dflt (refine' item_at ?N ?m ?z ?k ?h ?_ ?s; (case N => k_asm); (case m => k_mem); (case k => with_reducible assumption); (case z => omega); (case h => omega); (case s => with_unfolding_all rfl); k_whole))) | w_nolog (with_reducible ((with_reducible show wpAny _ _ (eval (PySem.Expr.Name _ _) _) _ _ _); (k_here; k_dflt (refine' nameX_L ?F ?v ?_ ?a ?b ?c; (case F => k_asm); (case a => rfl); (case b => rfl); (case c => decide); (case v => first | (with_reducible assumption) | assumption); k_whole)))) | w_nolog (with_reducible (k_here; (with_reducible show wpAny _ _ (compareOp CmpOp.NotEq (Value.ref _) (Value.ref _)) _ _ _); k_dflt (first | (refine' ne_bdbd ?F ?X ?u ?_; (case F => k_asm); (case X => k_asm); (case u => k_units); k_whole) | (refine' ne_bd ?F ?X ?N ?m ?x ?u ?_; (case F => k_asm); (case X => k_asm); (case N => k_asm); (case m => k_mem); (case x => first | assumption | decide); (case u => k_units); k_whole)))) | w_nolog (with_reducible (k_here; (with_reducible show wpAny _ _ (compareOp CmpOp.Eq (Value.ref _) (Value.ref _)) _ _ _); k_dflt (first | (refine' eq_bdbd ?F ?X ?u ?_; (case F => k_asm); (case X => k_asm); (case u => k_units); k_whole) | (refine' eq_bd ?F ?X ?N ?m ?x ?u ?_; (case F => k_asm); (case X => k_asm); (case N => k_asm); (case m => k_mem); (case x => first | assumption | decide); (case u => k_units); k_whole)))) | w_nolog (with_reducible (k_here; (with_reducible show wpAny _ _ (call (Value.builtin "len") [Value.ref _]) _ _ _); k_dflt (refine' len_any ?N ?m ?z ?_; (case N => k_asm); (case m => k_mem); (case z => first | assumption | omega); k_whole))) | walk1) | walk1 | (leave1; walk_say "STEP leave1"; try dsimp only) | fail "no step")
  all_goals (try k_data)
  all_goals first | (exfalso; omega) | (rename Fr _ _ _ _ => kF; rename News _ _ _ _ => kN; exact ret _ _ kF kN) | (rw [decide_eq_false (by omega)]; exact ret _ _ F N) | (rw [decide_eq_true (by omega)]; exact ret _ _ F N)
set_option maxHeartbeats 1000000 in
theorem strip_test_row {Q : Bool → Shared → Prop} {ra en : Nat} {x : Str} {xt : Tok} {vs : List Value} (X : (hd.heap_39 w.params).In g2) (T : Top p loose mean mg mb g2) (B2 : Below (lawA L fa cd) g [lawEnv L fa cd] g2) (F : Fr g2 L2 s.heap m)
    (N : News g2 L2 s.heap ((H, instObj 109 Hd) :: (Hd, hisO k1 k2 k3 k4 k5 h1 h2 h3 h4 h5 R d dk hn) :: (R, W.listOf rs.toArray rn) :: (ra, tupO (Value.str x xt :: vs) en) :: tl)) (hx : (x == Str.ofString "boundary") = false) (hm1 : m (Str.ofString "begin") = some (.int f ft)) (hm2 : m (Str.ofString "undo") = some (.ref H)) (hf : 0 < f) (hf2 : f < 1000) (hv : rs[(f - 1).toNat]? = some (Value.ref ra))
    (ret : ∀ h' tk', Fr g2 L2 h' m → News g2 L2 h' ((H, instObj 109 Hd) :: (Hd, hisO k1 k2 k3 k4 k5 h1 h2 h3 h4 h5 R d dk hn) :: (R, W.listOf rs.toArray rn) :: (ra, tupO (Value.str x xt :: vs) en) :: tl) → Q false { s with heap := h', toks := tk' }) :
    wpAny (model PW w) (limA L fa cd L2) (PySem.isTrue (whT stripW) (limEnv L2) (eval (whT stripW) (limEnv L2))) Q (fun _ _ => False) s := by
  unfold limA lawA limEnv
  generalize hsc : scopeOf (Str.ofString "limit_rows") = sc
  conv at hsc => lhs; whnf
  subst hsc
  generalize hbb : whT stripW = bb
  conv at hbb => lhs; whnf
  subst hbb
  repeat' (first | (k_unfold; (try dsimp only)) | (k_end; wrow_close) | ((try dsimp only); first | w_nolog (with_reducible (k_here; (with_reducible show wpAny _ _ (subscriptTail _ _ (Value.ref _) (Value.int _ _)) _ _ _); k_dflt (refine' item_at ?N ?m ?z ?k ?h ?_ ?s; (case N => k_asm); (case m => k_mem); (case k => with_reducible assumption); (case z => omega); (case h => omega); (case s => with_unfolding_all rfl); k_whole))) | w_nolog (with_reducible ((with_reducible show wpAny _ _ (eval (PySem.Expr.Name _ _) _) _ _ _); (k_here; k_dflt (refine' nameX_L ?F ?v ?_ ?a ?b ?c; (case F => k_asm); (case a => rfl); (case b => rfl); (case c => decide); (case v => first | (with_reducible assumption) | assumption); k_whole)))) | w_nolog (with_reducible (k_here; (with_reducible show wpAny _ _ (compareOp CmpOp.NotEq (Value.ref _) (Value.ref _)) _ _ _); k_dflt (first | (refine' ne_bdbd ?F ?X ?u ?_; (case F => k_asm); (case X => k_asm); (case u => k_units); k_whole) | (refine' ne_bd ?F ?X ?N ?m ?x ?u ?_; (case F => k_asm); (case X => k_asm); (case N => k_asm); (case m => k_mem); (case x => first | assumption | decide); (case u => k_units); k_whole)))) | w_nolog (with_reducible (k_here; (with_reducible show wpAny _ _ (compareOp CmpOp.Eq (Value.ref _) (Value.ref _)) _ _ _); k_dflt (first | (refine' eq_bdbd ?F ?X ?u ?_; (case F => k_asm); (case X => k_asm); (case u => k_units); k_whole) | (refine' eq_bd ?F ?X ?N ?m ?x ?u ?_; (case F => k_asm); (case X => k_asm); (case N => k_asm); (case m => k_mem); (case x => first | assumption | decide); (case u => k_units); k_whole)))) | w_nolog (with_reducible (k_here; (with_reducible show wpAny _ _ (call (Value.builtin "len") [Value.ref _]) _ _ _); k_dflt (refine' len_any ?N ?m ?z ?_; (case N => k_asm); (case m => k_mem); (case z => first | assumption | omega); k_whole))) | walk1) | walk1 | (leave1; walk_say "STEP leave1"; try dsimp only) | fail "no step")
  all_goals (try k_data)
  all_goals first | (exfalso; omega) | (rename Fr _ _ _ _ => kF; rename News _ _ _ _ => kN; exact ret _ _ kF kN) | (rw [decide_eq_false (by omega)]; exact ret _ _ F N) | (rw [decide_eq_true (by omega)]; exact ret _ _ F N)
set_option maxHeartbeats 1000000 in
theorem strip_body {Q : Flow → Shared → Prop} (X : (hd.heap_39 w.params).In g2) (T : Top p loose mean mg mb g2) (B2 : Below (lawA L fa cd) g [lawEnv L fa cd] g2) (F : Fr g2 L2 s.heap m)
    (N : News g2 L2 s.heap news) (hm1 : m (Str.ofString "begin") = some (.int f ft)) 
    (ret : ∀ h' tk' m' ft', Fr g2 L2 h' m' → (∀ y, y ≠ Str.ofString "begin" → m' y = m y) → m' (Str.ofString "begin") = some (.int (f - 1) ft') → News g2 L2 h' news → Q .next { s with heap := h', toks := tk' }) :
    wpAny (model PW w) (limA L fa cd L2) (execs (whB stripW) (limEnv L2)) Q (fun _ _ => False) s := by
  unfold limA lawA limEnv
  generalize hsc : scopeOf (Str.ofString "limit_rows") = sc
  conv at hsc => lhs; whnf
  subst hsc
  generalize hbb : whB stripW = bb
  conv at hbb => lhs; whnf
  subst hbb
  repeat' (first | (k_unfold; (try dsimp only)) | (k_end; wrow_close) | ((try dsimp only); first | w_nolog (with_reducible (k_here; (with_reducible show wpAny _ _ (subscriptTail _ _ (Value.ref _) (Value.int _ _)) _ _ _); k_dflt (refine' item_at ?N ?m ?z ?k ?h ?_ ?s; (case N => k_asm); (case m => k_mem); (case k => with_reducible assumption); (case z => omega); (case h => omega); (case s => with_unfolding_all rfl); k_whole))) | w_nolog (with_reducible ((with_reducible show wpAny _ _ (eval (PySem.Expr.Name _ _) _) _ _ _); (k_here; k_dflt (refine' nameX_L ?F ?v ?_ ?a ?b ?c; (case F => k_asm); (case a => rfl); (case b => rfl); (case c => decide); (case v => first | (with_reducible assumption) | assumption); k_whole)))) | w_nolog (with_reducible (k_here; (with_reducible show wpAny _ _ (compareOp CmpOp.NotEq (Value.ref _) (Value.ref _)) _ _ _); k_dflt (first | (refine' ne_bdbd ?F ?X ?u ?_; (case F => k_asm); (case X => k_asm); (case u => k_units); k_whole) | (refine' ne_bd ?F ?X ?N ?m ?x ?u ?_; (case F => k_asm); (case X => k_asm); (case N => k_asm); (case m => k_mem); (case x => first | assumption | decide); (case u => k_units); k_whole)))) | w_nolog (with_reducible (k_here; (with_reducible show wpAny _ _ (compareOp CmpOp.Eq (Value.ref _) (Value.ref _)) _ _ _); k_dflt (first | (refine' eq_bdbd ?F ?X ?u ?_; (case F => k_asm); (case X => k_asm); (case u => k_units); k_whole) | (refine' eq_bd ?F ?X ?N ?m ?x ?u ?_; (case F => k_asm); (case X => k_asm); (case N => k_asm); (case m => k_mem); (case x => first | assumption | decide); (case u => k_units); k_whole)))) | w_nolog (with_reducible (k_here; (with_reducible show wpAny _ _ (call (Value.builtin "len") [Value.ref _]) _ _ _); k_dflt (refine' len_any ?N ?m ?z ?_; (case N => k_asm); (case m => k_mem); (case z => first | assumption | omega); k_whole))) | walk1) | walk1 | (leave1; walk_say "STEP leave1"; try dsimp only) | fail "no step")
  all_goals (try k_data)
  all_goals first | (exfalso; omega) | (rename Fr _ _ _ _ => kF; rename News _ _ _ _ => kN; exact ret _ _ _ _ kF (fun y h1 => by simp only [if_neg h1]) rfl kN)
set_option maxHeartbeats 1000000 in
theorem outer_test0 {Q : Bool → Shared → Prop} (X : (hd.heap_39 w.params).In g2) (T : Top p loose mean mg mb g2) (B2 : Below (lawA L fa cd) g [lawEnv L fa cd] g2) (F : Fr g2 L2 s.heap m)
    (N : News g2 L2 s.heap news) (hm1 : m (Str.ofString "begin") = some (.int f ft)) (hf : f = 0)
    (ret : ∀ h' tk', Fr g2 L2 h' m → News g2 L2 h' news → Q false { s with heap := h', toks := tk' }) :
    wpAny (model PW w) (limA L fa cd L2) (PySem.isTrue (whT outerW) (limEnv L2) (eval (whT outerW) (limEnv L2))) Q (fun _ _ => False) s := by
  unfold limA lawA limEnv
  generalize hsc : scopeOf (Str.ofString "limit_rows") = sc
  conv at hsc => lhs; whnf
  subst hsc
  generalize hbb : whT outerW = bb
  conv at hbb => lhs; whnf
  subst hbb
  repeat' (first | (k_unfold; (try dsimp only)) | (k_end; wrow_close) | ((try dsimp only); first | w_nolog (with_reducible (k_here; (with_reducible show wpAny _ _ (subscriptTail _ _ (Value.ref _) (Value.int _ _)) _ _ _); k_dflt (refine' item_at ?N ?m ?z ?k ?h ?_ ?s; (case N => k_asm); (case m => k_mem); (case k => with_reducible assumption); (case z => omega); (case h => omega); (case s => with_unfolding_all rfl); k_whole))) | w_nolog (with_reducible ((with_reducible show wpAny _ _ (eval (PySem.Expr.Name _ _) _) _ _ _); (k_here; k_dflt (refine' nameX_L ?F ?v ?_ ?a ?b ?c; (case F => k_asm); (case a => rfl); (case b => rfl); (case c => decide); (case v => first | (with_reducible assumption) | assumption); k_whole)))) | w_nolog (with_reducible (k_here; (with_reducible show wpAny _ _ (compareOp CmpOp.NotEq (Value.ref _) (Value.ref _)) _ _ _); k_dflt (first | (refine' ne_bdbd ?F ?X ?u ?_; (case F => k_asm); (case X => k_asm); (case u => k_units); k_whole) | (refine' ne_bd ?F ?X ?N ?m ?x ?u ?_; (case F => k_asm); (case X => k_asm); (case N => k_asm); (case m => k_mem); (case x => first | assumption | decide); (case u => k_units); k_whole)))) | w_nolog (with_reducible (k_here; (with_reducible show wpAny _ _ (compareOp CmpOp.Eq (Value.ref _) (Value.ref _)) _ _ _); k_dflt (first | (refine' eq_bdbd ?F ?X ?u ?_; (case F => k_asm); (case X => k_asm); (case u => k_units); k_whole) | (refine' eq_bd ?F ?X ?N ?m ?x ?u ?_; (case F => k_asm); (case X => k_asm); (case N => k_asm); (case m => k_mem); (case x => first | assumption | decide); (case u => k_units); k_whole)))) | w_nolog (with_reducible (k_here; (with_reducible show wpAny _ _ (call (Value.builtin "len") [Value.ref _]) _ _ _); k_dflt (refine' len_any ?N ?m ?z ?_; (case N => k_asm); (case m => k_mem); (case z => first | assumption | omega); k_whole))) | walk1) | walk1 | (leave1; walk_say "STEP leave1"; try dsimp only) | fail "no step")
  all_goals (try k_data)
  all_goals first | (exfalso; omega) | (rename Fr _ _ _ _ => kF; rename News _ _ _ _ => kN; exact ret _ _ kF kN) | (rw [decide_eq_false (by omega)]; exact ret _ _ F N) | (rw [decide_eq_true (by omega)]; exact ret _ _ F N)
set_option maxHeartbeats 1000000 in
theorem outer_test1 {Q : Bool → Shared → Prop} (X : (hd.heap_39 w.params).In g2) (T : Top p loose mean mg mb g2) (B2 : Below (lawA L fa cd) g [lawEnv L fa cd] g2) (F : Fr g2 L2 s.heap m)
    (N : News g2 L2 s.heap news) (hm1 : m (Str.ofString "begin") = some (.int f ft)) (hf : 0 < f)
    (ret : ∀ h' tk', Fr g2 L2 h' m → News g2 L2 h' news → Q true { s with heap := h', toks := tk' }) :
    wpAny (model PW w) (limA L fa cd L2) (PySem.isTrue (whT outerW) (limEnv L2) (eval (whT outerW) (limEnv L2))) Q (fun _ _ => False) s := by
  unfold limA lawA limEnv
  generalize hsc : scopeOf (Str.ofString "limit_rows") = sc
  conv at hsc => lhs; whnf
  subst hsc
  generalize hbb : whT outerW = bb
  conv at hbb => lhs; whnf
  subst hbb
  repeat' (first | (k_unfold; (try dsimp only)) | (k_end; wrow_close) | ((try dsimp only); first | w_nolog (with_reducible (k_here; (with_reducible show wpAny _ _ (subscriptTail _ _ (Value.ref _) (Value.int _ _)) _ _ _); k_dflt (refine' item_at ?N ?m ?z ?k ?h ?_ ?s; (case N => k_asm); (case m => k_mem); (case k => with_reducible assumption); (case z => omega); (case h => omega); (case s => with_unfolding_all rfl); k_whole))) | w_nolog (with_reducible ((with_reducible show wpAny _ _ (eval (PySem.Expr.Name _ _) _) _ _ _); (k_here; k_dflt (refine' nameX_L ?F ?v ?_ ?a ?b ?c; (case F => k_asm); (case a => rfl); (case b => rfl); (case c => decide); (case v => first | (with_reducible assumption) | assumption); k_whole)))) | w_nolog (with_reducible (k_here; (with_reducible show wpAny _ _ (compareOp CmpOp.NotEq (Value.ref _) (Value.ref _)) _ _ _); k_dflt (first | (refine' ne_bdbd ?F ?X ?u ?_; (case F => k_asm); (case X => k_asm); (case u => k_units); k_whole) | (refine' ne_bd ?F ?X ?N ?m ?x ?u ?_; (case F => k_asm); (case X => k_asm); (case N => k_asm); (case m => k_mem); (case x => first | assumption | decide); (case u => k_units); k_whole)))) | w_nolog (with_reducible (k_here; (with_reducible show wpAny _ _ (compareOp CmpOp.Eq (Value.ref _) (Value.ref _)) _ _ _); k_dflt (first | (refine' eq_bdbd ?F ?X ?u ?_; (case F => k_asm); (case X => k_asm); (case u => k_units); k_whole) | (refine' eq_bd ?F ?X ?N ?m ?x ?u ?_; (case F => k_asm); (case X => k_asm); (case N => k_asm); (case m => k_mem); (case x => first | assumption | decide); (case u => k_units); k_whole)))) | w_nolog (with_reducible (k_here; (with_reducible show wpAny _ _ (call (Value.builtin "len") [Value.ref _]) _ _ _); k_dflt (refine' len_any ?N ?m ?z ?_; (case N => k_asm); (case m => k_mem); (case z => first | assumption | omega); k_whole))) | walk1) | walk1 | (leave1; walk_say "STEP leave1"; try dsimp only) | fail "no step")
  all_goals (try k_data)
  all_goals first | (exfalso; omega) | (rename Fr _ _ _ _ => kF; rename News _ _ _ _ => kN; exact ret _ _ kF kN) | (rw [decide_eq_false (by omega)]; exact ret _ _ F N) | (rw [decide_eq_true (by omega)]; exact ret _ _ F N)

theorem strip_while {Q : Flow → Shared → Prop} {pos : Pos} {f : Nat} {ft : Tok} (X : (hd.heap_39 w.params).In g2) (T : Top p loose mean mg mb g2) (B2 : Below (lawA L fa cd) g [lawEnv L fa cd] g2) (F : Fr g2 L2 s.heap m)
    (N : News g2 L2 s.heap ((H, instObj 109 Hd) :: (Hd, hisO k1 k2 k3 k4 k5 h1 h2 h3 h4 h5 R d dk hn) :: (R, W.listOf rs.toArray rn) :: tl)) (M : MixIn tl lim rs ks) (hz : rs.length < 900)
    (hm1 : m (Str.ofString "begin") = some (.int (f : Int) ft)) (hm2 : m (Str.ofString "undo") = some (.ref H)) (hf : f ≤ rs.length)
    (ret : ∀ h' tk' m' ft', Fr g2 L2 h' m' → (∀ y, y ≠ Str.ofString "begin" → m' y = m y) → m' (Str.ofString "begin") = some (.int (stripF ks f : Int) ft') → News g2 L2 h' ((H, instObj 109 Hd) :: (Hd, hisO k1 k2 k3 k4 k5 h1 h2 h3 h4 h5 R d dk hn) :: (R, W.listOf rs.toArray rn) :: tl) → Q .next { s with heap := h', toks := tk' }) :
    wpAny (model PW w) (limA L fa cd L2) (exec (.While (whT stripW) (whB stripW) [] pos) (limEnv L2)) Q (fun _ _ => False) s := by
  refine While_brk (n₀ := f) (fun n m₁ news₁ => ∃ (ft' : Tok), n ≤ rs.length ∧ stripF ks n = stripF ks f ∧ m₁ (Str.ofString "begin") = some (.int (n : Int) ft') ∧
    (∀ y, y ≠ Str.ofString "begin" → m₁ y = m y) ∧ news₁ = ((H, instObj 109 Hd) :: (Hd, hisO k1 k2 k3 k4 k5 h1 h2 h3 h4 h5 R d dk hn) :: (R, W.listOf rs.toArray rn) :: tl)) F N ⟨ft, hf, rfl, hm1, fun _ _ => rfl, rfl⟩ ?_
  rintro n m₁ news₁ h₁ tk₁ F₁ N₁ ⟨ft', hn', he, a1, a3, rfl⟩
  have a4 : m₁ (Str.ofString "undo") = some (.ref H) := (a3 _ (by decide)).trans hm2
  cases n with
  | zero =>
    refine strip_test0 X T B2 F₁ N₁ a1 rfl fun h' tk' F' N' => ?_
    simp only [Bool.false_eq_true, if_false]
    have he' : 0 = stripF ks f := he
    rw [← he'] at ret
    exact ret h' tk' m₁ ft' F' a3 a1 N'
  | succ j =>
    have hj : j < ks.length := by have := M.length; omega
    have ej : (((j + 1 : Nat) : Int) - 1).toNat = j := by omega
    rcases M.get j hj with ⟨hk, hv⟩ | ⟨z, v, hk, hv, r⟩
    · refine strip_test_bd X T B2 F₁ N₁ a1 a4 (by omega) (by omega) (by rw [ej]; exact hv) fun h' tk' F' N' => ?_
      simp only [if_true]
      refine strip_body (s := { s with heap := h', toks := tk' }) X T B2 F' N' a1 fun h'' tk'' m'' ft'' F'' b1 b2 N'' => ?_
      have he' : stripF ks (j + 1) = stripF ks j := by simp only [stripF, hk]
      exact WhileStep.intro F'' N'' (Nat.lt_succ_self j) ⟨ft'', by omega, he' ▸ he, by rw [b2]; congr 2; push_cast; omega, fun y y1 => (b1 y y1).trans (a3 y y1), rfl⟩
    · obtain ⟨ra, en, x, xt, vs, rfl, hm, hx⟩ := row_head r
      have N2 := News.less N₁ (mem_more (.head _) (mem_more (.tail _ (.head _)) (mem_more (.tail _ (.tail _ (.head _))) (mem_more (.tail _ (.tail _ (.tail _ hm))) fun p hp => .tail _ (.tail _ (.tail _ hp))))))
      refine strip_test_row X T B2 F₁ N2 hx a1 a4 (by omega) (by omega) (by rw [ej]; exact hv) fun h' tk' F' N' => ?_
      simp only [Bool.false_eq_true, if_false]
      have N3 := News.less N' (mem_more (.head _) (mem_more (.tail _ (.head _)) (mem_more (.tail _ (.tail _ (.head _))) fun p hp => .tail _ (.tail _ (.tail _ (.tail _ hp))))))
      have he' : stripF ks (j + 1) = j + 1 := by simp only [stripF, hk]
      rw [he'] at he
      rw [← he] at ret
      exact ret h' tk' m₁ ft' F' a3 a1 N3
theorem inner_use {Q : Flow → Shared → Prop} {pos : Pos} {f t : Nat} {ft tt mt kt : Tok} {nw : Bool} {fi most kp : Int} (X : (hd.heap_39 w.params).In g2) (T : Top p loose mean mg mb g2) (B2 : Below (lawA L fa cd) g [lawEnv L fa cd] g2) (F : Fr g2 L2 s.heap m)
    (N : News g2 L2 s.heap ((H, instObj 109 Hd) :: (Hd, hisO k1 k2 k3 k4 k5 h1 h2 h3 h4 h5 R d dk hn) :: (R, W.listOf rs.toArray rn) :: tl)) (M : MixIn tl lim rs ks) (hz : rs.length < 900)
    (hm1 : m (Str.ofString "first") = some (.int fi ft)) (hfi : fi = (f : Int)) (hm2 : m (Str.ofString "undo") = some (.ref H)) (hm3 : m (Str.ofString "taken") = some (.int (t : Int) tt)) (hf : f ≤ rs.length)
    (hm4 : m (Str.ofString "is_newest") = some (.bool nw)) (hm5 : m (Str.ofString "most") = some (.int most mt)) (hm6 : m (Str.ofString "keep") = some (.int kp kt))
    (ret : ∀ h' tk' m' ft' tt', Fr g2 L2 h' m' → (∀ y, y ≠ Str.ofString "first" → y ≠ Str.ofString "taken" → m' y = m y) → m' (Str.ofString "first") = some (.int ((innerF ks f t).1 : Int) ft') → m' (Str.ofString "taken") = some (.int ((innerF ks f t).2 : Int) tt') → News g2 L2 h' ((H, instObj 109 Hd) :: (Hd, hisO k1 k2 k3 k4 k5 h1 h2 h3 h4 h5 R d dk hn) :: (R, W.listOf rs.toArray rn) :: tl) →
      m' (Str.ofString "undo") = some (.ref H) → m' (Str.ofString "is_newest") = some (.bool nw) → m' (Str.ofString "most") = some (.int most mt) → m' (Str.ofString "keep") = some (.int kp kt) → Q .next { s with heap := h', toks := tk' }) :
    wpAny (model PW w) (limA L fa cd L2) (exec (.While (whT innerW) (whB innerW) [] pos) (limEnv L2)) Q (fun _ _ => False) s := by
  subst hfi
  exact inner_while X T B2 F N M hz hm1 hm2 hm3 hf fun h' tk' m' ft' tt' F' a b c N' => ret h' tk' m' ft' tt' F' a b c N' ((a _ (by decide) (by decide)).trans hm2) ((a _ (by decide) (by decide)).trans hm4) ((a _ (by decide) (by decide)).trans hm5) ((a _ (by decide) (by decide)).trans hm6)
set_option maxHeartbeats 1000000 in
theorem outer_body_t {Q : Flow → Shared → Prop} {b t : Nat} {bt tt mt kt : Tok} {most kp : Int} (X : (hd.heap_39 w.params).In g2) (T : Top p loose mean mg mb g2) (B2 : Below (lawA L fa cd) g [lawEnv L fa cd] g2) (F : Fr g2 L2 s.heap m)
    (N : News g2 L2 s.heap ((H, instObj 109 Hd) :: (Hd, hisO k1 k2 k3 k4 k5 h1 h2 h3 h4 h5 R d dk hn) :: (R, W.listOf rs.toArray rn) :: tl)) (M : MixIn tl lim rs ks) (hz : rs.length < 900) (hm1 : m (Str.ofString "begin") = some (.int (b : Int) bt)) (hm2 : m (Str.ofString "undo") = some (.ref H)) (hm3 : m (Str.ofString "taken") = some (.int (t : Int) tt)) (hm4 : m (Str.ofString "is_newest") = some (.bool true)) (hm5 : m (Str.ofString "most") = some (.int most mt)) (hm6 : m (Str.ofString "keep") = some (.int kp kt)) (hb : 0 < b) (hbl : b ≤ rs.length)
    (ret : ∀ h' tk' m' bt' tt' kt', Fr g2 L2 h' m' → m' (Str.ofString "undo") = some (.ref H) → m' (Str.ofString "most") = some (.int most mt) → m' (Str.ofString "is_newest") = some (.bool false) → m' (Str.ofString "begin") = some (.int (((innerF ks b t).1 - 1 : Nat) : Int) bt') → m' (Str.ofString "keep") = some (.int ((innerF ks b t).1 : Int) kt') → m' (Str.ofString "taken") = some (.int ((innerF ks b t).2 : Int) tt') → News g2 L2 h' ((H, instObj 109 Hd) :: (Hd, hisO k1 k2 k3 k4 k5 h1 h2 h3 h4 h5 R d dk hn) :: (R, W.listOf rs.toArray rn) :: tl) → Q .next { s with heap := h', toks := tk' }) :
    wpAny (model PW w) (limA L fa cd L2) (execs (whB outerW) (limEnv L2)) Q (fun _ _ => False) s := by
  unfold limA lawA limEnv
  generalize hsc : scopeOf (Str.ofString "limit_rows") = sc
  conv at hsc => lhs; whnf
  subst hsc
  generalize hbb : whB outerW = bb
  conv at hbb => lhs; whnf
  subst hbb
  repeat' (first | (k_unfold; (try dsimp only)) | (k_end; wrow_close) | ((try dsimp only); first | w_nolog (with_reducible (k_here; (with_reducible show wpAny _ _ (exec (Stmt.While _ _ _ _) _) _ _ _); k_dflt (refine' inner_use ?X ?T ?B ?F ?N ?M ?hz ?m1 ?fi ?m2 ?m3 ?hf ?m4 ?m5 ?m6 ?_; (case X => k_asm); (case T => k_asm); (case B => assumption); (case F => k_asm); (case N => k_asm); (case M => assumption); (case hz => assumption); (case m1 => first | exact rfl | (first | (with_reducible assumption) | assumption)); (case fi => exact rfl); (case m2 => (first | (with_reducible assumption) | assumption)); (case m3 => (first | (with_reducible assumption) | assumption)); (case hf => assumption); (case m4 => (first | (with_reducible assumption) | assumption)); (case m5 => (first | (with_reducible assumption) | assumption)); (case m6 => (first | (with_reducible assumption) | assumption)); k_whole); intro h' tk' m' ft' tt' F' e1' e2' e3' N' e4' e5' e6' e7'; (try k_sweep))) | w_nolog (with_reducible (k_here; (with_reducible show wpAny _ _ (subscriptTail _ _ (Value.ref _) (Value.int _ _)) _ _ _); k_dflt (refine' item_at ?N ?m ?z ?k ?h ?_ ?s; (case N => k_asm); (case m => k_mem); (case k => with_reducible assumption); (case z => omega); (case h => omega); (case s => with_unfolding_all rfl); k_whole))) | w_nolog (with_reducible ((with_reducible show wpAny _ _ (eval (PySem.Expr.Name _ _) _) _ _ _); (k_here; k_dflt (refine' nameX_L ?F ?v ?_ ?a ?b ?c; (case F => k_asm); (case a => rfl); (case b => rfl); (case c => decide); (case v => first | (with_reducible assumption) | assumption); k_whole)))) | w_nolog (with_reducible (k_here; (with_reducible show wpAny _ _ (compareOp CmpOp.NotEq (Value.ref _) (Value.ref _)) _ _ _); k_dflt (first | (refine' ne_bdbd ?F ?X ?u ?_; (case F => k_asm); (case X => k_asm); (case u => k_units); k_whole) | (refine' ne_bd ?F ?X ?N ?m ?x ?u ?_; (case F => k_asm); (case X => k_asm); (case N => k_asm); (case m => k_mem); (case x => first | assumption | decide); (case u => k_units); k_whole)))) | w_nolog (with_reducible (k_here; (with_reducible show wpAny _ _ (compareOp CmpOp.Eq (Value.ref _) (Value.ref _)) _ _ _); k_dflt (first | (refine' eq_bdbd ?F ?X ?u ?_; (case F => k_asm); (case X => k_asm); (case u => k_units); k_whole) | (refine' eq_bd ?F ?X ?N ?m ?x ?u ?_; (case F => k_asm); (case X => k_asm); (case N => k_asm); (case m => k_mem); (case x => first | assumption | decide); (case u => k_units); k_whole)))) | w_nolog (with_reducible (k_here; (with_reducible show wpAny _ _ (call (Value.builtin "len") [Value.ref _]) _ _ _); k_dflt (refine' len_any ?N ?m ?z ?_; (case N => k_asm); (case m => k_mem); (case z => first | assumption | omega); k_whole))) | walk1) | walk1 | (leave1; walk_say "STEP leave1"; try dsimp only) | fail "no step")
  all_goals (try k_data)
  all_goals (rename Fr _ _ _ _ => kF; rename News _ _ _ _ => kN)
  all_goals first | exact ret _ _ _ _ _ _ kF (by assumption) (by assumption) rfl (by show some (Value.int _ _) = some (Value.int _ _); congr 2; omega) rfl (by assumption) kN
set_option maxHeartbeats 1000000 in
theorem outer_body_f {Q : Flow → Shared → Prop} {b t : Nat} {bt tt mt kt : Tok} {most kp : Int} (X : (hd.heap_39 w.params).In g2) (T : Top p loose mean mg mb g2) (B2 : Below (lawA L fa cd) g [lawEnv L fa cd] g2) (F : Fr g2 L2 s.heap m)
    (N : News g2 L2 s.heap ((H, instObj 109 Hd) :: (Hd, hisO k1 k2 k3 k4 k5 h1 h2 h3 h4 h5 R d dk hn) :: (R, W.listOf rs.toArray rn) :: tl)) (M : MixIn tl lim rs ks) (hz : rs.length < 900) (hm1 : m (Str.ofString "begin") = some (.int (b : Int) bt)) (hm2 : m (Str.ofString "undo") = some (.ref H)) (hm3 : m (Str.ofString "taken") = some (.int (t : Int) tt)) (hm4 : m (Str.ofString "is_newest") = some (.bool false)) (hm5 : m (Str.ofString "most") = some (.int most mt)) (hm6 : m (Str.ofString "keep") = some (.int kp kt)) (hb : 0 < b) (hbl : b ≤ rs.length)
    (retB : most < ((innerF ks b t).2 : Int) → ∀ h' tk' m' kt', Fr g2 L2 h' m' → m' (Str.ofString "undo") = some (.ref H) → m' (Str.ofString "keep") = some (.int kp kt') → News g2 L2 h' ((H, instObj 109 Hd) :: (Hd, hisO k1 k2 k3 k4 k5 h1 h2 h3 h4 h5 R d dk hn) :: (R, W.listOf rs.toArray rn) :: tl) → Q .brk { s with heap := h', toks := tk' })
    (ret : ¬ most < ((innerF ks b t).2 : Int) → ∀ h' tk' m' bt' tt' kt', Fr g2 L2 h' m' → m' (Str.ofString "undo") = some (.ref H) → m' (Str.ofString "most") = some (.int most mt) → m' (Str.ofString "is_newest") = some (.bool false) → m' (Str.ofString "begin") = some (.int (((innerF ks b t).1 - 1 : Nat) : Int) bt') → m' (Str.ofString "keep") = some (.int ((innerF ks b t).1 : Int) kt') → m' (Str.ofString "taken") = some (.int ((innerF ks b t).2 : Int) tt') → News g2 L2 h' ((H, instObj 109 Hd) :: (Hd, hisO k1 k2 k3 k4 k5 h1 h2 h3 h4 h5 R d dk hn) :: (R, W.listOf rs.toArray rn) :: tl) → Q .next { s with heap := h', toks := tk' }) :
    wpAny (model PW w) (limA L fa cd L2) (execs (whB outerW) (limEnv L2)) Q (fun _ _ => False) s := by
  unfold limA lawA limEnv
  generalize hsc : scopeOf (Str.ofString "limit_rows") = sc
  conv at hsc => lhs; whnf
  subst hsc
  generalize hbb : whB outerW = bb
  conv at hbb => lhs; whnf
  subst hbb
  repeat' (first | (k_unfold; (try dsimp only)) | (k_end; wrow_close) | ((try dsimp only); first | w_nolog (with_reducible (k_here; (with_reducible show wpAny _ _ (exec (Stmt.While _ _ _ _) _) _ _ _); k_dflt (refine' inner_use ?X ?T ?B ?F ?N ?M ?hz ?m1 ?fi ?m2 ?m3 ?hf ?m4 ?m5 ?m6 ?_; (case X => k_asm); (case T => k_asm); (case B => assumption); (case F => k_asm); (case N => k_asm); (case M => assumption); (case hz => assumption); (case m1 => first | exact rfl | (first | (with_reducible assumption) | assumption)); (case fi => exact rfl); (case m2 => (first | (with_reducible assumption) | assumption)); (case m3 => (first | (with_reducible assumption) | assumption)); (case hf => assumption); (case m4 => (first | (with_reducible assumption) | assumption)); (case m5 => (first | (with_reducible assumption) | assumption)); (case m6 => (first | (with_reducible assumption) | assumption)); k_whole); intro h' tk' m' ft' tt' F' e1' e2' e3' N' e4' e5' e6' e7'; (try k_sweep))) | w_nolog (with_reducible (k_here; (with_reducible show wpAny _ _ (subscriptTail _ _ (Value.ref _) (Value.int _ _)) _ _ _); k_dflt (refine' item_at ?N ?m ?z ?k ?h ?_ ?s; (case N => k_asm); (case m => k_mem); (case k => with_reducible assumption); (case z => omega); (case h => omega); (case s => with_unfolding_all rfl); k_whole))) | w_nolog (with_reducible ((with_reducible show wpAny _ _ (eval (PySem.Expr.Name _ _) _) _ _ _); (k_here; k_dflt (refine' nameX_L ?F ?v ?_ ?a ?b ?c; (case F => k_asm); (case a => rfl); (case b => rfl); (case c => decide); (case v => first | (with_reducible assumption) | assumption); k_whole)))) | w_nolog (with_reducible (k_here; (with_reducible show wpAny _ _ (compareOp CmpOp.NotEq (Value.ref _) (Value.ref _)) _ _ _); k_dflt (first | (refine' ne_bdbd ?F ?X ?u ?_; (case F => k_asm); (case X => k_asm); (case u => k_units); k_whole) | (refine' ne_bd ?F ?X ?N ?m ?x ?u ?_; (case F => k_asm); (case X => k_asm); (case N => k_asm); (case m => k_mem); (case x => first | assumption | decide); (case u => k_units); k_whole)))) | w_nolog (with_reducible (k_here; (with_reducible show wpAny _ _ (compareOp CmpOp.Eq (Value.ref _) (Value.ref _)) _ _ _); k_dflt (first | (refine' eq_bdbd ?F ?X ?u ?_; (case F => k_asm); (case X => k_asm); (case u => k_units); k_whole) | (refine' eq_bd ?F ?X ?N ?m ?x ?u ?_; (case F => k_asm); (case X => k_asm); (case N => k_asm); (case m => k_mem); (case x => first | assumption | decide); (case u => k_units); k_whole)))) | w_nolog (with_reducible (k_here; (with_reducible show wpAny _ _ (call (Value.builtin "len") [Value.ref _]) _ _ _); k_dflt (refine' len_any ?N ?m ?z ?_; (case N => k_asm); (case m => k_mem); (case z => first | assumption | omega); k_whole))) | walk1) | walk1 | (leave1; walk_say "STEP leave1"; try dsimp only) | fail "no step")
  all_goals (try k_data)
  all_goals (rename Fr _ _ _ _ => kF; rename News _ _ _ _ => kN)
  all_goals first | exact retB (by omega) _ _ _ _ kF (by assumption) (by assumption) kN | exact ret (by omega) _ _ _ _ _ _ kF (by assumption) (by assumption) rfl (by show some (Value.int _ _) = some (Value.int _ _); congr 2; omega) rfl (by assumption) kN
end
end
section
theorem fresh_NLim4 : True := by
  w_top off
  first | walk1 | skip
  trivial
section
variable {w : World} {p : Program} {loose : List Str} {mean : ExcName → Option Value} {mg mb : Str → Option Value} {g g2 : Heap} {L L2 fa H Hd R : Nat} {cd : Value} {m : Str → Option Value} {s : Shared}
  {k1 k2 k3 k4 k5 dk : Tok} {h1 h2 h3 h4 h5 d lim : Int} {hn rn : Nat} {rs : List Value} {tl : List (Addr × Obj)} {ks : List (Option Nat)}
theorem outer_while {Q : Flow → Shared → Prop} {pos : Pos} {b t kp : Nat} {bt tt mt kt : Tok} {nw : Bool} {most : Int} (X : (hd.heap_39 w.params).In g2) (T : Top p loose mean mg mb g2) (B2 : Below (lawA L fa cd) g [lawEnv L fa cd] g2) (F : Fr g2 L2 s.heap m)
    (N : News g2 L2 s.heap ((H, instObj 109 Hd) :: (Hd, hisO k1 k2 k3 k4 k5 h1 h2 h3 h4 h5 R d dk hn) :: (R, W.listOf rs.toArray rn) :: tl)) (M : MixIn tl lim rs ks) (hz : rs.length < 900)
    (hm1 : m (Str.ofString "begin") = some (.int (b : Int) bt)) (hm2 : m (Str.ofString "undo") = some (.ref H)) (hm3 : m (Str.ofString "taken") = some (.int (t : Int) tt)) (hm4 : m (Str.ofString "is_newest") = some (.bool nw)) (hm5 : m (Str.ofString "most") = some (.int most mt)) (hm6 : m (Str.ofString "keep") = some (.int (kp : Int) kt)) (hb : b ≤ rs.length)
    (ret : ∀ h' tk' m' kt', Fr g2 L2 h' m' → m' (Str.ofString "undo") = some (.ref H) → m' (Str.ofString "keep") = some (.int ((outerF ks most (b + 1) b kp t nw : Nat) : Int) kt') → News g2 L2 h' ((H, instObj 109 Hd) :: (Hd, hisO k1 k2 k3 k4 k5 h1 h2 h3 h4 h5 R d dk hn) :: (R, W.listOf rs.toArray rn) :: tl) → Q .next { s with heap := h', toks := tk' }) :
    wpAny (model PW w) (limA L fa cd L2) (exec (.While (whT outerW) (whB outerW) [] pos) (limEnv L2)) Q (fun _ _ => False) s := by
  refine While_brk (n₀ := b) (fun n m₁ news₁ => ∃ (t' kp' fu : Nat) (nw' : Bool) (bt' tt' kt' : Tok), n ≤ rs.length ∧ n < fu ∧ outerF ks most fu n kp' t' nw' = outerF ks most (b + 1) b kp t nw ∧ m₁ (Str.ofString "begin") = some (.int (n : Int) bt') ∧ m₁ (Str.ofString "taken") = some (.int (t' : Int) tt') ∧
    m₁ (Str.ofString "keep") = some (.int (kp' : Int) kt') ∧ m₁ (Str.ofString "is_newest") = some (.bool nw') ∧ m₁ (Str.ofString "most") = some (.int most mt) ∧ m₁ (Str.ofString "undo") = some (.ref H) ∧ news₁ = ((H, instObj 109 Hd) :: (Hd, hisO k1 k2 k3 k4 k5 h1 h2 h3 h4 h5 R d dk hn) :: (R, W.listOf rs.toArray rn) :: tl))
    F N ⟨t, kp, b + 1, nw, bt, tt, kt, hb, Nat.lt_succ_self b, rfl, hm1, hm3, hm6, hm4, hm5, hm2, rfl⟩ ?_
  rintro n m₁ news₁ h₁ tk₁ F₁ N₁ ⟨t', kp', fu, nw', bt', tt', kt', hn', hfu, he, a1, a2, a3, a4, a5, a6, rfl⟩
  obtain ⟨fu, rfl⟩ := Nat.exists_eq_succ_of_ne_zero (show fu ≠ 0 by omega)
  by_cases h0 : n = 0
  · refine outer_test0 X T B2 F₁ N₁ a1 (by omega) fun h' tk' F' N' => ?_
    simp only [Bool.false_eq_true, if_false]
    have he' : outerF ks most (fu + 1) n kp' t' nw' = kp' := by rw [outerF, if_pos h0]
    rw [he'] at he
    rw [← he] at ret
    exact ret h' tk' m₁ kt' F' a6 a3 N'
  · refine outer_test1 X T B2 F₁ N₁ a1 (by omega) fun h' tk' F' N' => ?_
    simp only [if_true]
    have hle := innerF_le ks n t'
    cases nw' with
    | true =>
      refine outer_body_t (s := { s with heap := h', toks := tk' }) X T B2 F' N' M hz a1 a6 a2 a4 a5 a3 (by omega) hn' fun h'' tk'' m'' bt'' tt'' kt'' F'' c1 c2 c3 c4 c5 c6 N'' => ?_
      have he' : outerF ks most (fu + 1) n kp' t' true = outerF ks most fu ((innerF ks n t').1 - 1) (innerF ks n t').1 (innerF ks n t').2 false := by rw [outerF, if_neg h0, if_neg (by simp)]
      exact WhileStep.intro (n' := (innerF ks n t').1 - 1) F'' N'' (by omega) ⟨_, _, fu, false, bt'', tt'', kt'', by omega, by omega, he' ▸ he, c4, c6, c5, c3, c2, c1, rfl⟩
    | false =>
      refine outer_body_f (s := { s with heap := h', toks := tk' }) X T B2 F' N' M hz a1 a6 a2 a4 a5 a3 (by omega) hn' (fun hlt h'' tk'' m'' kt'' F'' c1 c2 N'' => ?_) fun hlt h'' tk'' m'' bt'' tt'' kt'' F'' c1 c2 c3 c4 c5 c6 N'' => ?_
      · have he' : outerF ks most (fu + 1) n kp' t' false = kp' := by rw [outerF, if_neg h0, if_pos ⟨rfl, hlt⟩]
        rw [he'] at he
        rw [← he] at ret
        exact ret h'' tk'' m'' kt'' F'' c1 c2 N''
      · have he' : outerF ks most (fu + 1) n kp' t' false = outerF ks most fu ((innerF ks n t').1 - 1) (innerF ks n t').1 (innerF ks n t').2 false := by rw [outerF, if_neg h0, if_neg (by simp [hlt])]
        exact WhileStep.intro (n' := (innerF ks n t').1 - 1) F'' N'' (by omega) ⟨_, _, fu, false, bt'', tt'', kt'', by omega, by omega, he' ▸ he, c4, c6, c5, c3, c2, c1, rfl⟩
theorem stripF_le (ks : List (Option Nat)) : ∀ b, stripF ks b ≤ b
  | 0 => Nat.le_refl _
  | b + 1 => by
    unfold stripF
    split
    · exact Nat.le_succ_of_le (stripF_le ks b)
    · exact Nat.le_refl _
def limF (ks : List (Option Nat)) (most : Int) : Nat := outerF ks most (stripF ks ks.length + 1) (stripF ks ks.length) ks.length 0 true
theorem strip_use {Q : Flow → Shared → Prop} {pos : Pos} {fi kp : Int} {ft tt mt kt : Tok} {most : Int} (X : (hd.heap_39 w.params).In g2) (T : Top p loose mean mg mb g2) (B2 : Below (lawA L fa cd) g [lawEnv L fa cd] g2) (F : Fr g2 L2 s.heap m)
    (N : News g2 L2 s.heap ((H, instObj 109 Hd) :: (Hd, hisO k1 k2 k3 k4 k5 h1 h2 h3 h4 h5 R d dk hn) :: (R, W.listOf rs.toArray rn) :: tl)) (M : MixIn tl lim rs ks) (hz : rs.length < 900)
    (hm1 : m (Str.ofString "begin") = some (.int fi ft)) (hfi : fi = (rs.length : Int)) (hm2 : m (Str.ofString "undo") = some (.ref H)) (hm3 : m (Str.ofString "taken") = some (.int 0 tt)) (hm5 : m (Str.ofString "most") = some (.int most mt)) (hm6 : m (Str.ofString "keep") = some (.int kp kt))
    (ret : ∀ h' tk' m' ft', Fr g2 L2 h' m' → m' (Str.ofString "begin") = some (.int (stripF ks ks.length : Int) ft') → m' (Str.ofString "undo") = some (.ref H) → m' (Str.ofString "taken") = some (.int ((0 : Nat) : Int) tt) → m' (Str.ofString "most") = some (.int most mt) → m' (Str.ofString "keep") = some (.int kp kt) → News g2 L2 h' ((H, instObj 109 Hd) :: (Hd, hisO k1 k2 k3 k4 k5 h1 h2 h3 h4 h5 R d dk hn) :: (R, W.listOf rs.toArray rn) :: tl) → Q .next { s with heap := h', toks := tk' }) :
    wpAny (model PW w) (limA L fa cd L2) (exec (.While (whT stripW) (whB stripW) [] pos) (limEnv L2)) Q (fun _ _ => False) s := by
  subst hfi
  have e := M.length
  refine strip_while X T B2 F N M hz hm1 hm2 (Nat.le_refl _) fun h' tk' m' ft' F' a b N' => ret h' tk' m' ft' F' (e ▸ b) ((a _ (by decide)).trans hm2) ((a _ (by decide)).trans hm3) ((a _ (by decide)).trans hm5) ((a _ (by decide)).trans hm6) N'
theorem outer_use {Q : Flow → Shared → Prop} {pos : Pos} {kp : Int} {bt tt mt kt : Tok} {most : Int} (X : (hd.heap_39 w.params).In g2) (T : Top p loose mean mg mb g2) (B2 : Below (lawA L fa cd) g [lawEnv L fa cd] g2) (F : Fr g2 L2 s.heap m)
    (N : News g2 L2 s.heap ((H, instObj 109 Hd) :: (Hd, hisO k1 k2 k3 k4 k5 h1 h2 h3 h4 h5 R d dk hn) :: (R, W.listOf rs.toArray rn) :: tl)) (M : MixIn tl lim rs ks) (hz : rs.length < 900)
    (hm1 : m (Str.ofString "begin") = some (.int (stripF ks ks.length : Int) bt)) (hm2 : m (Str.ofString "undo") = some (.ref H)) (hm3 : m (Str.ofString "taken") = some (.int ((0 : Nat) : Int) tt)) (hm4 : m (Str.ofString "is_newest") = some (.bool true)) (hm5 : m (Str.ofString "most") = some (.int most mt)) (hm6 : m (Str.ofString "keep") = some (.int kp kt)) (hkp : kp = (rs.length : Int))
    (ret : ∀ h' tk' m' kt', Fr g2 L2 h' m' → m' (Str.ofString "undo") = some (.ref H) → m' (Str.ofString "keep") = some (.int ((limF ks most : Nat) : Int) kt') → News g2 L2 h' ((H, instObj 109 Hd) :: (Hd, hisO k1 k2 k3 k4 k5 h1 h2 h3 h4 h5 R d dk hn) :: (R, W.listOf rs.toArray rn) :: tl) → Q .next { s with heap := h', toks := tk' }) :
    wpAny (model PW w) (limA L fa cd L2) (exec (.While (whT outerW) (whB outerW) [] pos) (limEnv L2)) Q (fun _ _ => False) s := by
  subst hkp
  have e := M.length
  refine outer_while X T B2 F N M hz hm1 hm2 hm3 hm4 hm5 hm6 (by have := stripF_le ks ks.length; omega) fun h' tk' m' kt' F' a b N' => ret h' tk' m' kt' F' a ?_ N'
  rw [b, limF, e]
end
end
section
theorem fresh_NLim5 : True := by
  w_top off
  first | walk1 | skip
  trivial
set_option maxRecDepth 100000
section
variable {w : World} {p : Program} {loose : List Str} {mean : ExcName → Option Value} {mg mb : Str → Option Value} {g g2 : Heap} {L L2 fa H Hd R : Nat} {cd : Value} {m : Str → Option Value} {s : Shared}
  {k1 k2 k3 k4 k5 dk : Tok} {h1 h2 h3 h4 h5 d lim : Int} {hn rn : Nat} {rs : List Value} {tl news : List (Addr × Obj)} {ks : List (Option Nat)}

set_option maxHeartbeats 2000000 in
theorem limit_body {Q : Flow → Shared → Prop} {most : Int} {mt : Tok} (X : (hd.heap_39 w.params).In g2) (T : Top p loose mean mg mb g2) (B2 : Below (lawA L fa cd) g [lawEnv L fa cd] g2) (F : Fr g2 L2 s.heap m)
    (N : News g2 L2 s.heap ((H, instObj 109 Hd) :: (Hd, hisO k1 k2 k3 k4 k5 h1 h2 h3 h4 h5 R d dk 5) :: (R, W.listOf rs.toArray rn) :: tl)) (M : MixIn tl lim rs ks) (hz : rs.length < 900) (o1 : Hd < H) (o2 : H < R) (hoff : OwnOff tl [H, Hd, R])
    (hm2 : m (Str.ofString "undo") = some (.ref H)) (hm5 : m (Str.ofString "most") = some (.int most mt))
    (ret : ∀ (h' : Heap) (tk' : Nat) (m' : Str → Option Value) (kt' dk' : Tok) (R2 : Nat), Fr g2 L2 h' m' → News g2 L2 h' ((H, instObj 109 Hd) :: (Hd, hisO k1 k2 k3 k4 k5 h1 h2 h3 h4 h5 R2 (d + (limF ks most : Int)) dk' 5) :: (R2, W.listOf (rs.drop (limF ks most)).toArray 0) :: (R, W.listOf rs.toArray rn) :: tl) → (H < R2 ∧ Hd < R2 ∧ R < R2 ∧ AllLt R2 tl) → Q (.ret (.int (limF ks most : Int) kt')) { s with heap := h', toks := tk' }) :
    wpAny (model PW w) (limA L fa cd L2) (execs limBody (limEnv L2)) Q (fun _ _ => False) s := by
  unfold limA lawA limEnv
  generalize hsc : scopeOf (Str.ofString "limit_rows") = sc
  conv at hsc => lhs; whnf
  subst hsc
  generalize hbb : limBody = bb
  conv at hbb => lhs; whnf
  subst hbb
  repeat' (first | (k_unfold; (try dsimp only)) | (k_end; wrow_close) | ((try dsimp only); first | w_nolog (with_reducible (k_here; (with_reducible show wpAny _ _ (subscriptTail _ (PySem.Expr.Slice _ _ _ _) (Value.ref _) (Value.ref _)) _ _ _); k_dflt (refine' slice_from ?F ?N ?m ?x ?z ?_ ?s ?t; (case F => k_asm); (case N => k_asm); (case m => k_mem); (case x => omega); (case z => omega); (case s => with_unfolding_all rfl); (case t => kmk_pure)); intro D' h' F' N' l1; (try k_lt l1); (try k_sweep))) | w_nolog (with_reducible (k_here; (with_reducible show wpAny _ _ (exec (Stmt.While _ _ _ _) _) _ _ _); k_dflt (refine' outer_use ?X ?T ?B ?F ?N ?M ?hz ?m1 ?m2 ?m3 ?m4 ?m5 ?m6 ?fi ?_; (case X => k_asm); (case T => k_asm); (case B => assumption); (case F => k_asm); (case N => k_asm); (case M => assumption); (case hz => assumption); (case m1 => (first | (with_reducible assumption) | assumption)); (case m2 => (first | (with_reducible assumption) | assumption)); (case m3 => (first | (with_reducible assumption) | assumption)); (case m4 => exact rfl); (case m5 => (first | (with_reducible assumption) | assumption)); (case m6 => (first | (with_reducible assumption) | assumption)); (case fi => exact rfl); k_whole); intro h' tk' m' kt' F' e1' e2' N'; (try k_sweep))) | w_nolog (with_reducible (k_here; (with_reducible show wpAny _ _ (exec (Stmt.While _ _ _ _) _) _ _ _); k_dflt (refine' strip_use ?X ?T ?B ?F ?N ?M ?hz ?m1 ?fi ?m2 ?m3 ?m5 ?m6 ?_; (case X => k_asm); (case T => k_asm); (case B => assumption); (case F => k_asm); (case N => k_asm); (case M => assumption); (case hz => assumption); (case m1 => first | exact rfl | (first | (with_reducible assumption) | assumption)); (case fi => exact rfl); (case m2 => (first | (with_reducible assumption) | assumption)); (case m3 => first | exact rfl | (first | (with_reducible assumption) | assumption)); (case m5 => (first | (with_reducible assumption) | assumption)); (case m6 => first | exact rfl | (first | (with_reducible assumption) | assumption)); k_whole); intro h' tk' m' ft' F' e1' e2' e3' e4' e5' N'; (try k_sweep))) | w_nolog (with_reducible (k_here; (with_reducible show wpAny _ _ (subscriptTail _ _ (Value.ref _) (Value.int _ _)) _ _ _); k_dflt (refine' item_at ?N ?m ?z ?k ?h ?_ ?s; (case N => k_asm); (case m => k_mem); (case k => with_reducible assumption); (case z => omega); (case h => omega); (case s => with_unfolding_all rfl); k_whole))) | w_nolog (with_reducible ((with_reducible show wpAny _ _ (eval (PySem.Expr.Name _ _) _) _ _ _); (k_here; k_dflt (refine' nameX_L ?F ?v ?_ ?a ?b ?c; (case F => k_asm); (case a => rfl); (case b => rfl); (case c => decide); (case v => first | (with_reducible assumption) | assumption); k_whole)))) | w_nolog (with_reducible (k_here; (with_reducible show wpAny _ _ (compareOp CmpOp.NotEq (Value.ref _) (Value.ref _)) _ _ _); k_dflt (first | (refine' ne_bdbd ?F ?X ?u ?_; (case F => k_asm); (case X => k_asm); (case u => k_units); k_whole) | (refine' ne_bd ?F ?X ?N ?m ?x ?u ?_; (case F => k_asm); (case X => k_asm); (case N => k_asm); (case m => k_mem); (case x => first | assumption | decide); (case u => k_units); k_whole)))) | w_nolog (with_reducible (k_here; (with_reducible show wpAny _ _ (compareOp CmpOp.Eq (Value.ref _) (Value.ref _)) _ _ _); k_dflt (first | (refine' eq_bdbd ?F ?X ?u ?_; (case F => k_asm); (case X => k_asm); (case u => k_units); k_whole) | (refine' eq_bd ?F ?X ?N ?m ?x ?u ?_; (case F => k_asm); (case X => k_asm); (case N => k_asm); (case m => k_mem); (case x => first | assumption | decide); (case u => k_units); k_whole)))) | w_nolog (with_reducible (k_here; (with_reducible show wpAny _ _ (call (Value.builtin "len") [Value.ref _]) _ _ _); k_dflt (refine' len_any ?N ?m ?z ?_; (case N => k_asm); (case m => k_mem); (case z => first | assumption | omega); k_whole))) | walk1) | walk1 | (leave1; walk_say "STEP leave1"; try dsimp only) | fail "no step")
  all_goals (try k_data)
  rename Fr _ _ _ _ => kF
  rename News _ _ _ _ => kN
  rw [Int.toNat_natCast] at kN
  exact ret _ _ _ _ _ _ kF (News.less kN (mem_more (.tail _ (.head _)) (mem_more (.tail _ (.tail _ (.head _))) (mem_more (.head _) fun p hp => .tail _ (.tail _ (.tail _ hp)))))) (by assumption)
set_option maxHeartbeats 2000000 in
theorem limit_call {Q E : Value → Shared → Prop} {most : Int} {mt : Tok} (X : (hd.heap_39 w.params).In g) (T : Top p loose mean mg mb g) (F : Fr g L s.heap m)
    (N : News g L s.heap ((H, instObj 109 Hd) :: (Hd, hisO k1 k2 k3 k4 k5 h1 h2 h3 h4 h5 R d dk 5) :: (R, W.listOf rs.toArray rn) :: tl)) (M : MixIn tl lim rs ks) (hz : rs.length < 900) (o1 : Hd < H) (o2 : H < R) (hoff : OwnOff tl [H, Hd, R])
    (ret : ∀ (h' : Heap) (tk' : Nat) (kt' dk' : Tok) (R2 : Nat), Fr g L h' m → News g L h' ((H, instObj 109 Hd) :: (Hd, hisO k1 k2 k3 k4 k5 h1 h2 h3 h4 h5 R2 (d + (limF ks most : Int)) dk' 5) :: (R2, W.listOf (rs.drop (limF ks most)).toArray 0) :: (R, W.listOf rs.toArray rn) :: tl) → (H < R2 ∧ Hd < R2 ∧ R < R2 ∧ AllLt R2 tl) → Q (.int (limF ks most : Int) kt') { s with heap := h', toks := tk' }) :
    wpAny (model PW w) (lawA L fa cd) (call (.ref 127) [.ref H, .int most mt]) Q E s := by
  have K0 : Below callerA g [] g := below_caller g
  unfold lawA lawEnv
  refine wpAny_call ?_
  k_enter
  refine wpAny_noRaise ?_
  refine limit_body (most := most) (mt := mt) (by assumption) (by assumption) (by assumption) (by assumption) (by assumption) M hz o1 o2 hoff rfl rfl ?_
  intro h' tk' m' kt' dk' R2 F' N' l
  exact leaveK_ F' N' fun kF kN => ret h' tk' kt' dk' R2 kF kN l
end
end
section
theorem fresh_NComp : True := by
  w_top off
  first | walk1 | skip
  trivial
section
variable {prog : Program} {w : World} {A : Around} {E : Value → Shared → Prop} {s : Shared} {env : Env} {g : Heap} {L : Addr} {m : Str → Option Value} {news : List (Addr × Obj)}
theorem comp_pyIter {elt : PySem.Expr} {x : Str} {ifs : List PySem.Expr} {scope : Scope} {cl : List (Str × Addr)} {l : Addr} {n : Nat} {vs : List Value} {Q : Value → Shared → Prop} (p : Value → Bool) (G : Value → Value → Prop)
    (hh : A.handled = none) (F : Fr g L s.heap m) (N : News g L s.heap news) (hl : (l, W.listOf vs.toArray n) ∈ news) (hz : vs.length < 100000)
    (tests : ∀ (C : Addr) (v : Value) (s₃ : Shared) (m₃ : Str → Option Value) (E' : Value → Shared → Prop), v ∈ vs → Fr g L s₃.heap m → News g L s₃.heap news → Fr g C s₃.heap m₃ → News g C s₃.heap news → m₃ x = some v →
      wpAny (model prog w) A (forIn ifs true fun c r => if r = true then do let ok ← PySem.isTrue c (compEnvC scope cl C env) (eval c (compEnvC scope cl C env)); pure (ForInStep.yield ok) else pure (ForInStep.yield r)) (fun ok s₄ => ok = p v ∧ Keeps s₃ s₄) E' s₃)
    (elts : ∀ (C : Addr) (v : Value) (s₃ : Shared) (m₃ : Str → Option Value) (E' : Value → Shared → Prop), v ∈ vs → p v = true → Fr g L s₃.heap m → News g L s₃.heap news → Fr g C s₃.heap m₃ → News g C s₃.heap news → m₃ x = some v →
      wpAny (model prog w) A (eval elt (compEnvC scope cl C env)) (fun y s₄ => G v y ∧ Keeps s₃ s₄) E' s₃)
    (done : ∀ (D : Nat) (h' : Heap) (tk en : Nat) (ys : List Value), Fr g L h' m → News g L h' ((D, W.listOf ys.toArray en) :: news) → (∀ q ∈ news, @Ne Nat q.1 D) → Paired G (vs.filter p) ys → Q (.ref D) { s with heap := h', toks := tk }) :
    wpAny (model prog w) A (pyIter (.ref l)) (fun it s₂ => ∃ I fp wr n P St, it = .ref I ∧ Walks prog w A I fp wr n P St ∧ n ≤ sizeLine ∧ St 0 s₂.heap ∧ (∀ b ∈ fp, b < s₂.heap.objs.size) ∧
      QuietOnC prog w A env scope cl x ifs elt wr P p G s₂ ∧
      (∀ D h' tk ys (vs : List Value), s₂.heap.get? D = none → h'.IsList D ys → h'.PlainList D ys → vs.length = n → (∀ j v, vs[j]? = some v → P j v) → Paired G (vs.filter p) ys.toList →
        (∀ b o, b ∉ wr → s₂.heap.get? b = some o → h'.get? b = some o) → Q (.ref D) { s₂ with heap := h', toks := tk })) E s := by
  have hol : s.heap.get? l = some (W.listOf vs.toArray n) := (N _ hl).1
  have hls : s.heap.IsList l vs.toArray := ⟨_, hol, rfl, n, rfl⟩
  have hne : l ≠ s.heap.objs.size := Nat.ne_of_lt (Heap.lt_size hol)
  refine wpAny_pyIter_list hls ?_
  have W := Walks.list (prog := prog) (w := w) hh s.heap.objs.size l hne vs.toArray
  have hlen : vs.toArray.size = vs.length := by simp
  rw [hlen] at W
  have old : ∀ {b o}, s.heap.get? b = some o → b ∉ [s.heap.objs.size] := fun e hm => absurd (Heap.lt_size e) (by rw [List.mem_singleton.mp hm]; exact Nat.lt_irrefl _)
  have frs : ∀ {h : Heap}, (∀ b o, b ∉ [s.heap.objs.size] → (s.heap.push { cls := .type "list_iterator", data := .fields #[.ref l, .int 0 0] }).get? b = some o → h.get? b = some o) → Fr g L h m ∧ News g L h news := fun {h} hk =>
    ⟨⟨F.ns.at' fun o e => hk _ o (old e) (Heap.get?_push_of_some _ e), fun b o e => hk b o (old (F.keep b o e)) (Heap.get?_push_of_some _ (F.keep b o e)), F.above⟩, fun p hp => ⟨hk _ _ (old (N p hp).1) (Heap.get?_push_of_some _ (N p hp).1), (N p hp).2⟩⟩
  have frc : ∀ {h : Heap} {C : Addr} {m₃}, s.heap.objs.size + 1 ≤ C → h.Ns C m₃ → Fr g L h m → News g L h news → Fr g C h m₃ ∧ News g C h news := fun {h C m₃} hC hn F' N' =>
    ⟨⟨hn, F'.keep, Nat.le_trans F.above (Nat.le_of_lt (Nat.lt_of_lt_of_le F.ns.lt (Nat.le_of_succ_le hC)))⟩, fun p hp => ⟨(N' p hp).1, Nat.ne_of_lt (Nat.lt_of_lt_of_le (Heap.lt_size (N p hp).1) (Nat.le_of_succ_le hC)), (N' p hp).2.2⟩⟩
  refine ⟨_, _, _, vs.length, _, _, rfl, W, by rw [sizeLine_eq]; omega, ⟨⟨_, Heap.get?_push_size _ rfl, rfl, rfl⟩, hls.at fun o e => Heap.get?_push_of_some _ e⟩, ?_, ⟨?_, ?_⟩, ?_⟩
  · intro b hb
    rcases List.mem_cons.mp hb with rfl | hb
    · simp
    · rw [List.mem_singleton.mp hb]; simp; exact Nat.lt_succ_of_lt (Heap.lt_size hol)
  · intro C i v s₃ m₃ E' hC hv hn hx hk _
    obtain ⟨F3, N3⟩ := frs hk
    obtain ⟨F4, N4⟩ := frc (by simpa using hC) hn F3 N3
    exact tests C v s₃ m₃ E' (by simpa using List.mem_of_getElem? (by simpa using hv)) F3 N3 F4 N4 hx
  · intro C i v s₃ m₃ E' hC hv hp hn hx hk _
    obtain ⟨F3, N3⟩ := frs hk
    obtain ⟨F4, N4⟩ := frc (by simpa using hC) hn F3 N3
    exact elts C v s₃ m₃ E' (by simpa using List.mem_of_getElem? (by simpa using hv)) hp F3 N3 F4 N4 hx
  · intro D h' tk ys vs' hD hL hP hlen' hPv hpair hk
    obtain ⟨F3, N3⟩ := frs hk
    have hvs : vs' = vs := by
      apply List.ext_getElem?
      intro j
      by_cases hj : j < vs.length
      · obtain ⟨v, hv⟩ : ∃ v, vs'[j]? = some v := ⟨vs'[j]'(by omega), by simp [hlen', hj]⟩
        have := hPv j v hv
        rw [hv]
        simpa using this.symm
      · rw [List.getElem?_eq_none (by omega), List.getElem?_eq_none (by omega)]
    subst hvs
    obtain ⟨en, hen⟩ := hP
    have hDn : ∀ {b o}, (s.heap.push { cls := .type "list_iterator", data := .fields #[.ref l, .int 0 0] }).get? b = some o → b ≠ D := fun {b o} e q => by
      rw [q, hD] at e; cases e
    refine done D h' tk en ys.toList F3 ?_ (fun q hq => hDn (Heap.get?_push_of_some _ (N q hq).1)) hpair
    intro q hq
    rcases List.mem_cons.mp hq with rfl | hq
    · refine ⟨by simpa using hen, ?_, ?_⟩
      · obtain ⟨oL, _, _, hoL, _⟩ := F.ns
        exact fun e => hDn (Heap.get?_push_of_some _ hoL) e.symm
      · cases e : g.get? D with
        | none => rfl
        | some o => exact absurd rfl (hDn (Heap.get?_push_of_some _ (F.keep _ _ e)))
    · exact N3 q hq
end
end
section
theorem fresh_NSize : True := by
  w_top off
  first | walk1 | skip
  trivial
section
variable {prog : Program} {w : World} {A A₀ : Around} {E : Value → Shared → Prop} {s : Shared} {K : Frag} {L : Addr} {h₀ base : Heap} {m mg mb : Str → Option Value} {news : List (Addr × Obj)} {p : Program} {loose : List Str} {mean : ExcName → Option Value}
theorem call_keep {env : Env} {outer : List Env} {R : Result → Shared → Prop} {name qual : Str} {params : Arguments} {body : List Stmt} {scope : Scope} {dV kV doc pm cdv ct oc : Value} {an od : Option Addr} {osl : Array (Option Value)} {f : Addr} {args : Args} {binds : List (Str × Value)}
    (B : Below A₀ base outer h₀) (F : Fr h₀ L s.heap m) (X₀ : K.In h₀) (N : News h₀ L s.heap news) (T : Top p loose mean mg mb h₀) (hA : A.frames = some (env :: outer)) (hf : env.frame = some L) (hke : env.scope.kind = .function)
    (ho : K.lookup f = some ⟨oc, od, .func (fnOf name qual params body scope dV kV doc pm an cdv ct), osl⟩) (hcd : codeIn K cdv qual = true) (hroom : A.depth < recursionLimit)
    (hbind : BindsTo s (fnOf name qual params body scope dV kV doc pm an cdv ct) args binds) (hloc : ∀ y ∈ binds, scope.names.lookup y.1 = some .local)
    (h : ∀ g L' h₁, Fr g L' h₁ (fun y => binds.reverse.lookup y) → News g L' h₁ news → Below A base (env :: outer) g → K.In g → Top p loose mean mg mb g → (∀ b o, s.heap.get? b = some o → b ∈ news.map (·.1) ∨ g.get? b = some o) →
      wpAny (model prog w) (A.deeper (envOf qual scope L' f cdv)) (execs body (envOf qual scope L' f cdv))
        (fun fl s' => R (.ok (.ret (match fl with | .ret v => v | _ => .none))) s')
        (fun e s' => wpAny (model prog w) (A.deeper (envOf qual scope L' f cdv)) (leaving (envOf qual scope L' f cdv) e) (fun _ s'' => R (.error e) s'') (fun e' s'' => R (.error e') s'') s')
        { s with heap := h₁, toks := s.toks + binds.length })
    (hco : scope.isCoroutine = false) (hgen : scope.isGenerator = false) (hk : scope.kind = .function)
    (hcell : ∀ x ∈ scope.names, x.2 ≠ .cell) : codeAny (model prog w) A (.call (.ref f) args) R s := by
  obtain ⟨FG, BG, st, lv⟩ := groundX (R := R) B F N hA hf hke
  refine codeAny_call_def (fd := fnOf name qual params body scope dV kV doc pm an cdv ct) (body := body) (binds := binds) hroom ((X₀.keeps F.keep) _ _ ho) rfl (T.nolimit.keeps F.keep) (codeRec_of (X₀.keeps F.keep) hcd) rfl hbind hcell hloc (fun h₁ hns hk₁ => ?_) hco hgen hk
  refine h _ s.heap.objs.size h₁ ⟨hns, fun b o e => hk₁ b o (of_hideAll _ e), Nat.le_of_eq (hideAll_size _ _)⟩
    (fun p hp => ⟨hk₁ _ _ (N p hp).1, Nat.ne_of_lt (Heap.lt_size (N p hp).1), hideAll_none _ (List.mem_map_of_mem hp)⟩) BG (X₀.keeps st) (T.keeps st) fun b o e => ?_
  by_cases hb : b ∈ news.map (·.1)
  · exact .inl hb
  · exact .inr (hideAll_get _ e hb)
end

section
variable {M : Model} {A : Around} {E : Value → Shared → Prop} {s : Shared} {K : Frag} {h₀ : Heap} {L a C : Addr} {m mg mb : Str → Option Value} {cn : Str} {cs scope : Scope} {ccd : Value} {cl cl₀ : List (Str × Addr)} {p : Program} {loose : List Str}
  {x : Str} {pos : Pos} {v : Value} {Q : Value → Shared → Prop} {news : List (Addr × Obj)} {c : Addr} {o : Obj}
theorem nameC_L (F : Fr h₀ C s.heap m) (hv : m x = some v) (h : Q v s) (hk : scope.kind = .function) (hx : (compEnvC scope cl C (envX cn cs L a ccd cl₀)).kindOf x = some .local) (hd : (x == ("__debug__" : Str)) = false) :
    wpAny M A (eval (.Name x pos) (compEnvC scope cl C (envX cn cs L a ccd cl₀))) Q E s := wpAny_Name (wpAny_loadName_local hk hx F.ns hv h) hd
theorem nameC_K (F : Fr h₀ C s.heap m) (X : K.In h₀) (T : TopRead p loose mg mb h₀) (e : nsIn K mainGlobals x = some (some v)) (h : Q v s)
    (hk : scope.kind = .function) (hx : (compEnvC scope cl C (envX cn cs L a ccd cl₀)).kindOf x = some .globalImplicit) (hd : (x == ("__debug__" : Str)) = false) :
    wpAny M A (eval (.Name x pos) (compEnvC scope cl C (envX cn cs L a ccd cl₀))) Q E s := Calls.Name_function_global hk hx (Calls.loadGlobal_global (env := compEnvC scope cl C (envX cn cs L a ccd cl₀)) (T.g.keeps F.keep) (mg_of X T.g e) h) hd
theorem nameC_B (F : Fr h₀ C s.heap m) (X : K.In h₀) (T : TopRead p loose mg mb h₀) (e : nsIn K mainGlobals x = some none) (hv : bootBuiltins x = some v) (hn : x ≠ "__name__") (h : Q v s)
    (hk : scope.kind = .function) (hx : (compEnvC scope cl C (envX cn cs L a ccd cl₀)).kindOf x = some .globalImplicit) (hd : (x == ("__debug__" : Str)) = false) :
    wpAny M A (eval (.Name x pos) (compEnvC scope cl C (envX cn cs L a ccd cl₀))) Q E s :=
  Calls.Name_function_global hk hx (Calls.loadGlobal_builtin (env := compEnvC scope cl C (envX cn cs L a ccd cl₀)) (T.g.keeps F.keep) (mg_none_of X T.g e) (T.b.keeps F.keep) ((T.builtins x hn).trans hv) h) hd
end
def sizeBody : List Stmt := bodyOf (Str.ofString "_law_size")
def retE : Stmt → PySem.Expr
  | .Return (some e) _ => e
  | _ => default
def argE (i : Nat) : PySem.Expr → PySem.Expr
  | .Call _ as _ _ => as.getD i default
  | _ => default
def compElt : PySem.Expr → PySem.Expr
  | .ListComp e _ _ _ => e
  | _ => default
def compIfs : PySem.Expr → List PySem.Expr
  | .ListComp _ (⟨_, _, fs, _⟩ :: _) _ _ => fs
  | _ => []
def compSc : PySem.Expr → Scope
  | .ListComp _ _ s _ => s
  | _ => default
def sizeComp : PySem.Expr := argE 0 (retE (stOf sizeBody 0))
def sizeEnv (L : Addr) : Env := envOf (Str.ofString "_law_size") (scopeOf (Str.ofString "_law_size")) L 172 (.ref 171)
def sizeA (L fa : Addr) (cd : Value) (L2 : Addr) : Around := (lawA L fa cd).deeper (sizeEnv L2)
set_option maxRecDepth 100000
section
variable {w : World} {p : Program} {loose : List Str} {mean : ExcName → Option Value} {mg mb : Str → Option Value} {g g2 : Heap} {L L2 fa C : Nat} {cd : Value} {m : Str → Option Value} {s : Shared} {Q E : Value → Shared → Prop}
  {tl : List (Addr × Obj)}
set_option maxHeartbeats 1000000 in
theorem elt_ins {ra n : Nat} {a b : Int} {t0 t1 t2 : Tok} (X : (hd.heap_39 w.params).In g2) (T : Top p loose mean mg mb g2) (F : Fr g2 C s.heap m)
    (N : News g2 C s.heap ((ra, tupO [.str (Str.ofString "insert") t0, .int a t1, .int b t2] n) :: tl)) (hx : m (Str.ofString "row") = some (.ref ra))
    (ret : ∀ t tk', Q (.int 1 t) { s with toks := tk' }) :
    wpAny (model PW w) (sizeA L fa cd L2) (eval (compElt sizeComp) (compEnvC (compSc sizeComp) [] C (sizeEnv L2))) Q E s := by
  unfold sizeA lawA sizeEnv
  generalize hsc : scopeOf (Str.ofString "_law_size") = sc
  conv at hsc => lhs; whnf
  subst hsc
  generalize hbb : compElt sizeComp = bb
  conv at hbb => lhs; whnf
  subst hbb
  generalize hbc : compSc sizeComp = bc
  conv at hbc => lhs; whnf
  subst hbc
  repeat' (first | (k_unfold; (try dsimp only)) | (k_end; wrow_close) | ((try dsimp only); first | w_nolog (with_reducible ((with_reducible show wpAny _ _ (eval (PySem.Expr.Name _ _) _) _ _ _); (k_here; k_dflt (first | (refine' nameC_L ?F ?v ?_ ?k ?x ?d; (case F => k_asm); (case k => rfl); (case x => rfl); (case d => decide); (case v => first | (with_reducible assumption) | assumption); k_whole) | (refine' nameC_K ?F ?X ?T ?e ?_ ?k ?x ?d; (case F => k_asm); (case X => k_asm); (case T => k_asm); (case k => rfl); (case x => rfl); (case d => decide); (case e => k_is); k_whole) | (refine' nameC_B ?F ?X ?T ?e ?v ?n ?_ ?k ?x ?d; (case F => k_asm); (case X => k_asm); (case T => k_asm); (case k => rfl); (case x => rfl); (case d => decide); (case e => k_is); (case v => boot_fast); (case n => decide); k_whole))))) | w_nolog (with_reducible (k_here; (with_reducible show wpAny _ _ (call (Value.builtin "len") [Value.ref _]) _ _ _); k_dflt (refine' len_any ?N ?m ?z ?_; (case N => k_asm); (case m => k_mem); (case z => first | assumption | omega); k_whole))) | walk1) | walk1 | (leave1; walk_say "STEP leave1"; try dsimp only) | fail "no step")
  all_goals (try k_data)
  all_goals first | exact ret _ _
set_option maxHeartbeats 1000000 in
theorem elt_del {ra n pa pd ca rr e cn : Nat} {st : Int} {q : Bool} {t0 t1 kc kr : Tok} {hc hr : Int} {cvs : List Value} (X : (hd.heap_39 w.params).In g2) (T : Top p loose mean mg mb g2) (F : Fr g2 C s.heap m)
    (N : News g2 C s.heap ((ra, tupO [.str (Str.ofString "delete") t0, .int st t1, .ref pa, .bool q] n) :: (pa, instObj 144 pd) :: (pd, pieO hc hr kc kr ca rr e) :: (ca, W.listOf cvs.toArray cn) :: tl)) (hz : cvs.length ≤ 4) (hx : m (Str.ofString "row") = some (.ref ra))
    (ret : ∀ t tk', Q (.int (1 + (cvs.length : Int)) t) { s with toks := tk' }) :
    wpAny (model PW w) (sizeA L fa cd L2) (eval (compElt sizeComp) (compEnvC (compSc sizeComp) [] C (sizeEnv L2))) Q E s := by
  unfold sizeA lawA sizeEnv
  generalize hsc : scopeOf (Str.ofString "_law_size") = sc
  conv at hsc => lhs; whnf
  subst hsc
  generalize hbb : compElt sizeComp = bb
  conv at hbb => lhs; whnf
  subst hbb
  generalize hbc : compSc sizeComp = bc
  conv at hbc => lhs; whnf
  subst hbc
  repeat' (first | (k_unfold; (try dsimp only)) | (k_end; wrow_close) | ((try dsimp only); first | w_nolog (with_reducible ((with_reducible show wpAny _ _ (eval (PySem.Expr.Name _ _) _) _ _ _); (k_here; k_dflt (first | (refine' nameC_L ?F ?v ?_ ?k ?x ?d; (case F => k_asm); (case k => rfl); (case x => rfl); (case d => decide); (case v => first | (with_reducible assumption) | assumption); k_whole) | (refine' nameC_K ?F ?X ?T ?e ?_ ?k ?x ?d; (case F => k_asm); (case X => k_asm); (case T => k_asm); (case k => rfl); (case x => rfl); (case d => decide); (case e => k_is); k_whole) | (refine' nameC_B ?F ?X ?T ?e ?v ?n ?_ ?k ?x ?d; (case F => k_asm); (case X => k_asm); (case T => k_asm); (case k => rfl); (case x => rfl); (case d => decide); (case e => k_is); (case v => boot_fast); (case n => decide); k_whole))))) | w_nolog (with_reducible (k_here; (with_reducible show wpAny _ _ (call (Value.builtin "len") [Value.ref _]) _ _ _); k_dflt (refine' len_any ?N ?m ?z ?_; (case N => k_asm); (case m => k_mem); (case z => first | assumption | omega); k_whole))) | walk1) | walk1 | (leave1; walk_say "STEP leave1"; try dsimp only) | fail "no step")
  all_goals (try k_data)
  all_goals first | exact ret _ _
end
end
section
theorem fresh_NSize2 : True := by
  w_top off
  first | walk1 | skip
  trivial
theorem news_one {h₀ h : Heap} {L a : Addr} {o o' : Obj} {news : List (Addr × Obj)} (N : News h₀ L h news) (h1 : (a, o) ∈ news) (h2 : (a, o') ∈ news) : o = o' := by
  have e1 := (N _ h1).1
  have e2 := (N _ h2).1
  simp only at e1 e2
  rw [e1] at e2
  exact Option.some.inj e2
theorem RowIn.one {h₀ h : Heap} {L : Addr} {news : List (Addr × Obj)} {lim lim' : Int} {v : Value} {z z' : Nat} (N : News h₀ L h news) (r : RowIn news lim v z) (r' : RowIn news lim' v z') : z = z' := by
  cases r with
  | ins hm hb =>
    cases r' with
    | ins => rfl
    | del hm' => have := news_one N hm hm'; simp at this
  | del hm hp hd hca hz =>
    cases r' with
    | ins hm' => have := news_one N hm hm'; simp at this
    | del hm' hp' hd' hca' hz' =>
      have e1 := news_one N hm hm'
      simp at e1
      obtain ⟨_, _, rfl, _⟩ := e1.1
      have e2 := news_one N hp hp'
      simp at e2
      subst e2
      have e3 := news_one N hd hd'
      simp at e3
      have e4 := e3.1.1.2.2
      subst e4
      have e5 := news_one N hca hca'
      simp at e5
      rw [e5.1]
def SizeG (news : List (Addr × Obj)) (lim : Int) (v y : Value) : Prop := ∀ z, RowIn news lim v z → ∃ t, y = .int (z : Int) t
theorem sizes_of {news : List (Addr × Obj)} {lim : Int} {vs ys : List Value} {zs : List Nat} (h : Paired (SizeG news lim) vs ys) (r : RowsIn news lim vs zs) : IntsAre ys (zs.map fun z : Nat => (z : Int)) := by
  induction r generalizing ys with
  | nil => cases h; exact .nil
  | cons r _ ih =>
    cases h with
    | cons g h =>
      obtain ⟨t, rfl⟩ := g _ r
      exact .cons _ _ (ih h)
theorem RowsIn.mem {news : List (Addr × Obj)} {lim : Int} {vs : List Value} {zs : List Nat} (r : RowsIn news lim vs zs) : ∀ v ∈ vs, ∃ z, RowIn news lim v z := by
  induction r with
  | nil => intro v hv; cases hv
  | cons r _ ih =>
    intro v hv
    rcases List.mem_cons.mp hv with rfl | hv
    · exact ⟨_, r⟩
    · exact ih v hv
theorem Keeps.toks {s : Shared} {tk : Nat} : Keeps s { s with toks := tk } := ⟨s.heap, tk, rfl, fun _ _ e => e⟩
set_option maxRecDepth 100000
section
variable {w : World} {p : Program} {loose : List Str} {mean : ExcName → Option Value} {mg mb : Str → Option Value} {g g2 : Heap} {L L2 fa C ga n : Nat} {cd : Value} {m : Str → Option Value} {s : Shared} {Q E : Value → Shared → Prop}
  {news tl : List (Addr × Obj)} {vs : List Value} {zs : List Nat} {lim : Int}
theorem elt_use {v : Value} {z : Nat} (X : (hd.heap_39 w.params).In g2) (T : Top p loose mean mg mb g2) (F : Fr g2 C s.heap m)
    (N : News g2 C s.heap news) (r : RowIn news lim v z) (hx : m (Str.ofString "row") = some v)
    (ret : ∀ t tk', Q (.int (z : Int) t) { s with toks := tk' }) :
    wpAny (model PW w) (sizeA L fa cd L2) (eval (compElt sizeComp) (compEnvC (compSc sizeComp) [] C (sizeEnv L2))) Q E s := by
  cases r with
  | ins hm hb => exact elt_ins X T F (News.less N (mem_more hm fun p hp => hp)) hx fun t tk => ret t tk
  | del hm hp hd hca hz =>
    refine elt_del X T F (News.less N (mem_more hm (mem_more hp (mem_more hd (mem_more hca fun p hp => hp))))) hz hx fun t tk' => ?_
    have := ret t tk'
    push_cast at this
    exact this
theorem size_comp (X : (hd.heap_39 w.params).In g2) (T : Top p loose mean mg mb g2) (F : Fr g2 L2 s.heap m) (N : News g2 L2 s.heap news) (hga : (ga, W.listOf vs.toArray n) ∈ news) (r : RowsIn news lim vs zs) (hz : vs.length < 1000)
    (hm : m (Str.ofString "group") = some (.ref ga))
    (ret : ∀ (D : Nat) (h' : Heap) (tk en : Nat) (ys : List Value), Fr g2 L2 h' m → News g2 L2 h' ((D, W.listOf ys.toArray en) :: news) → (∀ q ∈ news, @Ne Nat q.1 D) → IntsAre ys (zs.map fun z : Nat => (z : Int)) → Q (.ref D) { s with heap := h', toks := tk }) :
    wpAny (model PW w) (sizeA L fa cd L2) (eval sizeComp (sizeEnv L2)) Q E s := by
  have tests : ∀ (C : Addr) (v : Value) (s₃ : Shared) (m₃ : Str → Option Value) (E' : Value → Shared → Prop), wpAny (model PW w) (sizeA L fa cd L2) (forIn ([] : List PySem.Expr) true fun c r => if r = true then do let ok ← PySem.isTrue c (compEnvC (compSc sizeComp) [] C (sizeEnv L2)) (eval c (compEnvC (compSc sizeComp) [] C (sizeEnv L2))); pure (ForInStep.yield ok) else pure (ForInStep.yield r)) (fun ok s₄ => ok = (fun _ => true) v ∧ Keeps s₃ s₄) E' s₃ :=
    fun C v s₃ m₃ E' => wpAny_pure ⟨rfl, ⟨s₃.heap, s₃.toks, rfl, fun _ _ e => e⟩⟩
  have elts : ∀ (C : Addr) (v : Value) (s₃ : Shared) (m₃ : Str → Option Value) (E' : Value → Shared → Prop), v ∈ vs → Fr g2 L2 s₃.heap m → News g2 L2 s₃.heap news → Fr g2 C s₃.heap m₃ → News g2 C s₃.heap news → m₃ (Str.ofString "row") = some v →
      wpAny (model PW w) (sizeA L fa cd L2) (eval (compElt sizeComp) (compEnvC (compSc sizeComp) [] C (sizeEnv L2))) (fun y s₄ => SizeG news lim v y ∧ Keeps s₃ s₄) E' s₃ := by
    intro C v s₃ m₃ E' hv F3 N3 F4 N4 hx
    obtain ⟨z, rz⟩ := r.mem v hv
    refine elt_use X T F4 N4 rz hx fun t tk' => ⟨fun z' r' => ⟨t, by rw [RowIn.one N r' rz]⟩, Keeps.toks⟩
  generalize hbb : sizeComp = bb at *
  conv at hbb => lhs; whnf
  subst hbb
  refine wpAny_ListComp_free (cl := []) (fun _ => true) (SizeG news lim) ?_ ?_ ?_ ?_ ?_ ?_ ?_
  · exact closureFor_none (by decide)
  · decide
  · rfl
  · decide
  · rfl
  · refine wpAny_Name (wpAny_loadName_local rfl rfl F.ns hm ?_) (by decide)
    refine comp_pyIter (fun _ => true) (SizeG news lim) rfl F N hga (by omega) (fun C v s₃ m₃ E' _ _ _ _ _ _ => tests C v s₃ m₃ E') (fun C v s₃ m₃ E' hv _ F3 N3 F4 N4 hx => elts C v s₃ m₃ E' hv F3 N3 F4 N4 hx) fun D h' tk en ys F' N' hne hp => ?_
    refine ret D h' tk en ys F' N' hne (sizes_of ?_ r)
    rw [List.filter_eq_self.mpr (fun _ _ => rfl)] at hp
    exact hp
  · intro _; rfl
end
end
section
theorem fresh_NSize3 : True := by
  w_top off
  first | walk1 | skip
  trivial
theorem RowsIn.length' {news : List (Addr × Obj)} {lim : Int} {vs : List Value} {zs : List Nat} (h : RowsIn news lim vs zs) : vs.length = zs.length := by
  induction h with
  | nil => rfl
  | cons _ _ ih => simp [ih]
section
variable {prog : Program} {w : World} {A : Around} {E : Value → Shared → Prop} {s : Shared} {h₀ : Heap} {L D : Addr} {m : Str → Option Value} {news : List (Addr × Obj)} {n : Nat}
theorem sum_use {ys : List Value} {ns : List Int} {Q : Value → Shared → Prop} (hh : A.handled = none) (F : Fr h₀ L s.heap m) (N : News h₀ L s.heap news) (hm : (D, W.listOf ys.toArray n) ∈ news) (hi : IntsAre ys ns)
    (h : ∀ h' tk t', Fr h₀ L h' m → News h₀ L h' news → Q (.int ns.sum t') { s with heap := h', toks := tk }) :
    wpAny (model prog w) A (call (.builtin "sum") [.ref D]) Q E s :=
  sumK hh F N ⟨_, (N _ hm).1, rfl, n, rfl⟩ hi h
end
def sumZ (zs : List Nat) : Int := (zs.map fun z : Nat => (z : Int)).sum
set_option maxRecDepth 100000
section
variable {w : World} {p : Program} {loose : List Str} {mean : ExcName → Option Value} {mg mb : Str → Option Value} {g g2 : Heap} {L L2 fa ga n : Nat} {cd : Value} {m : Str → Option Value} {s : Shared}
  {tl : List (Addr × Obj)} {vs : List Value} {zs : List Nat} {lim : Int}
set_option maxHeartbeats 1000000 in
theorem size_body {Q : Flow → Shared → Prop} (X : (hd.heap_39 w.params).In g2) (T : Top p loose mean mg mb g2) (F : Fr g2 L2 s.heap m) (N : News g2 L2 s.heap ((ga, W.listOf vs.toArray n) :: tl)) (r : RowsIn ((ga, W.listOf vs.toArray n) :: tl) lim vs zs) (hz : vs.length < 1000)
    (hm : m (Str.ofString "group") = some (.ref ga))
    (ret : ∀ (h' : Heap) (tk : Nat) (t : Tok), Fr g2 L2 h' m → News g2 L2 h' ((ga, W.listOf vs.toArray n) :: tl) → Q (.ret (.int (sumZ zs) t)) { s with heap := h', toks := tk }) :
    wpAny (model PW w) (sizeA L fa cd L2) (execs sizeBody (sizeEnv L2)) Q (fun _ _ => False) s := by
  unfold sizeA lawA sizeEnv
  generalize hsc : scopeOf (Str.ofString "_law_size") = sc
  conv at hsc => lhs; whnf
  subst hsc
  generalize hbb : sizeBody = bb
  conv at hbb => lhs; whnf
  subst hbb
  repeat' (first | (k_unfold; (try dsimp only)) | (k_end; wrow_close) | ((try dsimp only); first | w_nolog (with_reducible ((with_reducible show wpAny _ _ (eval (PySem.Expr.ListComp ..) _) _ _ _); (k_here; k_dflt (refine' size_comp ?X ?T ?F ?N ?ga ?r ?z ?m ?_; (case X => k_asm); (case T => k_asm); (case F => k_asm); (case N => k_asm); (case ga => k_mem); (case r => assumption); (case z => assumption); (case m => (first | (with_reducible assumption) | assumption)); k_whole); intro D' h' tk' en' ys' F' N' ne' hi'))) | w_nolog (with_reducible (k_here; (with_reducible show wpAny _ _ (call (Value.builtin "sum") [Value.ref _]) _ _ _); k_dflt (refine' sum_use ?hh ?F ?N ?m ?i ?_; (case hh => with_unfolding_all rfl); (case F => k_asm); (case N => k_asm); (case m => k_mem); (case i => assumption); k_whole); intro h' tk' t' F' N')) | walk1) | walk1 | (leave1; walk_say "STEP leave1"; try dsimp only) | fail "no step")
  all_goals (try k_data)
  rename Fr _ _ _ _ => kF
  rename News _ _ _ _ => kN
  exact ret _ _ _ kF (News.less kN fun p hp => .tail _ hp)
theorem size_call {Q E : Value → Shared → Prop} {news : List (Addr × Obj)} (X : (hd.heap_39 w.params).In g) (T : Top p loose mean mg mb g) (F : Fr g L s.heap m) (N : News g L s.heap news)
    (hga : (ga, W.listOf vs.toArray n) ∈ news) (r : RowsIn news lim vs zs) (hz : vs.length < 1000)
    (ret : ∀ (t : Tok) (s' : Shared), Keeps s s' → Q (.int (sumZ zs) t) s') :
    wpAny (model PW w) (lawA L fa cd) (call (.ref 172) [.ref ga]) Q E s := by
  have K0 : Below callerA g [] g := below_caller g
  unfold lawA lawEnv
  refine wpAny_call ?_
  refine' call_keep ?k1 ?k2 ?k3 ?k4 ?k5 ?kA ?kF ?kK ?k6 ?k7 ?k8 ?k9 ?kB ?_ ?c2 ?c3 ?c4 ?c5
  case kA => exact rfl
  case kF => exact rfl
  case kK => exact rfl
  case k1 => k_asm
  case k2 => k_asm
  case k3 => k_asm
  case k4 => k_asm
  case k5 => k_asm
  case k6 => k_is
  case k7 => k_is
  case k8 => k_room
  case k9 => exact BindsTo.of_eq rfl
  case c5 => decide
  case kB => exact locs rfl
  case c2 => exact rfl
  case c3 => exact rfl
  case c4 => exact rfl
  k_whole
  intro g' L' h' FG' N' B' X' T' kG
  refine wpAny_noRaise ?_
  refine size_body (n := n) (tl := news) (lim := lim) (zs := zs) X' T' FG' ?_ ?_ hz rfl ?_
  · intro q hq
    rcases List.mem_cons.mp hq with rfl | hq
    · exact N' _ hga
    · exact N' _ hq
  · exact r.mono (fun q hq => .tail _ hq) (Int.le_refl _)
  · intro h'' tk t F'' N''
    refine ret t _ ⟨h'', tk, rfl, fun b o e => ?_⟩
    rcases kG b o e with hb | hb
    · obtain ⟨⟨b', o'⟩, hq, rfl⟩ := List.mem_map.mp hb
      have e1 := (N _ hq).1
      have e2 := (N'' _ (.tail _ hq)).1
      simp only at e1 e2 e
      rw [e1] at e
      cases e
      exact e2
    · exact F''.keep _ _ hb
end
end
section
theorem fresh_NMid : True := by
  w_top off
  first | walk1 | skip
  trivial
set_option maxRecDepth 100000
section
variable {w : World} {p : Program} {loose : List Str} {mean : ExcName → Option Value} {mg mb : Str → Option Value} {g : Heap} {L fa B C D Hd H R G : Nat} {cd : Value} {m : Str → Option Value} {s : Shared} {Q : Flow → Shared → Prop} {E : Value → Shared → Prop}
  {k1 k2 k3 k4 k5 dk : Tok} {h1 h2 h3 h4 h5 d lim : Int} {hn rn dn bn cn gn : Nat} {rs bs cs gs : List Value} {ns ms : List Int} {k : Int} {kt : Tok} {tl : List (Addr × Obj)}
set_option maxHeartbeats 1000000 in
theorem mid_two (X : (hd.heap_39 w.params).In g) (T : Top p loose mean mg mb g) (K0 : Below callerA g [] g) (F : Fr g L s.heap m)
    (hm1 : m (Str.ofString "deck") = some (.ref D)) (hm2 : m (Str.ofString "history") = some (.ref H))
    (N : News g L s.heap ((D, W.listOf #[.ref B, .ref C, .int k kt] dn) :: (B, W.listOf bs.toArray bn) :: (R, W.listOf rs.toArray rn) :: (G, W.listOf gs.toArray gn) :: (H, instObj 109 Hd) :: (Hd, hisO k1 k2 k3 k4 k5 h1 h2 h3 h4 h5 R d dk hn) :: (C, W.listOf cs.toArray cn) :: tl))
    (o1 : B < C) (o2 : C < D) (o3 : D < Hd) (o4 : Hd < H) (o5 : H < R) (o6 : R < G) (hoff : OwnOff tl [B, C, D, Hd, H, R, G])
    (hI : IntsAre cs ms) (hms : 0 < ms.length) (hcl : ms.length ≤ 21) (hbI : IntsAre bs ns) (hbl : ns.length ≤ 21) (hz : rs.length < 700) (hl0 : LastRow tl lim rs)
    (ret : ∀ (h' : Heap) (tk' : Nat) (k' : Int) (kt' : Tok) (bs' : List Value) (ns' : List Int) (bn' rn' : Nat) (rs' : List Value), Fr g L h' m → rs' = rs ∨ rs' = bdOf rs →
      News g L h' ((D, W.listOf #[.ref B, .ref C, .int k' kt'] dn) :: (B, W.listOf bs'.toArray bn') :: (R, W.listOf rs'.toArray rn') :: (G, W.listOf gs.toArray gn) :: (H, instObj 109 Hd) :: (Hd, hisO k1 k2 k3 k4 k5 h1 h2 h3 h4 h5 R d dk hn) :: (C, W.listOf cs.toArray cn) :: tl) →
      IntsAre bs' ns' → ns'.length ≤ 21 → Q .next { s with heap := h', toks := tk' }) :
    wpAny (model PW w) (lawA L fa cd) (exec (stOf lawBody 2) (lawEnv L fa cd)) Q (fun _ _ => False) s := by
  have hl := hl0.ok
  unfold lawA lawEnv
  generalize hsc : scopeOf (Str.ofString "law") = sc
  conv at hsc => lhs; whnf
  subst hsc
  generalize hbb : stOf lawBody 2 = bb
  conv at hbb => lhs; whnf
  subst hbb
  repeat' (first | (k_unfold; (try dsimp only)) | (k_end; wrow_close) | ((try dsimp only); first | w_nolog (with_reducible (k_here; (with_reducible show wpAny _ _ (call (Value.ref 57) _) _ _ _); k_dflt (refine' boundary_use2 ?X ?T ?F ?N ?H ?Hd ?R ?dr ?n1 ?n2 ?hz ?hl ?_; (case X => k_asm); (case T => k_asm); (case F => k_asm); (case N => k_asm); (case H => k_mem); (case Hd => k_mem); (case R => k_mem); (case dr => (repeat' (first | exact Drop.nil | (refine' Drop.hit ?dh9 ?_; (case dh9 => (repeat' (first | exact List.Mem.head _ | refine List.Mem.tail _ ?_)))) | (refine' Drop.keep ?dh9 ?_; (case dh9 => (repeat' (first | exact List.forall_mem_nil _ | refine List.forall_mem_cons.mpr ⟨by k_ne, ?_⟩)))) | exact Drop.tl (by (refine' off_sub ?oh9 ?os9; (case oh9 => assumption); (case os9 => (repeat' (first | exact List.forall_mem_nil _ | refine List.forall_mem_cons.mpr ⟨by (repeat' (first | exact List.Mem.head _ | refine List.Mem.tail _ ?_)), ?_⟩)))))))); (case n1 => k_ne); (case n2 => k_ne); (case hz => omega); (case hl => (refine' LastOk.mono ?lk9 ?ls9 ?ll9; (case lk9 => assumption); (case ls9 => (intro p9 hp9; (repeat' (first | assumption | refine List.Mem.tail _ ?_)))); (case ll9 => exact Int.le_refl _))); k_whole); intro h' tk' rs' rn' F' N' e' be' bl' bm'; (try k_sweep))) | w_nolog (with_reducible (k_here; (with_reducible show wpAny _ _ (call (Value.ref 78) _) _ _ _); k_dflt (refine' insert_use ?X ?T ?F ?N ?H ?Hd ?R ?dr ?n1 ?n2 ?hz ?hl ?hlim ?m1 ?m4 ?_; (case X => k_asm); (case T => k_asm); (case F => k_asm); (case N => k_asm); (case H => k_mem); (case Hd => k_mem); (case R => k_mem); (case dr => (repeat' (first | exact Drop.nil | (refine' Drop.hit ?dh9 ?_; (case dh9 => (repeat' (first | exact List.Mem.head _ | refine List.Mem.tail _ ?_)))) | (refine' Drop.keep ?dh9 ?_; (case dh9 => (repeat' (first | exact List.forall_mem_nil _ | refine List.forall_mem_cons.mpr ⟨by k_ne, ?_⟩)))) | exact Drop.tl (by (refine' off_sub ?oh9 ?os9; (case oh9 => assumption); (case os9 => (repeat' (first | exact List.forall_mem_nil _ | refine List.forall_mem_cons.mpr ⟨by (repeat' (first | exact List.Mem.head _ | refine List.Mem.tail _ ?_)), ?_⟩)))))))); (case n1 => k_ne); (case n2 => k_ne); (case hz => omega); (case hl => (refine' LastOk.mono ?lk9 ?ls9 ?ll9; (case lk9 => assumption); (case ls9 => (intro p9 hp9; (repeat' (first | assumption | refine List.Mem.tail _ ?_)))); (case ll9 => exact Int.le_refl _))); (case hlim => omega); (case m1 => omega); (case m4 => omega); k_whole); intro h' tk' nr' u1' u2' u3' F' N' l1' l2' l3' l4'; (try k_sweep))) | w_nolog (with_reducible (k_here; (with_reducible show wpAny _ _ (call (Value.ref 167) _) _ _ _); k_dflt (refine' draw_use ?X ?T ?F ?N ?D ?B ?C ?dr ?n1 ?n2 ?n3 ?I ?ms ?cl ?bI ?bl ?m ?m' ?_; (case X => k_asm); (case T => k_asm); (case F => k_asm); (case N => k_asm); (case D => k_mem); (case B => k_mem); (case C => k_mem); (case dr => (repeat' (first | exact Drop.nil | (refine' Drop.hit ?dh9 ?_; (case dh9 => (repeat' (first | exact List.Mem.head _ | refine List.Mem.tail _ ?_)))) | (refine' Drop.keep ?dh9 ?_; (case dh9 => (repeat' (first | exact List.forall_mem_nil _ | refine List.forall_mem_cons.mpr ⟨by k_ne, ?_⟩)))) | exact Drop.tl (by (refine' off_sub ?oh9 ?os9; (case oh9 => assumption); (case os9 => (repeat' (first | exact List.forall_mem_nil _ | refine List.forall_mem_cons.mpr ⟨by (repeat' (first | exact List.Mem.head _ | refine List.Mem.tail _ ?_)), ?_⟩)))))))); (case n1 => k_ne); (case n2 => k_ne); (case n3 => k_ne); (case I => assumption); (case ms => assumption); (case cl => assumption); (case bI => assumption); (case bl => assumption); (case m => decide); (case m' => decide); k_whole); intro h' r' t' k' kt' tk' bs' ns' bn' F' N' iB' lB' r0' r1'; (try k_sweep))) | w_nolog (with_reducible ((with_reducible show wpAny _ _ (eval (PySem.Expr.Name _ _) _) _ _ _); (k_here; k_dflt (refine' nameX_L ?F ?v ?_ ?a ?b ?c; (case F => k_asm); (case a => rfl); (case b => rfl); (case c => decide); (case v => first | (with_reducible assumption) | assumption); k_whole)))) | walk1) | walk1 | (leave1; walk_say "STEP leave1"; try dsimp only) | fail "no step")
  all_goals (try k_data)
  · rename Fr _ _ _ _ => kF
    rename News _ _ _ _ => kN
    rename (BdEnd rs ∧ _) ∨ _ => e9
    have e8 := bd_out X (tl := tl) kN (fun p9 hp9 => by repeat first | exact List.mem_append_left _ hp9 | assumption | refine List.Mem.tail _ ?_) hl0 e9
    subst e8
    exact ret _ _ _ _ _ _ _ _ _ kF (.inr rfl) (News.less kN (by (repeat' (first | exact List.forall_mem_nil _ | refine mem_more (by k_mem) ?_ | (intro p9 hp9; focus ((repeat' (first | assumption | refine List.Mem.tail _ ?_)); done)))))) (by assumption) (by assumption)
  · rename Fr _ _ _ _ => kF
    rename News _ _ _ _ => kN
    exact ret _ _ _ _ _ _ _ _ _ kF (.inl rfl) (News.less kN (by (repeat' (first | exact List.forall_mem_nil _ | refine mem_more (by k_mem) ?_ | (intro p9 hp9; focus ((repeat' (first | assumption | refine List.Mem.tail _ ?_)); done)))))) (by assumption) (by assumption)
set_option maxHeartbeats 1000000 in
theorem mid_three (X : (hd.heap_39 w.params).In g) (T : Top p loose mean mg mb g) (K0 : Below callerA g [] g) (F : Fr g L s.heap m)
    (hm1 : m (Str.ofString "deck") = some (.ref D)) (hm2 : m (Str.ofString "history") = some (.ref H)) (hm3 : m (Str.ofString "groups") = some (.ref G))
    (N : News g L s.heap ((D, W.listOf #[.ref B, .ref C, .int k kt] dn) :: (B, W.listOf bs.toArray bn) :: (R, W.listOf rs.toArray rn) :: (G, W.listOf gs.toArray gn) :: (H, instObj 109 Hd) :: (Hd, hisO k1 k2 k3 k4 k5 h1 h2 h3 h4 h5 R d dk hn) :: (C, W.listOf cs.toArray cn) :: tl))
    (o1 : B < C) (o2 : C < D) (o3 : D < Hd) (o4 : Hd < H) (o5 : H < R) (o6 : R < G) (hoff : OwnOff tl [B, C, D, Hd, H, R, G])
    (hI : IntsAre cs ms) (hms : 0 < ms.length) (hcl : ms.length ≤ 21) (hbI : IntsAre bs ns) (hbl : ns.length ≤ 21) (hz : rs.length < 700)
    (ret : ∀ (h' : Heap) (tk' bf bfn : Nat) (m' : Str → Option Value) (most : Int) (mt t0 : Tok), Fr g L h' m' → 0 ≤ most → most < 24 → @LT.lt Nat _ G bf → AllLt bf tl →
      News g L h' ((bf, W.listOf rs.toArray bfn) :: (R, W.listOf rs.toArray rn) :: (G, W.listOf gs.toArray gn) :: (H, instObj 109 Hd) :: (Hd, hisO k1 k2 k3 k4 k5 h1 h2 h3 h4 h5 R d dk hn) :: tl) →
      m' (Str.ofString "history") = some (.ref H) → m' (Str.ofString "groups") = some (.ref G) → m' (Str.ofString "most") = some (.int most mt) → m' (Str.ofString "before") = some (.ref bf) → m' (Str.ofString "kept") = some (.int 0 t0) → Q .next { s with heap := h', toks := tk' }) :
    wpAny (model PW w) (lawA L fa cd) (exec (stOf lawBody 3) (lawEnv L fa cd)) Q (fun _ _ => False) s := by
  unfold lawA lawEnv
  generalize hsc : scopeOf (Str.ofString "law") = sc
  conv at hsc => lhs; whnf
  subst hsc
  generalize hbb : stOf lawBody 3 = bb
  conv at hbb => lhs; whnf
  subst hbb
  repeat' (first | (k_unfold; (try dsimp only)) | (k_end; wrow_close) | ((try dsimp only); first | w_nolog (with_reducible (k_here; (with_reducible show wpAny _ _ (call (Value.ref 57) _) _ _ _); k_dflt (refine' boundary_use2 ?X ?T ?F ?N ?H ?Hd ?R ?dr ?n1 ?n2 ?hz ?hl ?_; (case X => k_asm); (case T => k_asm); (case F => k_asm); (case N => k_asm); (case H => k_mem); (case Hd => k_mem); (case R => k_mem); (case dr => (repeat' (first | exact Drop.nil | (refine' Drop.hit ?dh9 ?_; (case dh9 => (repeat' (first | exact List.Mem.head _ | refine List.Mem.tail _ ?_)))) | (refine' Drop.keep ?dh9 ?_; (case dh9 => (repeat' (first | exact List.forall_mem_nil _ | refine List.forall_mem_cons.mpr ⟨by k_ne, ?_⟩)))) | exact Drop.tl (by (refine' off_sub ?oh9 ?os9; (case oh9 => assumption); (case os9 => (repeat' (first | exact List.forall_mem_nil _ | refine List.forall_mem_cons.mpr ⟨by (repeat' (first | exact List.Mem.head _ | refine List.Mem.tail _ ?_)), ?_⟩)))))))); (case n1 => k_ne); (case n2 => k_ne); (case hz => omega); (case hl => (refine' LastOk.mono ?lk9 ?ls9 ?ll9; (case lk9 => assumption); (case ls9 => (intro p9 hp9; (repeat' (first | assumption | refine List.Mem.tail _ ?_)))); (case ll9 => exact Int.le_refl _))); k_whole); intro h' tk' rs' rn' F' N' e' be' bl' bm'; (try k_sweep))) | w_nolog (with_reducible (k_here; (with_reducible show wpAny _ _ (call (Value.ref 78) _) _ _ _); k_dflt (refine' insert_use ?X ?T ?F ?N ?H ?Hd ?R ?dr ?n1 ?n2 ?hz ?hl ?hlim ?m1 ?m4 ?_; (case X => k_asm); (case T => k_asm); (case F => k_asm); (case N => k_asm); (case H => k_mem); (case Hd => k_mem); (case R => k_mem); (case dr => (repeat' (first | exact Drop.nil | (refine' Drop.hit ?dh9 ?_; (case dh9 => (repeat' (first | exact List.Mem.head _ | refine List.Mem.tail _ ?_)))) | (refine' Drop.keep ?dh9 ?_; (case dh9 => (repeat' (first | exact List.forall_mem_nil _ | refine List.forall_mem_cons.mpr ⟨by k_ne, ?_⟩)))) | exact Drop.tl (by (refine' off_sub ?oh9 ?os9; (case oh9 => assumption); (case os9 => (repeat' (first | exact List.forall_mem_nil _ | refine List.forall_mem_cons.mpr ⟨by (repeat' (first | exact List.Mem.head _ | refine List.Mem.tail _ ?_)), ?_⟩)))))))); (case n1 => k_ne); (case n2 => k_ne); (case hz => omega); (case hl => (refine' LastOk.mono ?lk9 ?ls9 ?ll9; (case lk9 => assumption); (case ls9 => (intro p9 hp9; (repeat' (first | assumption | refine List.Mem.tail _ ?_)))); (case ll9 => exact Int.le_refl _))); (case hlim => omega); (case m1 => omega); (case m4 => omega); k_whole); intro h' tk' nr' u1' u2' u3' F' N' l1' l2' l3' l4'; (try k_sweep))) | w_nolog (with_reducible (k_here; (with_reducible show wpAny _ _ (call (Value.ref 167) _) _ _ _); k_dflt (refine' draw_use ?X ?T ?F ?N ?D ?B ?C ?dr ?n1 ?n2 ?n3 ?I ?ms ?cl ?bI ?bl ?m ?m' ?_; (case X => k_asm); (case T => k_asm); (case F => k_asm); (case N => k_asm); (case D => k_mem); (case B => k_mem); (case C => k_mem); (case dr => (repeat' (first | exact Drop.nil | (refine' Drop.hit ?dh9 ?_; (case dh9 => (repeat' (first | exact List.Mem.head _ | refine List.Mem.tail _ ?_)))) | (refine' Drop.keep ?dh9 ?_; (case dh9 => (repeat' (first | exact List.forall_mem_nil _ | refine List.forall_mem_cons.mpr ⟨by k_ne, ?_⟩)))) | exact Drop.tl (by (refine' off_sub ?oh9 ?os9; (case oh9 => assumption); (case os9 => (repeat' (first | exact List.forall_mem_nil _ | refine List.forall_mem_cons.mpr ⟨by (repeat' (first | exact List.Mem.head _ | refine List.Mem.tail _ ?_)), ?_⟩)))))))); (case n1 => k_ne); (case n2 => k_ne); (case n3 => k_ne); (case I => assumption); (case ms => assumption); (case cl => assumption); (case bI => assumption); (case bl => assumption); (case m => decide); (case m' => decide); k_whole); intro h' r' t' k' kt' tk' bs' ns' bn' F' N' iB' lB' r0' r1'; (try k_sweep))) | w_nolog (with_reducible ((with_reducible show wpAny _ _ (eval (PySem.Expr.Name _ _) _) _ _ _); (k_here; k_dflt (refine' nameX_L ?F ?v ?_ ?a ?b ?c; (case F => k_asm); (case a => rfl); (case b => rfl); (case c => decide); (case v => first | (with_reducible assumption) | assumption); k_whole)))) | walk1) | walk1 | (leave1; walk_say "STEP leave1"; try dsimp only) | fail "no step")
  all_goals (try k_data)
  rename Fr _ _ _ _ => kF
  rename News _ _ _ _ => kN
  rename (D < _ ∧ _) => l9
  exact ret _ _ _ _ _ _ _ _ kF (by assumption) (by assumption) l9.2.2.2.1 l9.2.2.2.2.2.2.2 (News.less kN (by (repeat' (first | exact List.forall_mem_nil _ | refine mem_more (by k_mem) ?_ | (intro p9 hp9; focus ((repeat' (first | assumption | refine List.Mem.tail _ ?_)); done)))))) (by (first | (with_reducible assumption) | assumption)) (by (first | (with_reducible assumption) | assumption)) (by exact rfl) (by exact rfl) (by exact rfl)
end
end
section
theorem fresh_NKeep1 : True := by
  w_top off
  first | walk1 | skip
  trivial
def keepW : Stmt := stOf lawBody 4
def boolE (i : Nat) : PySem.Expr → PySem.Expr
  | .BoolOp _ es _ => es.getD i default
  | _ => default
def cmpL : PySem.Expr → PySem.Expr
  | .Compare e _ _ _ => e
  | _ => default
def compIt : PySem.Expr → PySem.Expr
  | .ListComp _ (⟨_, e, _, _⟩ :: _) _ _ => e
  | _ => default
def keepComp : PySem.Expr := argE 0 (cmpL (boolE 1 (boolE 1 (whT keepW))))
def SumG (news : List (Addr × Obj)) (lim : Int) (v y : Value) : Prop := ∀ (ga n : Nat) (vs : List Value) (zs : List Nat), v = .ref ga → (ga, W.listOf vs.toArray n) ∈ news → RowsIn news lim vs zs → ∃ t, y = .int (sumZ zs) t
theorem RowsIn.one {h₀ h : Heap} {L : Addr} {news : List (Addr × Obj)} {lim lim' : Int} {vs : List Value} {zs zs' : List Nat} (N : News h₀ L h news) (r : RowsIn news lim vs zs) (r' : RowsIn news lim' vs zs') : zs = zs' := by
  induction r generalizing zs' with
  | nil => cases r'; rfl
  | cons r _ ih =>
    cases r' with
    | cons q r' => rw [RowIn.one N r q, ih r']
theorem sums_of {news : List (Addr × Obj)} {lim : Int} {gvs ys : List Value} {gss : List (List Value × List Nat)} (h : Paired (SumG news lim) gvs ys) (r : GroupsIn news lim gvs gss) : IntsAre ys (gss.map fun g => sumZ g.2) := by
  induction r generalizing ys with
  | nil => cases h; exact .nil
  | cons hm r _ _ _ ih =>
    cases h with
    | cons g h =>
      obtain ⟨t, rfl⟩ := g _ _ _ _ rfl hm r
      exact .cons _ _ (ih h)
theorem GroupsIn.mem {news : List (Addr × Obj)} {lim : Int} {gvs : List Value} {gss : List (List Value × List Nat)} (r : GroupsIn news lim gvs gss) : ∀ v ∈ gvs, ∃ (ga n : Nat) (vs : List Value) (zs : List Nat), v = .ref ga ∧ (ga, W.listOf vs.toArray n) ∈ news ∧ RowsIn news lim vs zs ∧ vs.length ≤ 3 := by
  induction r with
  | nil => intro v hv; cases hv
  | cons hm r _ h3 _ ih =>
    intro v hv
    rcases List.mem_cons.mp hv with rfl | hv
    · exact ⟨_, _, _, _, rfl, hm, r, h3⟩
    · exact ih v hv
theorem GroupsIn.drop {news : List (Addr × Obj)} {lim : Int} {gvs : List Value} {gss : List (List Value × List Nat)} (r : GroupsIn news lim gvs gss) (i : Nat) : GroupsIn news lim (gvs.drop i) (gss.drop i) := by
  induction i generalizing gvs gss with
  | zero => exact r
  | succ i ih =>
    cases r with
    | nil => simpa using GroupsIn.nil
    | cons _ _ _ _ r => exact ih r
theorem listOf_inj {vs vs' : List Value} {n n' : Nat} (h : W.listOf vs.toArray n = W.listOf vs'.toArray n') : vs = vs' := by
  simp [W.listOf] at h
  exact h.1
set_option maxRecDepth 100000
section
variable {w : World} {p : Program} {loose : List Str} {mean : ExcName → Option Value} {mg mb : Str → Option Value} {g : Heap} {L fa C ga n : Nat} {cd : Value} {m m₃ : Str → Option Value} {s : Shared}
  {news : List (Addr × Obj)} {vs gvs : List Value} {zs : List Nat} {gss : List (List Value × List Nat)} {lim : Int}
set_option maxHeartbeats 1000000 in
theorem keep_elt {Q E : Value → Shared → Prop} (X : (hd.heap_39 w.params).In g) (T : Top p loose mean mg mb g) (F : Fr g L s.heap m) (N : News g L s.heap news) (F4 : Fr g C s.heap m₃) (N4 : News g C s.heap news)
    (hga : (ga, W.listOf vs.toArray n) ∈ news) (r : RowsIn news lim vs zs) (hz : vs.length ≤ 3) (hm : m₃ (Str.ofString "group") = some (.ref ga))
    (ret : ∀ (t : Tok) (s' : Shared), Keeps s s' → Q (.int (sumZ zs) t) s') :
    wpAny (model PW w) (lawA L fa cd) (eval (compElt keepComp) (compEnvC (compSc keepComp) [] C (lawEnv L fa cd))) Q E s := by
  unfold lawA lawEnv
  generalize hsc : scopeOf (Str.ofString "law") = sc
  conv at hsc => lhs; whnf
  subst hsc
  generalize hbb : compElt keepComp = bb
  conv at hbb => lhs; whnf
  subst hbb
  generalize hbc : compSc keepComp = bc
  conv at hbc => lhs; whnf
  subst hbc
  repeat' (first | (k_unfold; (try dsimp only)) | (k_end; wrow_close) | ((try dsimp only); first | w_nolog (with_reducible (k_here; (with_reducible show wpAny _ _ (call (Value.ref 172) [Value.ref _]) _ _ _); k_dflt (refine' size_call ?X ?T ?F ?N ?ga ?r ?z ?_; (case X => k_asm); (case T => k_asm); (case F => assumption); (case N => assumption); (case ga => assumption); (case r => assumption); (case z => omega); k_whole); intro t' s' k')) | w_nolog (with_reducible ((with_reducible show wpAny _ _ (eval (PySem.Expr.Name _ _) _) _ _ _); (k_here; k_dflt (first | (refine' nameC_L ?F ?v ?_ ?k ?x ?d; (case F => k_asm); (case k => rfl); (case x => rfl); (case d => decide); (case v => first | (with_reducible assumption) | assumption); k_whole) | (refine' nameC_K ?F ?X ?T ?e ?_ ?k ?x ?d; (case F => k_asm); (case X => k_asm); (case T => k_asm); (case k => rfl); (case x => rfl); (case d => decide); (case e => k_is); k_whole) | (refine' nameC_B ?F ?X ?T ?e ?v ?n ?_ ?k ?x ?d; (case F => k_asm); (case X => k_asm); (case T => k_asm); (case k => rfl); (case x => rfl); (case d => decide); (case e => k_is); (case v => boot_fast); (case n => decide); k_whole))))) | walk1) | walk1 | (leave1; walk_say "STEP leave1"; try dsimp only) | fail "no step")
  all_goals (try k_data)
  all_goals first | exact ret _ _ (by assumption)
end
end
section
theorem fresh_NKeep2 : True := by
  w_top off
  first | walk1 | skip
  trivial
set_option maxRecDepth 100000
section
variable {w : World} {p : Program} {loose : List Str} {mean : ExcName → Option Value} {mg mb : Str → Option Value} {g : Heap} {L fa G n : Nat} {cd : Value} {m : Str → Option Value} {s : Shared}
  {news : List (Addr × Obj)} {gvs : List Value} {gss : List (List Value × List Nat)} {lim k : Int} {kt : Tok} {Q E : Value → Shared → Prop}
set_option maxHeartbeats 1000000 in
theorem keep_iter (X : (hd.heap_39 w.params).In g) (T : Top p loose mean mg mb g) (F : Fr g L s.heap m) (N : News g L s.heap ((G, W.listOf gvs.toArray n) :: news))
    (hm1 : m (Str.ofString "groups") = some (.ref G)) (hm2 : m (Str.ofString "kept") = some (.int k kt)) (h0 : 0 ≤ k) (h1 : k < gvs.length) (h2 : gvs.length ≤ 6)
    (ret : ∀ (D' : Nat) h' tk', Fr g L h' m → News g L h' ((D', W.listOf (gvs.drop (gvs.length - k.toNat - 1)).toArray 0) :: (G, W.listOf gvs.toArray n) :: news) → Q (.ref D') { s with heap := h', toks := tk' }) :
    wpAny (model PW w) (lawA L fa cd) (eval (compIt keepComp) (lawEnv L fa cd)) Q E s := by
  unfold lawA lawEnv
  generalize hsc : scopeOf (Str.ofString "law") = sc
  conv at hsc => lhs; whnf
  subst hsc
  generalize hbb : compIt keepComp = bb
  conv at hbb => lhs; whnf
  subst hbb
  repeat' (first | (k_unfold; (try dsimp only)) | (k_end; wrow_close) | ((try dsimp only); first | w_nolog (with_reducible (k_here; (with_reducible show wpAny _ _ (subscriptTail _ (PySem.Expr.Slice _ _ _ _) (Value.ref _) (Value.ref _)) _ _ _); k_dflt (refine' slice_from ?F ?N ?m ?x ?z ?_ ?s ?t; (case F => k_asm); (case N => k_asm); (case m => k_mem); (case x => omega); (case z => omega); (case s => with_unfolding_all rfl); (case t => kmk_pure)); intro D' h' F' N' l1; (try k_lt l1); (try k_sweep))) | w_nolog (with_reducible (k_here; (with_reducible show wpAny _ _ (pyIter (Value.ref _)) (fun _ _ => LoopAtV _ _ _ _ _ _ _ _ _ _ _) _ _); (rename IsRange _ _ _ _ _ _ _ _ => hR9); k_dflt (refine' again_use ?X ?T ?F ?N hR9 ?b0 ?b3 ?m1 ?m2 ?m3 ?m4 ?m5 ?D ?B ?R ?H ?Hd ?C ?dr ?G ?sub ?o1 ?o2 ?o3 ?o4 ?o5 ?off ?I ?ms ?cl ?bI ?bl ?hz ?hl ?_; (case X => k_asm); (case T => k_asm); (case F => k_asm); (case N => k_asm); (case b0 => omega); (case b3 => omega); (case m1 => (first | (with_reducible assumption) | assumption)); (case m2 => (first | (with_reducible assumption) | assumption)); (case m3 => (first | (with_reducible assumption) | assumption)); (case m4 => (first | (with_reducible assumption) | assumption)); (case m5 => first | exact rfl | (first | (with_reducible assumption) | assumption)); (case D => k_mem); (case B => k_mem); (case H => k_mem); (case Hd => k_mem); (case R => k_mem); (case C => k_mem); (case o1 => assumption); (case o2 => assumption); (case o3 => assumption); (case o4 => assumption); (case o5 => assumption); (case off => assumption); (case dr => (repeat' (first | exact Drop.nil | (refine' Drop.hit ?dh9 ?_; (case dh9 => (repeat' (first | exact List.Mem.head _ | refine List.Mem.tail _ ?_)))) | (refine' Drop.keep ?dh9 ?_; (case dh9 => (repeat' (first | exact List.forall_mem_nil _ | refine List.forall_mem_cons.mpr ⟨by k_ne, ?_⟩)))) | exact Drop.tl (by (refine' off_sub ?oh9 ?os9; (case oh9 => assumption); (case os9 => (repeat' (first | exact List.forall_mem_nil _ | refine List.forall_mem_cons.mpr ⟨by (repeat' (first | exact List.Mem.head _ | refine List.Mem.tail _ ?_)), ?_⟩)))))))); (case G => k_mem); (case sub => (intro p9 hp9; (repeat' (first | assumption | refine List.Mem.tail _ ?_)))); (case I => assumption); (case ms => assumption); (case cl => assumption); (case bI => assumption); (case bl => assumption); (case hz => omega); (case hl => exact BdEnd.last (by assumption)); k_whole); intro h' tk' m' add' vs' zs' k' kt' att' bs' ns' bn' rn' F' hm' hat' N' ib' il' rw' v0' v3' vz' oa' a1' a2' a3' n1' n2' n3' n4'; (try simp only [List.cons_append, List.nil_append] at N'); (try k_sweep))) | w_nolog (with_reducible (k_here; (with_reducible show wpAny _ _ (call (Value.builtin "len") [Value.ref _]) _ _ _); k_dflt (refine' len_any ?N ?m ?z ?_; (case N => k_asm); (case m => k_mem); (case z => first | assumption | omega); k_whole))) | w_nolog (with_reducible ((with_reducible show wpAny _ _ (eval (PySem.Expr.Name _ _) _) _ _ _); (k_here; k_dflt (refine' nameX_L ?F ?v ?_ ?a ?b ?c; (case F => k_asm); (case a => rfl); (case b => rfl); (case c => decide); (case v => first | (with_reducible assumption) | assumption); k_whole)))) | walk1) | walk1 | (leave1; walk_say "STEP leave1"; try dsimp only) | fail "no step")
  all_goals (try k_data)
  rename Fr _ _ _ _ => kF
  rename News _ _ _ _ => kN
  rw [show (gvs.length - k - 1 : Int).toNat = gvs.length - k.toNat - 1 by omega] at kN
  exact ret _ _ _ kF kN
theorem paired_filter_tt {G' : Value → Value → Prop} {vs ys : List Value} (h : Paired G' (vs.filter fun _ => true) ys) : Paired G' vs ys := by
  rw [List.filter_eq_self.mpr (fun _ _ => rfl)] at h
  exact h
theorem keep_comp (X : (hd.heap_39 w.params).In g) (T : Top p loose mean mg mb g) (F : Fr g L s.heap m) (N : News g L s.heap ((G, W.listOf gvs.toArray n) :: news)) (r : GroupsIn news lim gvs gss)
    (hm1 : m (Str.ofString "groups") = some (.ref G)) (hm2 : m (Str.ofString "kept") = some (.int k kt)) (h0 : 0 ≤ k) (h1 : k < gvs.length) (h2 : gvs.length ≤ 6)
    (ret : ∀ (D' : Nat) h' tk' (en : Nat) ys, Fr g L h' m → News g L h' ((D', W.listOf ys.toArray en) :: (G, W.listOf gvs.toArray n) :: news) → IntsAre ys ((gss.drop (gvs.length - k.toNat - 1)).map fun g => sumZ g.2) → Q (.ref D') { s with heap := h', toks := tk' }) :
    wpAny (model PW w) (lawA L fa cd) (eval keepComp (lawEnv L fa cd)) Q E s := by
  have it := fun {Q : Value → Shared → Prop} ret => keep_iter (E := E) (Q := Q) X T (fa := fa) (cd := cd) F N hm1 hm2 h0 h1 h2 ret
  have r9 := (r.drop (gvs.length - k.toNat - 1)).mono (news' := (G, W.listOf gvs.toArray n) :: news) (fun p hp => .tail _ hp) (Int.le_refl _)
  have hl9 : (gvs.drop (gvs.length - k.toNat - 1)).length < 100000 := by rw [List.length_drop]; omega
  generalize gvs.drop (gvs.length - k.toNat - 1) = gv9 at *
  generalize gss.drop (gvs.length - k.toNat - 1) = gs9 at *
  have tests : ∀ (C : Addr) (v : Value) (s₃ : Shared) (m₃ : Str → Option Value) (E' : Value → Shared → Prop), wpAny (model PW w) (lawA L fa cd) (forIn ([] : List PySem.Expr) true fun c r => if r = true then do let ok ← PySem.isTrue c (compEnvC (compSc keepComp) [] C (lawEnv L fa cd)) (eval c (compEnvC (compSc keepComp) [] C (lawEnv L fa cd))); pure (ForInStep.yield ok) else pure (ForInStep.yield r)) (fun ok s₄ => ok = (fun _ => true) v ∧ Keeps s₃ s₄) E' s₃ :=
    fun C v s₃ m₃ E' => wpAny_pure ⟨rfl, ⟨s₃.heap, s₃.toks, rfl, fun _ _ e => e⟩⟩
  have elts : ∀ (D' C : Addr) (v : Value) (s₃ : Shared) (m₃ : Str → Option Value) (E' : Value → Shared → Prop), v ∈ gv9 → Fr g L s₃.heap m → News g L s₃.heap ((D', W.listOf gv9.toArray 0) :: (G, W.listOf gvs.toArray n) :: news) → Fr g C s₃.heap m₃ → News g C s₃.heap ((D', W.listOf gv9.toArray 0) :: (G, W.listOf gvs.toArray n) :: news) → m₃ (Str.ofString "group") = some v →
      wpAny (model PW w) (lawA L fa cd) (eval (compElt keepComp) (compEnvC (compSc keepComp) [] C (lawEnv L fa cd))) (fun y s₄ => SumG ((G, W.listOf gvs.toArray n) :: news) lim v y ∧ Keeps s₃ s₄) E' s₃ := by
    intro D' C v s₃ m₃ E' hv F3 N3 F4 N4 hx
    obtain ⟨ga, n', vs, zs, rfl, hga, rr, hz⟩ := r9.mem v hv
    refine keep_elt X T F3 N3 F4 N4 (.tail _ hga) (rr.mono (fun p hp => .tail _ hp) (Int.le_refl _)) hz hx fun t s' k' => ⟨fun ga' n'' vs' zs' e hm' rr' => ⟨t, ?_⟩, k'⟩
    cases e
    have e2 := news_one N3 (.tail _ hga) (.tail _ hm')
    have e3 := listOf_inj e2
    subst e3
    rw [RowsIn.one (News.less N3 fun p hp => .tail _ hp) rr rr']
  generalize hbb : keepComp = bb at *
  conv at hbb => lhs; whnf
  subst hbb
  unfold lawEnv at *
  refine wpAny_ListComp_free (cl := []) (fun _ => true) (SumG ((G, W.listOf gvs.toArray n) :: news) lim) ?_ ?_ ?_ ?_ ?_ ?_ ?_
  · exact closureFor_none (by decide)
  · decide
  · rfl
  · decide
  · rfl
  · refine it fun D' h' tk' F' N' => ?_
    refine comp_pyIter (fun _ => true) (SumG ((G, W.listOf gvs.toArray n) :: news) lim) rfl F' N' (.head _) hl9 (fun C v s₃ m₃ E' _ _ _ _ _ _ => tests C v s₃ m₃ E') (fun C v s₃ m₃ E' hv _ F3 N3 F4 N4 hx => elts D' C v s₃ m₃ E' hv F3 N3 F4 N4 hx) fun D2 h2' tk2 en ys F2 N2 hne hp => ?_
    exact ret D2 h2' tk2 en ys F2 (News.less N2 (mem_more (.head _) fun p hp => .tail _ (.tail _ hp))) (sums_of (paired_filter_tt hp) (r9.mono (fun p hp => hp) (Int.le_refl _)))
  · intro _; rfl
end
end
section
theorem fresh_NKeep3 : True := by
  w_top off
  first | walk1 | skip
  trivial
def whB2 : Stmt → List Stmt := whB
def keptSz (gss : List (List Value × List Nat)) (j : Nat) : Int := ((gss.drop (gss.length - j)).map fun g => sumZ g.2).sum
set_option maxRecDepth 100000
section
variable {w : World} {p : Program} {loose : List Str} {mean : ExcName → Option Value} {mg mb : Str → Option Value} {g : Heap} {L fa G n : Nat} {cd : Value} {m : Str → Option Value} {s : Shared}
  {news : List (Addr × Obj)} {gvs : List Value} {gss : List (List Value × List Nat)} {lim k most : Int} {kt mt : Tok}
set_option maxHeartbeats 1000000 in
theorem keep_test1 {Q : Bool → Shared → Prop} (X : (hd.heap_39 w.params).In g) (T : Top p loose mean mg mb g) (F : Fr g L s.heap m) (N : News g L s.heap ((G, W.listOf gvs.toArray n) :: news)) (r : GroupsIn news lim gvs gss) (hm3 : m (Str.ofString "most") = some (.int most mt))
    (hm1 : m (Str.ofString "groups") = some (.ref G)) (hm2 : m (Str.ofString "kept") = some (.int k kt)) (h1 : k = gvs.length) (h2 : gvs.length ≤ 6)
    (ret : ∀ h' tk', Fr g L h' m → News g L h' ((G, W.listOf gvs.toArray n) :: news) → Q false { s with heap := h', toks := tk' }) :
    wpAny (model PW w) (lawA L fa cd) (PySem.isTrue (whT keepW) (lawEnv L fa cd) (eval (whT keepW) (lawEnv L fa cd))) Q (fun _ _ => False) s := by
  unfold lawA lawEnv
  generalize hsc : scopeOf (Str.ofString "law") = sc
  conv at hsc => lhs; whnf
  subst hsc
  generalize hbb : whT keepW = bb
  conv at hbb => lhs; whnf
  subst hbb
  repeat' (first | (k_unfold; (try dsimp only)) | (k_end; wrow_close) | ((try dsimp only); first | w_nolog (with_reducible ((with_reducible show wpAny _ _ (eval (PySem.Expr.ListComp ..) _) _ _ _); (k_here; k_dflt (refine' keep_comp ?X ?T ?F ?N ?r ?m1 ?m2 ?h0 ?h1 ?h2 ?_; (case X => k_asm); (case T => k_asm); (case F => k_asm); (case N => k_asm); (case r => assumption); (case m1 => (first | (with_reducible assumption) | assumption)); (case m2 => (first | (with_reducible assumption) | assumption)); (case h0 => omega); (case h1 => omega); (case h2 => omega); k_whole); intro D' h' tk' en' ys' F' N' hi'))) | w_nolog (with_reducible (k_here; (with_reducible show wpAny _ _ (call (Value.builtin "sum") [Value.ref _]) _ _ _); k_dflt (refine' sum_use ?hh ?F ?N ?m ?i ?_; (case hh => with_unfolding_all rfl); (case F => k_asm); (case N => k_asm); (case m => k_mem); (case i => assumption); k_whole); intro h' tk' t' F' N')) | w_nolog (with_reducible (k_here; (with_reducible show wpAny _ _ (pyIter (Value.ref _)) (fun _ _ => LoopAtV _ _ _ _ _ _ _ _ _ _ _) _ _); (rename IsRange _ _ _ _ _ _ _ _ => hR9); k_dflt (refine' again_use ?X ?T ?F ?N hR9 ?b0 ?b3 ?m1 ?m2 ?m3 ?m4 ?m5 ?D ?B ?R ?H ?Hd ?C ?dr ?G ?sub ?o1 ?o2 ?o3 ?o4 ?o5 ?off ?I ?ms ?cl ?bI ?bl ?hz ?hl ?_; (case X => k_asm); (case T => k_asm); (case F => k_asm); (case N => k_asm); (case b0 => omega); (case b3 => omega); (case m1 => (first | (with_reducible assumption) | assumption)); (case m2 => (first | (with_reducible assumption) | assumption)); (case m3 => (first | (with_reducible assumption) | assumption)); (case m4 => (first | (with_reducible assumption) | assumption)); (case m5 => first | exact rfl | (first | (with_reducible assumption) | assumption)); (case D => k_mem); (case B => k_mem); (case H => k_mem); (case Hd => k_mem); (case R => k_mem); (case C => k_mem); (case o1 => assumption); (case o2 => assumption); (case o3 => assumption); (case o4 => assumption); (case o5 => assumption); (case off => assumption); (case dr => (repeat' (first | exact Drop.nil | (refine' Drop.hit ?dh9 ?_; (case dh9 => (repeat' (first | exact List.Mem.head _ | refine List.Mem.tail _ ?_)))) | (refine' Drop.keep ?dh9 ?_; (case dh9 => (repeat' (first | exact List.forall_mem_nil _ | refine List.forall_mem_cons.mpr ⟨by k_ne, ?_⟩)))) | exact Drop.tl (by (refine' off_sub ?oh9 ?os9; (case oh9 => assumption); (case os9 => (repeat' (first | exact List.forall_mem_nil _ | refine List.forall_mem_cons.mpr ⟨by (repeat' (first | exact List.Mem.head _ | refine List.Mem.tail _ ?_)), ?_⟩)))))))); (case G => k_mem); (case sub => (intro p9 hp9; (repeat' (first | assumption | refine List.Mem.tail _ ?_)))); (case I => assumption); (case ms => assumption); (case cl => assumption); (case bI => assumption); (case bl => assumption); (case hz => omega); (case hl => exact BdEnd.last (by assumption)); k_whole); intro h' tk' m' add' vs' zs' k' kt' att' bs' ns' bn' rn' F' hm' hat' N' ib' il' rw' v0' v3' vz' oa' a1' a2' a3' n1' n2' n3' n4'; (try simp only [List.cons_append, List.nil_append] at N'); (try k_sweep))) | w_nolog (with_reducible (k_here; (with_reducible show wpAny _ _ (call (Value.builtin "len") [Value.ref _]) _ _ _); k_dflt (refine' len_any ?N ?m ?z ?_; (case N => k_asm); (case m => k_mem); (case z => first | assumption | omega); k_whole))) | w_nolog (with_reducible ((with_reducible show wpAny _ _ (eval (PySem.Expr.Name _ _) _) _ _ _); (k_here; k_dflt (refine' nameX_L ?F ?v ?_ ?a ?b ?c; (case F => k_asm); (case a => rfl); (case b => rfl); (case c => decide); (case v => first | (with_reducible assumption) | assumption); k_whole)))) | walk1) | walk1 | (leave1; walk_say "STEP leave1"; try dsimp only) | fail "no step")
  all_goals (try k_data)
  all_goals first | (exfalso; omega) | (rename Fr _ _ _ _ => kF; rename News _ _ _ _ => kN; exact ret _ _ kF kN) | skip
set_option maxHeartbeats 1000000 in
theorem keep_test2 {Q : Bool → Shared → Prop} (X : (hd.heap_39 w.params).In g) (T : Top p loose mean mg mb g) (F : Fr g L s.heap m) (N : News g L s.heap ((G, W.listOf gvs.toArray n) :: news)) (r : GroupsIn news lim gvs gss) (hm3 : m (Str.ofString "most") = some (.int most mt))
    (hm1 : m (Str.ofString "groups") = some (.ref G)) (hm2 : m (Str.ofString "kept") = some (.int k kt)) (h0 : k = 0) (h1 : 0 < gvs.length) (h2 : gvs.length ≤ 6)
    (ret : ∀ h' tk', Fr g L h' m → News g L h' ((G, W.listOf gvs.toArray n) :: news) → Q true { s with heap := h', toks := tk' }) :
    wpAny (model PW w) (lawA L fa cd) (PySem.isTrue (whT keepW) (lawEnv L fa cd) (eval (whT keepW) (lawEnv L fa cd))) Q (fun _ _ => False) s := by
  unfold lawA lawEnv
  generalize hsc : scopeOf (Str.ofString "law") = sc
  conv at hsc => lhs; whnf
  subst hsc
  generalize hbb : whT keepW = bb
  conv at hbb => lhs; whnf
  subst hbb
  repeat' (first | (k_unfold; (try dsimp only)) | (k_end; wrow_close) | ((try dsimp only); first | w_nolog (with_reducible ((with_reducible show wpAny _ _ (eval (PySem.Expr.ListComp ..) _) _ _ _); (k_here; k_dflt (refine' keep_comp ?X ?T ?F ?N ?r ?m1 ?m2 ?h0 ?h1 ?h2 ?_; (case X => k_asm); (case T => k_asm); (case F => k_asm); (case N => k_asm); (case r => assumption); (case m1 => (first | (with_reducible assumption) | assumption)); (case m2 => (first | (with_reducible assumption) | assumption)); (case h0 => omega); (case h1 => omega); (case h2 => omega); k_whole); intro D' h' tk' en' ys' F' N' hi'))) | w_nolog (with_reducible (k_here; (with_reducible show wpAny _ _ (call (Value.builtin "sum") [Value.ref _]) _ _ _); k_dflt (refine' sum_use ?hh ?F ?N ?m ?i ?_; (case hh => with_unfolding_all rfl); (case F => k_asm); (case N => k_asm); (case m => k_mem); (case i => assumption); k_whole); intro h' tk' t' F' N')) | w_nolog (with_reducible (k_here; (with_reducible show wpAny _ _ (pyIter (Value.ref _)) (fun _ _ => LoopAtV _ _ _ _ _ _ _ _ _ _ _) _ _); (rename IsRange _ _ _ _ _ _ _ _ => hR9); k_dflt (refine' again_use ?X ?T ?F ?N hR9 ?b0 ?b3 ?m1 ?m2 ?m3 ?m4 ?m5 ?D ?B ?R ?H ?Hd ?C ?dr ?G ?sub ?o1 ?o2 ?o3 ?o4 ?o5 ?off ?I ?ms ?cl ?bI ?bl ?hz ?hl ?_; (case X => k_asm); (case T => k_asm); (case F => k_asm); (case N => k_asm); (case b0 => omega); (case b3 => omega); (case m1 => (first | (with_reducible assumption) | assumption)); (case m2 => (first | (with_reducible assumption) | assumption)); (case m3 => (first | (with_reducible assumption) | assumption)); (case m4 => (first | (with_reducible assumption) | assumption)); (case m5 => first | exact rfl | (first | (with_reducible assumption) | assumption)); (case D => k_mem); (case B => k_mem); (case H => k_mem); (case Hd => k_mem); (case R => k_mem); (case C => k_mem); (case o1 => assumption); (case o2 => assumption); (case o3 => assumption); (case o4 => assumption); (case o5 => assumption); (case off => assumption); (case dr => (repeat' (first | exact Drop.nil | (refine' Drop.hit ?dh9 ?_; (case dh9 => (repeat' (first | exact List.Mem.head _ | refine List.Mem.tail _ ?_)))) | (refine' Drop.keep ?dh9 ?_; (case dh9 => (repeat' (first | exact List.forall_mem_nil _ | refine List.forall_mem_cons.mpr ⟨by k_ne, ?_⟩)))) | exact Drop.tl (by (refine' off_sub ?oh9 ?os9; (case oh9 => assumption); (case os9 => (repeat' (first | exact List.forall_mem_nil _ | refine List.forall_mem_cons.mpr ⟨by (repeat' (first | exact List.Mem.head _ | refine List.Mem.tail _ ?_)), ?_⟩)))))))); (case G => k_mem); (case sub => (intro p9 hp9; (repeat' (first | assumption | refine List.Mem.tail _ ?_)))); (case I => assumption); (case ms => assumption); (case cl => assumption); (case bI => assumption); (case bl => assumption); (case hz => omega); (case hl => exact BdEnd.last (by assumption)); k_whole); intro h' tk' m' add' vs' zs' k' kt' att' bs' ns' bn' rn' F' hm' hat' N' ib' il' rw' v0' v3' vz' oa' a1' a2' a3' n1' n2' n3' n4'; (try simp only [List.cons_append, List.nil_append] at N'); (try k_sweep))) | w_nolog (with_reducible (k_here; (with_reducible show wpAny _ _ (call (Value.builtin "len") [Value.ref _]) _ _ _); k_dflt (refine' len_any ?N ?m ?z ?_; (case N => k_asm); (case m => k_mem); (case z => first | assumption | omega); k_whole))) | w_nolog (with_reducible ((with_reducible show wpAny _ _ (eval (PySem.Expr.Name _ _) _) _ _ _); (k_here; k_dflt (refine' nameX_L ?F ?v ?_ ?a ?b ?c; (case F => k_asm); (case a => rfl); (case b => rfl); (case c => decide); (case v => first | (with_reducible assumption) | assumption); k_whole)))) | walk1) | walk1 | (leave1; walk_say "STEP leave1"; try dsimp only) | fail "no step")
  all_goals (try k_data)
  all_goals first | (exfalso; omega) | (rename Fr _ _ _ _ => kF; rename News _ _ _ _ => kN; exact ret _ _ kF kN) | skip
set_option maxHeartbeats 1000000 in
theorem keep_test3 {Q : Bool → Shared → Prop} (X : (hd.heap_39 w.params).In g) (T : Top p loose mean mg mb g) (F : Fr g L s.heap m) (N : News g L s.heap ((G, W.listOf gvs.toArray n) :: news)) (r : GroupsIn news lim gvs gss)
    (hm1 : m (Str.ofString "groups") = some (.ref G)) (hm2 : m (Str.ofString "kept") = some (.int k kt)) (hm3 : m (Str.ofString "most") = some (.int most mt)) (h0 : 0 < k) (h1 : k < gvs.length) (h2 : gvs.length ≤ 6)
    (ret : ∀ h' tk' (b : Bool), (b = true ↔ ((gss.drop (gvs.length - k.toNat - 1)).map fun g => sumZ g.2).sum ≤ most) → Fr g L h' m → News g L h' ((G, W.listOf gvs.toArray n) :: news) → Q b { s with heap := h', toks := tk' }) :
    wpAny (model PW w) (lawA L fa cd) (PySem.isTrue (whT keepW) (lawEnv L fa cd) (eval (whT keepW) (lawEnv L fa cd))) Q (fun _ _ => False) s := by
  unfold lawA lawEnv
  generalize hsc : scopeOf (Str.ofString "law") = sc
  conv at hsc => lhs; whnf
  subst hsc
  generalize hbb : whT keepW = bb
  conv at hbb => lhs; whnf
  subst hbb
  repeat' (first | (k_unfold; (try dsimp only)) | (k_end; wrow_close) | ((try dsimp only); first | w_nolog (with_reducible ((with_reducible show wpAny _ _ (eval (PySem.Expr.ListComp ..) _) _ _ _); (k_here; k_dflt (refine' keep_comp ?X ?T ?F ?N ?r ?m1 ?m2 ?h0 ?h1 ?h2 ?_; (case X => k_asm); (case T => k_asm); (case F => k_asm); (case N => k_asm); (case r => assumption); (case m1 => (first | (with_reducible assumption) | assumption)); (case m2 => (first | (with_reducible assumption) | assumption)); (case h0 => omega); (case h1 => omega); (case h2 => omega); k_whole); intro D' h' tk' en' ys' F' N' hi'))) | w_nolog (with_reducible (k_here; (with_reducible show wpAny _ _ (call (Value.builtin "sum") [Value.ref _]) _ _ _); k_dflt (refine' sum_use ?hh ?F ?N ?m ?i ?_; (case hh => with_unfolding_all rfl); (case F => k_asm); (case N => k_asm); (case m => k_mem); (case i => assumption); k_whole); intro h' tk' t' F' N')) | w_nolog (with_reducible (k_here; (with_reducible show wpAny _ _ (pyIter (Value.ref _)) (fun _ _ => LoopAtV _ _ _ _ _ _ _ _ _ _ _) _ _); (rename IsRange _ _ _ _ _ _ _ _ => hR9); k_dflt (refine' again_use ?X ?T ?F ?N hR9 ?b0 ?b3 ?m1 ?m2 ?m3 ?m4 ?m5 ?D ?B ?R ?H ?Hd ?C ?dr ?G ?sub ?o1 ?o2 ?o3 ?o4 ?o5 ?off ?I ?ms ?cl ?bI ?bl ?hz ?hl ?_; (case X => k_asm); (case T => k_asm); (case F => k_asm); (case N => k_asm); (case b0 => omega); (case b3 => omega); (case m1 => (first | (with_reducible assumption) | assumption)); (case m2 => (first | (with_reducible assumption) | assumption)); (case m3 => (first | (with_reducible assumption) | assumption)); (case m4 => (first | (with_reducible assumption) | assumption)); (case m5 => first | exact rfl | (first | (with_reducible assumption) | assumption)); (case D => k_mem); (case B => k_mem); (case H => k_mem); (case Hd => k_mem); (case R => k_mem); (case C => k_mem); (case o1 => assumption); (case o2 => assumption); (case o3 => assumption); (case o4 => assumption); (case o5 => assumption); (case off => assumption); (case dr => (repeat' (first | exact Drop.nil | (refine' Drop.hit ?dh9 ?_; (case dh9 => (repeat' (first | exact List.Mem.head _ | refine List.Mem.tail _ ?_)))) | (refine' Drop.keep ?dh9 ?_; (case dh9 => (repeat' (first | exact List.forall_mem_nil _ | refine List.forall_mem_cons.mpr ⟨by k_ne, ?_⟩)))) | exact Drop.tl (by (refine' off_sub ?oh9 ?os9; (case oh9 => assumption); (case os9 => (repeat' (first | exact List.forall_mem_nil _ | refine List.forall_mem_cons.mpr ⟨by (repeat' (first | exact List.Mem.head _ | refine List.Mem.tail _ ?_)), ?_⟩)))))))); (case G => k_mem); (case sub => (intro p9 hp9; (repeat' (first | assumption | refine List.Mem.tail _ ?_)))); (case I => assumption); (case ms => assumption); (case cl => assumption); (case bI => assumption); (case bl => assumption); (case hz => omega); (case hl => exact BdEnd.last (by assumption)); k_whole); intro h' tk' m' add' vs' zs' k' kt' att' bs' ns' bn' rn' F' hm' hat' N' ib' il' rw' v0' v3' vz' oa' a1' a2' a3' n1' n2' n3' n4'; (try simp only [List.cons_append, List.nil_append] at N'); (try k_sweep))) | w_nolog (with_reducible (k_here; (with_reducible show wpAny _ _ (call (Value.builtin "len") [Value.ref _]) _ _ _); k_dflt (refine' len_any ?N ?m ?z ?_; (case N => k_asm); (case m => k_mem); (case z => first | assumption | omega); k_whole))) | w_nolog (with_reducible ((with_reducible show wpAny _ _ (eval (PySem.Expr.Name _ _) _) _ _ _); (k_here; k_dflt (refine' nameX_L ?F ?v ?_ ?a ?b ?c; (case F => k_asm); (case a => rfl); (case b => rfl); (case c => decide); (case v => first | (with_reducible assumption) | assumption); k_whole)))) | walk1) | walk1 | (leave1; walk_say "STEP leave1"; try dsimp only) | fail "no step")
  all_goals (try k_data)
  all_goals try (exfalso; omega)
  all_goals (rename Fr _ _ _ _ => kF; rename News _ _ _ _ => kN)
  · exact ret _ _ true ⟨fun _ => by assumption, fun _ => rfl⟩ kF (News.less kN (fun p hp => .tail _ hp))
  · rename ¬ _ => h7
    exact ret _ _ false ⟨fun h => (by cases h), fun h => absurd h h7⟩ kF (News.less kN (fun p hp => .tail _ hp))
end
end
section
theorem fresh_NKeep4 : True := by
  w_top off
  first | walk1 | skip
  trivial
def KeptOk (gss : List (List Value × List Nat)) (most : Int) (k : Nat) : Prop := k ≤ gss.length ∧ (k = 0 → gss.length = 0) ∧ (2 ≤ k → keptSz gss k ≤ most) ∧ (k < gss.length → most < keptSz gss (k + 1))
set_option maxRecDepth 100000
section
variable {w : World} {p : Program} {loose : List Str} {mean : ExcName → Option Value} {mg mb : Str → Option Value} {g : Heap} {L fa G n : Nat} {cd : Value} {m : Str → Option Value} {s : Shared}
  {news : List (Addr × Obj)} {gvs : List Value} {gss : List (List Value × List Nat)} {lim k most : Int} {kt mt : Tok}
set_option maxHeartbeats 1000000 in
theorem keep_body {Q : Flow → Shared → Prop} (X : (hd.heap_39 w.params).In g) (T : Top p loose mean mg mb g) (F : Fr g L s.heap m) (N : News g L s.heap ((G, W.listOf gvs.toArray n) :: news))
    (hm2 : m (Str.ofString "kept") = some (.int k kt)) 
    (ret : ∀ h' tk' m' kt', Fr g L h' m' → (∀ y, y ≠ Str.ofString "kept" → m' y = m y) → m' (Str.ofString "kept") = some (.int (k + 1) kt') → News g L h' ((G, W.listOf gvs.toArray n) :: news) → Q .next { s with heap := h', toks := tk' }) :
    wpAny (model PW w) (lawA L fa cd) (execs (whB keepW) (lawEnv L fa cd)) Q (fun _ _ => False) s := by
  unfold lawA lawEnv
  generalize hsc : scopeOf (Str.ofString "law") = sc
  conv at hsc => lhs; whnf
  subst hsc
  generalize hbb : whB keepW = bb
  conv at hbb => lhs; whnf
  subst hbb
  repeat' (first | (k_unfold; (try dsimp only)) | (k_end; wrow_close) | ((try dsimp only); first | w_nolog (with_reducible (k_here; (with_reducible show wpAny _ _ (pyIter (Value.ref _)) (fun _ _ => LoopAtV _ _ _ _ _ _ _ _ _ _ _) _ _); (rename IsRange _ _ _ _ _ _ _ _ => hR9); k_dflt (refine' again_use ?X ?T ?F ?N hR9 ?b0 ?b3 ?m1 ?m2 ?m3 ?m4 ?m5 ?D ?B ?R ?H ?Hd ?C ?dr ?G ?sub ?o1 ?o2 ?o3 ?o4 ?o5 ?off ?I ?ms ?cl ?bI ?bl ?hz ?hl ?_; (case X => k_asm); (case T => k_asm); (case F => k_asm); (case N => k_asm); (case b0 => omega); (case b3 => omega); (case m1 => (first | (with_reducible assumption) | assumption)); (case m2 => (first | (with_reducible assumption) | assumption)); (case m3 => (first | (with_reducible assumption) | assumption)); (case m4 => (first | (with_reducible assumption) | assumption)); (case m5 => first | exact rfl | (first | (with_reducible assumption) | assumption)); (case D => k_mem); (case B => k_mem); (case H => k_mem); (case Hd => k_mem); (case R => k_mem); (case C => k_mem); (case o1 => assumption); (case o2 => assumption); (case o3 => assumption); (case o4 => assumption); (case o5 => assumption); (case off => assumption); (case dr => (repeat' (first | exact Drop.nil | (refine' Drop.hit ?dh9 ?_; (case dh9 => (repeat' (first | exact List.Mem.head _ | refine List.Mem.tail _ ?_)))) | (refine' Drop.keep ?dh9 ?_; (case dh9 => (repeat' (first | exact List.forall_mem_nil _ | refine List.forall_mem_cons.mpr ⟨by k_ne, ?_⟩)))) | exact Drop.tl (by (refine' off_sub ?oh9 ?os9; (case oh9 => assumption); (case os9 => (repeat' (first | exact List.forall_mem_nil _ | refine List.forall_mem_cons.mpr ⟨by (repeat' (first | exact List.Mem.head _ | refine List.Mem.tail _ ?_)), ?_⟩)))))))); (case G => k_mem); (case sub => (intro p9 hp9; (repeat' (first | assumption | refine List.Mem.tail _ ?_)))); (case I => assumption); (case ms => assumption); (case cl => assumption); (case bI => assumption); (case bl => assumption); (case hz => omega); (case hl => exact BdEnd.last (by assumption)); k_whole); intro h' tk' m' add' vs' zs' k' kt' att' bs' ns' bn' rn' F' hm' hat' N' ib' il' rw' v0' v3' vz' oa' a1' a2' a3' n1' n2' n3' n4'; (try simp only [List.cons_append, List.nil_append] at N'); (try k_sweep))) | w_nolog (with_reducible (k_here; (with_reducible show wpAny _ _ (call (Value.builtin "len") [Value.ref _]) _ _ _); k_dflt (refine' len_any ?N ?m ?z ?_; (case N => k_asm); (case m => k_mem); (case z => first | assumption | omega); k_whole))) | w_nolog (with_reducible ((with_reducible show wpAny _ _ (eval (PySem.Expr.Name _ _) _) _ _ _); (k_here; k_dflt (refine' nameX_L ?F ?v ?_ ?a ?b ?c; (case F => k_asm); (case a => rfl); (case b => rfl); (case c => decide); (case v => first | (with_reducible assumption) | assumption); k_whole)))) | walk1) | walk1 | (leave1; walk_say "STEP leave1"; try dsimp only) | fail "no step")
  all_goals (try k_data)
  rename Fr _ _ _ _ => kF
  rename News _ _ _ _ => kN
  exact ret _ _ _ _ kF (fun y h1 => by simp only [if_neg h1]) rfl kN
theorem keep_while {Q : Flow → Shared → Prop} {pos : Pos} (X : (hd.heap_39 w.params).In g) (T : Top p loose mean mg mb g) (F : Fr g L s.heap m) (N : News g L s.heap ((G, W.listOf gvs.toArray n) :: news)) (r : GroupsIn news lim gvs gss)
    (hm1 : m (Str.ofString "groups") = some (.ref G)) (hm2 : m (Str.ofString "kept") = some (.int 0 kt)) (hm3 : m (Str.ofString "most") = some (.int most mt)) (h2 : gss.length ≤ 6)
    (ret : ∀ h' tk' m' (k : Nat) kt', Fr g L h' m' → (∀ y, y ≠ Str.ofString "kept" → m' y = m y) → m' (Str.ofString "kept") = some (.int (k : Int) kt') → KeptOk gss most k → News g L h' ((G, W.listOf gvs.toArray n) :: news) → Q .next { s with heap := h', toks := tk' }) :
    wpAny (model PW w) (lawA L fa cd) (exec (.While (whT keepW) (whB keepW) [] pos) (lawEnv L fa cd)) Q (fun _ _ => False) s := by
  have hlen := r.length
  refine While_brk (n₀ := gss.length) (fun n' m₁ news₁ => ∃ (k : Nat) (kt' : Tok), n' + k = gss.length ∧ (2 ≤ k → keptSz gss k ≤ most) ∧ m₁ (Str.ofString "kept") = some (.int (k : Int) kt') ∧
    (∀ y, y ≠ Str.ofString "kept" → m₁ y = m y) ∧ news₁ = ((G, W.listOf gvs.toArray n) :: news)) F N ⟨0, kt, by omega, by omega, hm2, fun _ _ => rfl, rfl⟩ ?_
  rintro n' m₁ news₁ h₁ tk₁ F₁ N₁ ⟨k, kt', hk, hs, a1, a2, rfl⟩
  have b1 : m₁ (Str.ofString "groups") = some (.ref G) := (a2 _ (by decide)).trans hm1
  have b3 : m₁ (Str.ofString "most") = some (.int most mt) := (a2 _ (by decide)).trans hm3
  have body : ∀ (h' : Heap) (tk' : Nat), n' ≠ 0 → (1 ≤ k → keptSz gss (k + 1) ≤ most) → Fr g L h' m₁ → News g L h' ((G, W.listOf gvs.toArray n) :: news) →
      wpAny (model PW w) (lawA L fa cd) (execs (whB keepW) (lawEnv L fa cd)) (fun f s₃ => match f with
          | .ret v => Q (.ret v) s₃
          | .brk => Q .next s₃
          | _ => WhileStep g L s (fun n' m₁ news₁ => ∃ (k : Nat) (kt' : Tok), n' + k = gss.length ∧ (2 ≤ k → keptSz gss k ≤ most) ∧ m₁ (Str.ofString "kept") = some (.int (k : Int) kt') ∧
    (∀ y, y ≠ Str.ofString "kept" → m₁ y = m y) ∧ news₁ = ((G, W.listOf gvs.toArray n) :: news)) n' .next s₃) (fun _ _ => False) { s with heap := h', toks := tk' } := by
    intro h' tk' hn hs' F' N'
    refine keep_body (s := { s with heap := h', toks := tk' }) X T F' N' a1 fun h'' tk'' m'' kt'' F'' c1 c2 N'' => ?_
    exact WhileStep.intro F'' N'' (show n' - 1 < n' by omega) ⟨k + 1, kt'', by omega, fun h => hs' (by omega), by rw [c2]; congr 2, fun y y1 => (c1 y y1).trans (a2 y y1), rfl⟩
  by_cases hn : n' = 0
  · refine keep_test1 X T F₁ N₁ r b3 b1 a1 (by omega) (by omega) fun h' tk' F' N' => ?_
    simp only [Bool.false_eq_true, if_false]
    exact ret h' tk' m₁ k kt' F' a2 a1 ⟨by omega, by omega, hs, by omega⟩ N'
  · by_cases hk0 : k = 0
    · subst hk0
      refine keep_test2 X T F₁ N₁ r b3 b1 a1 (by omega) (by omega) (by omega) fun h' tk' F' N' => ?_
      simp only [if_true]
      exact body h' tk' hn (by omega) F' N'
    · refine keep_test3 X T F₁ N₁ r b1 a1 b3 (by omega) (by omega) (by omega) fun h' tk' b hb F' N' => ?_
      have e : gvs.length - (k : Int).toNat - 1 = gss.length - (k + 1) := by omega
      rw [e] at hb
      cases b with
      | true =>
        simp only [if_true]
        exact body h' tk' hn (fun _ => hb.mp rfl) F' N'
      | false =>
        simp only [Bool.false_eq_true, if_false]
        refine ret h' tk' m₁ k kt' F' a2 a1 ⟨by omega, by omega, hs, fun _ => ?_⟩ N'
        have : ¬ (keptSz gss (k + 1) ≤ most) := fun h => by cases hb.mpr h
        omega
end
end
section
theorem fresh_NRows1 : True := by
  w_top off
  first | walk1 | skip
  trivial
section
variable {prog : Program} {w : World} {A : Around} {E : Value → Shared → Prop} {s : Shared} {h₀ : Heap} {L C a b : Addr} {m : Str → Option Value} {news : List (Addr × Obj)} {vs : List Value} {n n' : Nat} {Q : Value → Shared → Prop}
  {cn : Str} {cs scope : Scope} {ccd : Value} {cl cl₀ : List (Str × Addr)} {x : Str} {pos : Pos} {v : Value} {c : Addr} {o : Obj}
theorem nameC_C {fa : Addr} (N : News h₀ C s.heap news) (hc : cl.lookup x = some c) (hm : (c, o) ∈ news) (hd : o.data = .cell (some v)) (h : Q v s) (hk : scope.kind = .function) (hx : (compEnvC scope cl C (envX cn cs L fa ccd cl₀)).kindOf x = some .cell) (hb : (x == ("__debug__" : Str)) = false) :
    wpAny (model prog w) A (eval (.Name x pos) (compEnvC scope cl C (envX cn cs L fa ccd cl₀))) Q E s := wpAny_Name (wpAny_loadName_cell hk hx hc ⟨o, N.get hm, hd⟩ h) hb
theorem nil_all {e : Nat → Bool} (vs : List Value) : (!(List.range vs.toArray.size).all fun _ => true) = false := by simp
theorem ne_same (N : News h₀ L s.heap news) (h1 : (a, W.listOf vs.toArray n) ∈ news) (h2 : (b, W.listOf vs.toArray n') ∈ news) (hu : A.units < cLine) (h : Q (.bool false) s) :
    wpAny (model prog w) A (compareOp .NotEq (.ref a) (.ref b)) Q E s := by
  refine cmp_ofNotEq (SeqAt.RcNeAt.lists ⟨_, (N _ h1).1, rfl, n, rfl⟩ ⟨_, (N _ h2).1, rfl, n', rfl⟩ rfl hu (e := fun _ => true) (fun j j1 j2 => SeqAt.EqAt.same _) prog w E Q ?_)
  first | simpa using h | (rw [show (List.range vs.toArray.size).all (fun _ => true) = true by rw [List.all_eq_true]; intros; rfl]; exact h)
theorem eq_same (N : News h₀ L s.heap news) (h1 : (a, W.listOf vs.toArray n) ∈ news) (h2 : (b, W.listOf vs.toArray n') ∈ news) (hu : A.units < cLine) (h : Q (.bool true) s) :
    wpAny (model prog w) A (compareOp .Eq (.ref a) (.ref b)) Q E s := by
  refine cmp_ofEq (SeqAt.RcAt.lists ⟨_, (N _ h1).1, rfl, n, rfl⟩ ⟨_, (N _ h2).1, rfl, n', rfl⟩ rfl hu (e := fun _ => true) (fun j j1 j2 => SeqAt.EqAt.same _) prog w E Q ?_)
  first | simpa using h | (rw [show (List.range vs.toArray.size).all (fun _ => true) = true by rw [List.all_eq_true]; intros; rfl]; exact h)
theorem ne_nil {o' : Obj} {gg : Array GenState} {dr : Drawn} {tk : Nat} {os : OsState} {hp : Heap} (N : News h₀ L hp news) (h1 : (a, W.listOf vs.toArray n) ∈ news) (hu : A.units < cLine) (ho : o' = { cls := .type "list", data := .seq #[] })
    (h : Q (.bool (!vs.isEmpty)) ⟨hp.push o', gg, dr, tk, os⟩) :
    wpAny (model prog w) A (compareOp .NotEq (.ref a) (.ref hp.objs.size)) Q E ⟨hp.push o', gg, dr, tk, os⟩ := by
  subst ho
  have l1 : (hp.push { cls := .type "list", data := .seq #[] }).IsList a vs.toArray := ⟨_, Heap.get?_push_of_some _ (N _ h1).1, rfl, n, rfl⟩
  have l2 : (hp.push { cls := .type "list", data := .seq #[] }).IsList hp.objs.size #[] := ⟨_, Heap.get?_push_size _ rfl, rfl, _, rfl⟩
  cases vs with
  | nil => exact cmp_ofNotEq (SeqAt.RcNeAt.lists l1 l2 rfl hu (e := fun _ => true) (fun j j1 j2 => SeqAt.EqAt.same _) prog w E Q (by simpa using h))
  | cons v vs => exact cmp_ofNotEq (SeqAt.RcNeAt.lists_lengths l1 l2 (by simp) hu prog w E Q (by simpa using h))
end
def rowsFor : Stmt := stOf lawBody 7
def exprE : Stmt → PySem.Expr
  | .Expr e _ => e
  | _ => default
def binL : PySem.Expr → PySem.Expr
  | .BinOp l _ _ _ => l
  | _ => default
def rowsComp : PySem.Expr := binL (argE 0 (exprE (stOf (forB rowsFor) 0)))
def rowsTest : PySem.Expr := (compIfs rowsComp).getD 0 default
set_option maxRecDepth 100000
section
variable {w : World} {p : Program} {loose : List Str} {mean : ExcName → Option Value} {mg mb : Str → Option Value} {g : Heap} {L fa T n C : Nat} {cd : Value} {m : Str → Option Value} {s : Shared}
  {rest : List (Addr × Obj)} {ts : List Value} {oc : Obj}
end
end
section
theorem fresh_NRows2 : True := by
  w_top off
  first | walk1 | skip
  trivial
set_option maxRecDepth 100000
section
variable {w : World} {p : Program} {loose : List Str} {mean : ExcName → Option Value} {mg mb : Str → Option Value} {g : Heap} {L fa T n C : Nat} {cd : Value} {m : Str → Option Value} {s : Shared}
  {rest : List (Addr × Obj)} {ts : List Value} {oc : Obj}
set_option maxHeartbeats 1000000 in
theorem rows_test {Q : Bool → Shared → Prop} {E : Value → Shared → Prop} (X : (hd.heap_39 w.params).In g) (T0 : Top p loose mean mg mb g) (F : Fr g C s.heap m) (N : News g C s.heap ((L + 1, oc) :: (T, W.listOf ts.toArray n) :: rest)) (hoc : oc.data = .cell (some (.ref T)))
    (ret : ∀ (b : Bool) s', b = (!ts.isEmpty) → Keeps s s' → Q b s') :
    wpAny (model PW w) (lawA L fa cd) (PySem.isTrue rowsTest (compEnvC (compSc rowsComp) [(Str.ofString "the_rows", L + 1)] C (lawEnv L fa cd)) (eval rowsTest (compEnvC (compSc rowsComp) [(Str.ofString "the_rows", L + 1)] C (lawEnv L fa cd)))) Q E s := by
  unfold lawA lawEnv
  generalize hsc : scopeOf (Str.ofString "law") = sc
  conv at hsc => lhs; whnf
  subst hsc
  generalize hbb : rowsTest = bb
  conv at hbb => lhs; whnf
  subst hbb
  generalize hbc : compSc rowsComp = bc
  conv at hbc => lhs; whnf
  subst hbc
  repeat' (first | (k_unfold; (try dsimp only)) | (k_end; wrow_close) | ((try dsimp only); first | w_nolog (with_reducible (k_here; (with_reducible show wpAny _ _ (compareOp CmpOp.NotEq (Value.ref _) (Value.ref _)) _ _ _); k_dflt (refine' ne_nil ?N ?m ?u ?o ?_; (case N => k_asm); (case m => k_mem); (case u => k_units); (case o => rfl); k_whole))) | w_nolog (with_reducible ((with_reducible show wpAny _ _ (newList _) _ _ _); (k_here; k_dflt (refine' wpAny_newList ?_)))) | w_nolog (with_reducible ((with_reducible show wpAny _ _ (eval (PySem.Expr.Name _ _) _) _ _ _); (k_here; k_dflt (refine' nameC_C ?N ?c ?m ?h ?_ ?k ?x ?d; (case N => k_asm); (case k => rfl); (case x => rfl); (case d => decide); (case c => rfl); (case m => exact List.Mem.head _); (case h => assumption); k_whole)))) | walk1) | walk1 | (leave1; walk_say "STEP leave1"; try dsimp only) | fail "no step")
  all_goals (try k_data)
  exact ret _ _ rfl ⟨_, _, rfl, fun b o e => Heap.get?_push_of_some _ e⟩
end
end
section
theorem fresh_NRows3 : True := by
  w_top off
  first | walk1 | skip
  trivial
set_option maxRecDepth 100000
section
variable {w : World} {p : Program} {loose : List Str} {mean : ExcName → Option Value} {mg mb : Str → Option Value} {g : Heap} {L fa T n C : Nat} {cd : Value} {m : Str → Option Value} {s : Shared}
  {rest news : List (Addr × Obj)} {ts : List Value} {oc : Obj} {Q E : Value → Shared → Prop}
set_option maxHeartbeats 1000000 in
theorem rows_iter (X : (hd.heap_39 w.params).In g) (T0 : Top p loose mean mg mb g) (F : Fr g L s.heap m) (N : News g L s.heap news)
    (ret : ∀ (D : Nat) h' tk, Fr g L h' m → News g L h' ((D, W.listOf [Value.ref 22].toArray 0) :: news) → Q (.ref D) { s with heap := h', toks := tk }) :
    wpAny (model PW w) (lawA L fa cd) (eval (compIt rowsComp) (lawEnv L fa cd)) Q E s := by
  unfold lawA lawEnv
  generalize hsc : scopeOf (Str.ofString "law") = sc
  conv at hsc => lhs; whnf
  subst hsc
  generalize hbb : compIt rowsComp = bb
  conv at hbb => lhs; whnf
  subst hbb
  repeat' (first | (k_unfold; (try dsimp only)) | (k_end; wrow_close) | ((try dsimp only); first | walk1) | walk1 | (leave1; walk_say "STEP leave1"; try dsimp only) | fail "no step")
  all_goals (try k_data)
  rename Fr _ _ _ _ => kF
  rename News _ _ _ _ => kN
  exact ret _ _ _ kF kN
theorem paired_eq {vs ys : List Value} (h : Paired (fun v y => y = v) vs ys) : ys = vs := by
  induction h with
  | nil => rfl
  | cons e _ ih => rw [e, ih]
theorem rows_comp (X : (hd.heap_39 w.params).In g) (T0 : Top p loose mean mg mb g) (F : Fr g L s.heap m) (N : News g L s.heap ((L + 1, oc) :: (T, W.listOf ts.toArray n) :: rest)) (hoc : oc.data = .cell (some (.ref T)))
    (ret : ∀ (D : Nat) h' tk (en : Nat), Fr g L h' m → News g L h' ((D, W.listOf (if ts.isEmpty then [] else [Value.ref 22]).toArray en) :: (L + 1, oc) :: (T, W.listOf ts.toArray n) :: rest) → @Ne Nat D T → Q (.ref D) { s with heap := h', toks := tk }) :
    wpAny (model PW w) (lawA L fa cd) (eval rowsComp (lawEnv L fa cd)) Q E s := by
  have it := fun {Q : Value → Shared → Prop} ret => rows_iter (E := E) (Q := Q) X T0 (fa := fa) (cd := cd) F N ret
  have tests : ∀ (C D : Addr) (v : Value) (s₃ : Shared) (m₃ : Str → Option Value) (E' : Value → Shared → Prop), Fr g C s₃.heap m₃ → News g C s₃.heap ((D, W.listOf [Value.ref 22].toArray 0) :: (L + 1, oc) :: (T, W.listOf ts.toArray n) :: rest) →
      wpAny (model PW w) (lawA L fa cd) (forIn [rowsTest] true fun c r => if r = true then do let ok ← PySem.isTrue c (compEnvC (compSc rowsComp) [(Str.ofString "the_rows", L + 1)] C (lawEnv L fa cd)) (eval c (compEnvC (compSc rowsComp) [(Str.ofString "the_rows", L + 1)] C (lawEnv L fa cd))); pure (ForInStep.yield ok) else pure (ForInStep.yield r)) (fun ok s₄ => ok = (fun _ => !ts.isEmpty) v ∧ Keeps s₃ s₄) E' s₃ :=
    fun C D v s₃ m₃ E' F4 N4 => wpAny_tests_one (rows_test X T0 F4 (News.less N4 fun p hp => .tail _ hp) hoc fun b s' e k => ⟨e, k⟩)
  have cl0 : closureFor (compSc rowsComp) (lawEnv L fa cd) = pure [(Str.ofString "the_rows", L + 1)] := by
    unfold lawEnv
    generalize hsc : scopeOf (Str.ofString "law") = sc
    conv at hsc => lhs; whnf
    subst hsc
    generalize hbc : compSc rowsComp = bc
    conv at hbc => lhs; whnf
    subst hbc
    rfl
  generalize hbb : rowsComp = bb at *
  generalize hbt : rowsTest = bt at *
  conv at hbt => lhs; whnf
  subst hbt
  conv at hbb => lhs; whnf
  subst hbb
  unfold lawEnv at *
  refine wpAny_ListComp_free (cl := [(Str.ofString "the_rows", L + 1)]) (fun _ => !ts.isEmpty) (fun v y => y = v) ?_ ?_ ?_ ?_ ?_ ?_ ?_
  · exact cl0
  · decide
  · rfl
  · decide
  · rfl
  · refine it fun D' h' tk' F' N' => ?_
    refine comp_pyIter (fun _ => !ts.isEmpty) (fun v y => y = v) rfl F' N' (.head _) (by simp) (fun C v s₃ m₃ E' _ _ _ F4 N4 _ => tests C D' v s₃ m₃ E' F4 N4)
      (fun C v s₃ m₃ E' hv _ F3 N3 F4 N4 hx => nameC_L F4 hx ⟨rfl, ⟨s₃.heap, s₃.toks, rfl, fun _ _ e => e⟩⟩ rfl rfl (by decide)) fun D2 h2' tk2 en ys F2 N2 hne hp => ?_
    refine ret D2 h2' tk2 en F2 ?_ (fun e => hne (T, W.listOf ts.toArray n) (.tail _ (.tail _ (.head _))) e.symm)
    have e := paired_eq hp
    have e2 : (if ts.isEmpty = true then [] else [Value.ref 22]) = ys := by
      rw [e]
      cases ts <;> rfl
    rw [e2]
    exact News.less N2 (mem_more (.head _) fun p hp => .tail _ (.tail _ hp))
  · intro _; rfl
end
end
section
theorem fresh_NRows4 : True := by
  w_top off
  first | walk1 | skip
  trivial
section
variable {prog : Program} {w : World} {A : Around} {E : Value → Shared → Prop} {s : Shared} {h₀ : Heap} {L a b : Addr} {T : Nat} {m : Str → Option Value} {news rest : List (Addr × Obj)} {vs ws : List Value} {n n' : Nat} {Q : Value → Shared → Prop}
theorem cat_any (F : Fr h₀ L s.heap m) (N : News h₀ L s.heap news) (ha : (a, W.listOf vs.toArray n) ∈ news) (hb : (b, W.listOf ws.toArray n') ∈ news) (hz : vs.length + ws.length < 100000)
    (h : ∀ (D : Nat) h', Fr h₀ L h' m → News h₀ L h' ((D, W.listOf (vs ++ ws).toArray 0) :: news) → (∀ p ∈ news, p.1 < D) → Q (.ref D) { s with heap := h' }) :
    wpAny (model prog w) A (binaryOp .Add (.ref a) (.ref b)) Q E s := by
  refine add_lists F N (News.isList N ha) (News.isList N hb) (fun h' F' N' => ?_) (by rw [sizeLine_eq]; omega)
  exact h _ h' F' N' fun p hp => Heap.lt_size (N p hp).1
theorem ext_use (F : Fr h₀ L s.heap m) (N : News h₀ L s.heap news) (ha : (T, W.listOf vs.toArray n) ∈ news) (hb : (b, W.listOf ws.toArray n') ∈ news) (dr : Drop [T] news rest) (hz : vs.length + ws.length < 100000)
    (h : ∀ h' n', Fr h₀ L h' m → News h₀ L h' ((T, W.listOf (vs ++ ws).toArray n') :: rest) → Q .none { s with heap := h' }) :
    wpAny (model prog w) A (call (.builtin "list.extend") [.ref T, .ref b]) Q E s := by
  refine extend_in (own := []) (rest := rest) (hsz := by rw [sizeLine_eq]; simp; omega) F (News.less N (mem_more ha dr.sub)) (by simp) (fun p hp => dr.off p hp T (.head _)) (N _ hb).1 fun h' n'' F' N' => ?_
  exact h h' n'' F' N'
end
set_option maxRecDepth 100000
section
variable {w : World} {p : Program} {loose : List Str} {mean : ExcName → Option Value} {mg mb : Str → Option Value} {g : Heap} {L fa T n ga gn : Nat} {cd : Value} {m : Str → Option Value} {s : Shared}
  {rest news : List (Addr × Obj)} {ts vs : List Value} {oc : Obj} {Q : Flow → Shared → Prop} {E : Value → Shared → Prop}
set_option maxHeartbeats 1000000 in
theorem rows_body (X : (hd.heap_39 w.params).In g) (T0 : Top p loose mean mg mb g) (F : Fr g L s.heap m) (N : News g L s.heap ((L + 1, oc) :: (T, W.listOf ts.toArray n) :: (ga, W.listOf vs.toArray gn) :: rest)) (hoc : oc.data = .cell (some (.ref T)))
    (hm : m (Str.ofString "group") = some (.ref ga)) (z1 : ts.length < 1000) (z2 : vs.length < 1000) (o1 : L + 1 < T) (o2 : ga < T) (o3 : OwnOff rest [T])
    (ret : ∀ h' tk' n', Fr g L h' m → News g L h' ((L + 1, oc) :: (T, W.listOf (bdOf ts ++ vs).toArray n') :: (ga, W.listOf vs.toArray gn) :: rest) → Q .next { s with heap := h', toks := tk' }) :
    wpAny (model PW w) (lawA L fa cd) (execs (forB rowsFor) (lawEnv L fa cd)) Q E s := by
  unfold lawA lawEnv
  generalize hsc : scopeOf (Str.ofString "law") = sc
  conv at hsc => lhs; whnf
  subst hsc
  generalize hbb : forB rowsFor = bb
  conv at hbb => lhs; whnf
  subst hbb
  repeat' (first | (k_unfold; (try dsimp only)) | (k_end; wrow_close) | ((try dsimp only); first | w_nolog (with_reducible (k_here; (with_reducible show wpAny _ _ (call (Value.builtin _) [Value.ref _, Value.ref _]) _ _ _); k_dflt (refine' ext_use ?F ?N ?a ?b ?dr ?z ?_; (case F => k_asm); (case N => k_asm); (case a => k_mem); (case b => k_mem); (case dr => (repeat' (first | exact Drop.nil | (refine' Drop.hit ?dh9 ?_; (case dh9 => (repeat' (first | exact List.Mem.head _ | refine List.Mem.tail _ ?_)))) | (refine' Drop.keep ?dh9 ?_; (case dh9 => (repeat' (first | exact List.forall_mem_nil _ | refine List.forall_mem_cons.mpr ⟨by k_ne, ?_⟩)))) | exact Drop.tl (by (refine' off_sub ?oh9 ?os9; (case oh9 => assumption); (case os9 => (repeat' (first | exact List.forall_mem_nil _ | refine List.forall_mem_cons.mpr ⟨by (repeat' (first | exact List.Mem.head _ | refine List.Mem.tail _ ?_)), ?_⟩)))))))); (case z => (first | omega | (rw [List.length_append]; split <;> simp <;> omega))); k_whole); intro h' n' F' N')) | w_nolog (with_reducible (k_here; (with_reducible show wpAny _ _ (binaryOp _ (Value.ref _) (Value.ref _)) _ _ _); k_dflt (refine' cat_any ?F ?N ?a ?b ?z ?_; (case F => k_asm); (case N => k_asm); (case a => k_mem); (case b => k_mem); (case z => (first | omega | (split <;> simp <;> omega)))); intro D' h' F' N' l1; (try k_lt l1); (try k_sweep))) | w_nolog (with_reducible ((with_reducible show wpAny _ _ (eval (PySem.Expr.Name _ _) _) _ _ _); (k_here; k_dflt (refine' nameX_C ?N ?hc ?m ?h ?_ ?a ?b ?c; (case N => k_asm); (case a => rfl); (case b => rfl); (case c => decide); (case hc => rfl); (case m => k_mem); (case h => assumption); k_whole)))) | w_nolog (with_reducible ((with_reducible show wpAny _ _ (eval (PySem.Expr.ListComp ..) _) _ _ _); (k_here; k_dflt (refine' rows_comp ?X ?T ?F ?N ?o ?_; (case X => k_asm); (case T => k_asm); (case F => k_asm); (case N => k_asm); (case o => assumption); k_whole); intro D' h' tk' en' F' N' ne'))) | w_nolog (with_reducible ((with_reducible show wpAny _ _ (eval (PySem.Expr.Name _ _) _) _ _ _); (k_here; k_dflt (refine' nameX_L ?F ?v ?_ ?a ?b ?c; (case F => k_asm); (case a => rfl); (case b => rfl); (case c => decide); (case v => first | (with_reducible assumption) | assumption); k_whole)))) | w_nolog (with_reducible (k_here; (with_reducible show wpAny _ _ (pyIter (Value.ref _)) (fun _ _ => LoopAtV _ _ _ _ _ _ _ _ _ _ _) _ _); (rename IsRange _ _ _ _ _ _ _ _ => hR9); k_dflt (refine' again_use ?X ?T ?F ?N hR9 ?b0 ?b3 ?m1 ?m2 ?m3 ?m4 ?m5 ?D ?B ?R ?H ?Hd ?C ?dr ?G ?sub ?o1 ?o2 ?o3 ?o4 ?o5 ?off ?I ?ms ?cl ?bI ?bl ?hz ?hl ?_; (case X => k_asm); (case T => k_asm); (case F => k_asm); (case N => k_asm); (case b0 => omega); (case b3 => omega); (case m1 => (first | (with_reducible assumption) | assumption)); (case m2 => (first | (with_reducible assumption) | assumption)); (case m3 => (first | (with_reducible assumption) | assumption)); (case m4 => (first | (with_reducible assumption) | assumption)); (case m5 => first | exact rfl | (first | (with_reducible assumption) | assumption)); (case D => k_mem); (case B => k_mem); (case H => k_mem); (case Hd => k_mem); (case R => k_mem); (case C => k_mem); (case o1 => assumption); (case o2 => assumption); (case o3 => assumption); (case o4 => assumption); (case o5 => assumption); (case off => assumption); (case dr => (repeat' (first | exact Drop.nil | (refine' Drop.hit ?dh9 ?_; (case dh9 => (repeat' (first | exact List.Mem.head _ | refine List.Mem.tail _ ?_)))) | (refine' Drop.keep ?dh9 ?_; (case dh9 => (repeat' (first | exact List.forall_mem_nil _ | refine List.forall_mem_cons.mpr ⟨by k_ne, ?_⟩)))) | exact Drop.tl (by (refine' off_sub ?oh9 ?os9; (case oh9 => assumption); (case os9 => (repeat' (first | exact List.forall_mem_nil _ | refine List.forall_mem_cons.mpr ⟨by (repeat' (first | exact List.Mem.head _ | refine List.Mem.tail _ ?_)), ?_⟩)))))))); (case G => k_mem); (case sub => (intro p9 hp9; (repeat' (first | assumption | refine List.Mem.tail _ ?_)))); (case I => assumption); (case ms => assumption); (case cl => assumption); (case bI => assumption); (case bl => assumption); (case hz => omega); (case hl => exact BdEnd.last (by assumption)); k_whole); intro h' tk' m' add' vs' zs' k' kt' att' bs' ns' bn' rn' F' hm' hat' N' ib' il' rw' v0' v3' vz' oa' a1' a2' a3' n1' n2' n3' n4'; (try simp only [List.cons_append, List.nil_append] at N'); (try k_sweep))) | walk1) | walk1 | (leave1; walk_say "STEP leave1"; try dsimp only) | fail "no step")
  all_goals (try k_data)
  rename Fr _ _ _ _ => kF
  rename News _ _ _ _ => kN
  have e : ts ++ ((if ts.isEmpty = true then [] else [Value.ref 22]) ++ vs) = bdOf ts ++ vs := by
    unfold bdOf
    split
    · rename_i h; rw [List.isEmpty_iff.mp h]; rfl
    · simp
  rw [e] at kN
  exact ret _ _ _ kF (News.less kN (by (repeat' (first | exact List.forall_mem_nil _ | refine mem_more (by k_mem) ?_ | (intro p9 hp9; focus ((repeat' (first | assumption | refine List.Mem.tail _ ?_)); done))))))
end
end
section
theorem fresh_NRows5 : True := by
  w_top off
  first | walk1 | skip
  trivial
theorem GroupsIn.get {news : List (Addr × Obj)} {lim : Int} {gvs : List Value} {gss : List (List Value × List Nat)} (r : GroupsIn news lim gvs gss) : ∀ (i : Nat) (v : Value), gvs[i]? = some v → ∃ (ga n : Nat) (vs : List Value) (zs : List Nat), v = .ref ga ∧ gss[i]? = some (vs, zs) ∧ (ga, W.listOf vs.toArray n) ∈ news ∧ RowsIn news lim vs zs ∧ 0 < vs.length ∧ vs.length ≤ 3 := by
  induction r with
  | nil => intro i v hv; simp at hv
  | cons hm r h1 h3 _ ih =>
    intro i v hv
    cases i with
    | zero =>
      simp at hv
      exact ⟨_, _, _, _, hv.symm, rfl, hm, r, h1, h3⟩
    | succ i => simpa using ih i v (by simpa using hv)
theorem rowsOf_take {gss : List (List Value × List Nat)} {i : Nat} {vs : List Value} {zs : List Nat} (h : gss[i]? = some (vs, zs)) : rowsOf ((gss.take (i + 1)).map (·.1)) = bdOf (rowsOf ((gss.take i).map (·.1))) ++ vs := by
  rw [List.take_add_one, h, List.map_append]
  exact rowsOf_snoc _ _
theorem rowsOf_len {news : List (Addr × Obj)} {lim : Int} {gvs : List Value} {gss : List (List Value × List Nat)} (r : GroupsIn news lim gvs gss) : ∀ i, i ≤ gss.length → (rowsOf ((gss.take i).map (·.1))).length ≤ 4 * i := by
  intro i
  induction i with
  | zero => intro _; simp [rowsOf]
  | succ i ih =>
    intro hi
    have hl := r.length
    obtain ⟨ga, n, vs, zs, _, hg, _, _, _, h3⟩ := r.get i (gvs[i]'(by omega)) (by simp)
    rw [rowsOf_take hg, List.length_append]
    have := bdOf_length (rowsOf ((gss.take i).map (·.1)))
    have := ih (by omega)
    omega
section
variable {w : World} {p : Program} {loose : List Str} {mean : ExcName → Option Value} {mg mb : Str → Option Value} {g : Heap} {L fa T SG n gn : Nat} {cd : Value} {m : Str → Option Value} {s : Shared}
  {rest : List (Addr × Obj)} {gvs : List Value} {gss : List (List Value × List Nat)} {lim : Int} {oc : Obj} {Q : Flow → Shared → Prop}
theorem rows_loop (X : (hd.heap_39 w.params).In g) (T0 : Top p loose mean mg mb g) (F : Fr g L s.heap m) (N : News g L s.heap ((SG, W.listOf gvs.toArray gn) :: (L + 1, oc) :: (T, W.listOf #[] n) :: rest)) (hoc : oc.data = .cell (some (.ref T)))
    (r : GroupsIn rest lim gvs gss) (h6 : gss.length ≤ 6) (o1 : L + 1 < T) (o2 : ∀ q ∈ rest, @LT.lt Nat _ q.1 T) (o3 : T < SG)
    (ret : ∀ h' tk' m' n', Fr g L h' m' → (∀ y, y ≠ Str.ofString "group" → m' y = m y) → News g L h' ((SG, W.listOf gvs.toArray gn) :: (L + 1, oc) :: (T, W.listOf (rowsOf (gss.map (·.1))).toArray n') :: rest) → Q .next { s with heap := h', toks := tk' }) :
    wpAny (model PW w) (lawA L fa cd) (pyIter (.ref SG)) (fun it s₂ => LoopAtV PW w (lawA L fa cd) g (lawEnv L fa cd) (Str.ofString "group") (forB rowsFor) Q (fun _ _ => False) it s₂) (fun _ _ => False) s := by
  have hlen := r.length
  refine kdl_iter (env := lawEnv L fa cd) (m₀ := m) (news := (SG, W.listOf gvs.toArray gn) :: (L + 1, oc) :: (T, W.listOf #[] n) :: rest)
    (fun i m' nx => (∀ y, y ≠ Str.ofString "group" → m' y = m y) ∧ ∃ n', nx = (SG, W.listOf gvs.toArray gn) :: (L + 1, oc) :: (T, W.listOf (rowsOf ((gss.take i).map (·.1))).toArray n') :: rest) rfl (.head _) F N ⟨fun _ _ => rfl, n, rfl⟩ ?_ ?_
  · rintro i v m₁ news₁ h tk own hv hown _ ⟨hm, n', rfl⟩ F₁ N₁
    obtain ⟨ga, n2, vs, zs, rfl, hg, hga, rr, hv0, hv3⟩ := r.get i v hv
    have hi : i < gvs.length := by
      by_cases h : i < gvs.length
      · exact h
      · rw [List.getElem?_eq_none (by omega)] at hv; cases hv
    have N₂ : News g L h ((L + 1, oc) :: (T, W.listOf (rowsOf ((gss.take i).map (·.1))).toArray n') :: (ga, W.listOf vs.toArray n2) :: ((SG, W.listOf gvs.toArray gn) :: rest ++ own)) := by
      refine News.less N₁ (mem_more (.tail _ (.head _)) (mem_more (.tail _ (.tail _ (.head _))) (mem_more (.tail _ (.tail _ (.tail _ (List.mem_append_left _ hga)))) ?_)))
      intro q hq
      simp only [List.mem_cons, List.mem_append, List.cons_append] at hq ⊢
      grind
    have hl4 := rowsOf_len r i (by omega)
    refine rows_body (s := { s with heap := h, toks := tk }) X T0 F₁ N₂ hoc (by simp) (by omega) (by omega) o1 (o2 _ hga) ?_ fun h' tk' n'' F' N' => ?_
    · intro q hq b hb
      rw [List.mem_singleton.mp hb]
      rcases List.mem_append.mp hq with hq | hq
      · rcases List.mem_cons.mp hq with rfl | hq
        · exact Nat.ne_of_gt o3
        · exact Nat.ne_of_lt (o2 _ hq)
      · exact hown q hq T (by simp)
    refine InvEndG.intro (nx := (SG, W.listOf gvs.toArray gn) :: (L + 1, oc) :: (T, W.listOf (rowsOf ((gss.take (i + 1)).map (·.1))).toArray n'') :: rest) F' N' ⟨.head _, fun y hy => (if_neg hy).trans (hm y hy), n'', rfl⟩ ?_ ?_ ?_
    · exact hown
    · rw [rowsOf_take hg]
      intro q hq
      simp only [List.mem_cons, List.mem_append, List.cons_append] at hq ⊢
      grind
    · intro q hq
      simp only [List.mem_cons, List.mem_append, List.cons_append]
      grind
  · rintro m₁ news₁ h tk ⟨hm, n', rfl⟩ F₁ N₁
    rw [hlen, List.take_length] at N₁
    exact ret h tk m₁ n' F₁ hm N₁
end
end
section
theorem fresh_NRows6 : True := by
  w_top off
  first | walk1 | skip
  trivial
set_option maxRecDepth 100000
section
variable {w : World} {p : Program} {loose : List Str} {mean : ExcName → Option Value} {mg mb : Str → Option Value} {g : Heap} {L fa T G n gn : Nat} {cd : Value} {m : Str → Option Value} {s : Shared}
  {rest : List (Addr × Obj)} {gvs : List Value} {gss : List (List Value × List Nat)} {lim : Int} {oc : Obj} {Q : Flow → Shared → Prop} {k : Nat} {kt : Tok}
set_option maxHeartbeats 1000000 in
theorem rows_for (X : (hd.heap_39 w.params).In g) (T0 : Top p loose mean mg mb g) (F : Fr g L s.heap m) (N : News g L s.heap ((L + 1, oc) :: (T, W.listOf #[] n) :: (G, W.listOf gvs.toArray gn) :: rest)) (hoc : oc.data = .cell (some (.ref T)))
    (r : GroupsIn rest lim gvs gss) (h6 : gvs.length ≤ 6) (h7 : gss.length ≤ 6) (hk : k ≤ gvs.length) (o1 : L + 1 < T) (o2 : ∀ q ∈ (G, W.listOf gvs.toArray gn) :: rest, @LT.lt Nat _ q.1 T)
    (hm1 : m (Str.ofString "groups") = some (.ref G)) (hm2 : m (Str.ofString "kept") = some (.int (k : Int) kt))
    (ret : ∀ h' tk' m' n', Fr g L h' m' → (∀ y, y ≠ Str.ofString "group" → m' y = m y) → News g L h' ((L + 1, oc) :: (T, W.listOf (rowsOf ((gss.drop (gvs.length - k)).map (·.1))).toArray n') :: (G, W.listOf gvs.toArray gn) :: rest) → Q .next { s with heap := h', toks := tk' }) :
    wpAny (model PW w) (lawA L fa cd) (exec rowsFor (lawEnv L fa cd)) Q (fun _ _ => False) s := by
  have r9 : ∀ i : Nat, GroupsIn ((G, W.listOf gvs.toArray gn) :: rest) lim (gvs.drop i) (gss.drop i) := fun i => (r.drop i).mono (fun p hp => .tail _ hp) (Int.le_refl _)
  unfold lawA lawEnv
  generalize hsc : scopeOf (Str.ofString "law") = sc
  conv at hsc => lhs; whnf
  subst hsc
  generalize hbb : rowsFor = bb
  conv at hbb => lhs; whnf
  subst hbb
  repeat' (first | (k_unfold; (try dsimp only)) | (k_end; wrow_close) | ((try dsimp only); first | w_nolog (with_reducible (k_here; (with_reducible show wpAny _ _ (pyIter (Value.ref _)) (fun _ _ => LoopAtV _ _ _ _ _ _ _ _ _ _ _) _ _); (rename (∀ i : Nat, GroupsIn _ _ _ _) => r9'); k_dflt (refine' rows_loop ?X ?T ?F ?N ?o ?r ?h6 ?o1 ?o2 ?o3 ?_; (case X => k_asm); (case T => k_asm); (case F => k_asm); (case N => k_asm); (case o => assumption); (case r => exact r9' _); (case h6 => (rw [List.length_drop]; omega)); (case o1 => assumption); (case o2 => assumption); (case o3 => omega); k_whole); intro h' tk' m' n' F' hm' N')) | w_nolog (with_reducible ((with_reducible show wpAny _ _ (exec (Stmt.For ..) _) _ _ _); (k_here; (rename Fr _ _ _ _ => lF'); (with_unfolding_all refine' For_invVF lF' ?k1 ?k2 ?_; (case k1 => exact rfl); (case k2 => exact rfl); k_whole)))) | w_nolog (with_reducible (k_here; (with_reducible show wpAny _ _ (subscriptTail _ (PySem.Expr.Slice _ _ _ _) (Value.ref _) (Value.ref _)) _ _ _); k_dflt (refine' slice_from ?F ?N ?m ?x ?z ?_ ?s ?t; (case F => k_asm); (case N => k_asm); (case m => k_mem); (case x => omega); (case z => omega); (case s => with_unfolding_all rfl); (case t => kmk_pure)); intro D' h' F' N' l1; (try k_lt l1); (try k_sweep))) | w_nolog (with_reducible ((with_reducible show wpAny _ _ (eval (PySem.Expr.Name _ _) _) _ _ _); (k_here; k_dflt (refine' nameX_L ?F ?v ?_ ?a ?b ?c; (case F => k_asm); (case a => rfl); (case b => rfl); (case c => decide); (case v => first | (with_reducible assumption) | assumption); k_whole)))) | w_nolog (with_reducible (k_here; (with_reducible show wpAny _ _ (pyIter (Value.ref _)) (fun _ _ => LoopAtV _ _ _ _ _ _ _ _ _ _ _) _ _); (rename IsRange _ _ _ _ _ _ _ _ => hR9); k_dflt (refine' again_use ?X ?T ?F ?N hR9 ?b0 ?b3 ?m1 ?m2 ?m3 ?m4 ?m5 ?D ?B ?R ?H ?Hd ?C ?dr ?G ?sub ?o1 ?o2 ?o3 ?o4 ?o5 ?off ?I ?ms ?cl ?bI ?bl ?hz ?hl ?_; (case X => k_asm); (case T => k_asm); (case F => k_asm); (case N => k_asm); (case b0 => omega); (case b3 => omega); (case m1 => (first | (with_reducible assumption) | assumption)); (case m2 => (first | (with_reducible assumption) | assumption)); (case m3 => (first | (with_reducible assumption) | assumption)); (case m4 => (first | (with_reducible assumption) | assumption)); (case m5 => first | exact rfl | (first | (with_reducible assumption) | assumption)); (case D => k_mem); (case B => k_mem); (case H => k_mem); (case Hd => k_mem); (case R => k_mem); (case C => k_mem); (case o1 => assumption); (case o2 => assumption); (case o3 => assumption); (case o4 => assumption); (case o5 => assumption); (case off => assumption); (case dr => (repeat' (first | exact Drop.nil | (refine' Drop.hit ?dh9 ?_; (case dh9 => (repeat' (first | exact List.Mem.head _ | refine List.Mem.tail _ ?_)))) | (refine' Drop.keep ?dh9 ?_; (case dh9 => (repeat' (first | exact List.forall_mem_nil _ | refine List.forall_mem_cons.mpr ⟨by k_ne, ?_⟩)))) | exact Drop.tl (by (refine' off_sub ?oh9 ?os9; (case oh9 => assumption); (case os9 => (repeat' (first | exact List.forall_mem_nil _ | refine List.forall_mem_cons.mpr ⟨by (repeat' (first | exact List.Mem.head _ | refine List.Mem.tail _ ?_)), ?_⟩)))))))); (case G => k_mem); (case sub => (intro p9 hp9; (repeat' (first | assumption | refine List.Mem.tail _ ?_)))); (case I => assumption); (case ms => assumption); (case cl => assumption); (case bI => assumption); (case bl => assumption); (case hz => omega); (case hl => exact BdEnd.last (by assumption)); k_whole); intro h' tk' m' add' vs' zs' k' kt' att' bs' ns' bn' rn' F' hm' hat' N' ib' il' rw' v0' v3' vz' oa' a1' a2' a3' n1' n2' n3' n4'; (try simp only [List.cons_append, List.nil_append] at N'); (try k_sweep))) | w_nolog (with_reducible (k_here; (with_reducible show wpAny _ _ (call (Value.builtin "len") [Value.ref _]) _ _ _); k_dflt (refine' len_any ?N ?m ?z ?_; (case N => k_asm); (case m => k_mem); (case z => first | assumption | omega); k_whole))) | walk1) | walk1 | (leave1; walk_say "STEP leave1"; try dsimp only) | fail "no step")
  all_goals (try k_data)
  dsimp only
  rename Fr _ _ _ _ => kF
  rename News _ _ _ _ => kN
  rw [show ((gvs.length : Int) - (k : Int)).toNat = gvs.length - k by omega] at kN
  exact ret _ _ _ _ kF (by assumption) (News.less kN fun p hp => .tail _ hp)
end
end
section
theorem fresh_NFlt1 : True := by
  w_top off
  first | walk1 | skip
  trivial
def ifT : Stmt → PySem.Expr
  | .If e _ _ _ => e
  | _ => default
def cmpR : PySem.Expr → PySem.Expr
  | .Compare _ _ es _ => es.getD 0 default
  | _ => default
def isBd : Value → Bool
  | .ref a => a == 22
  | _ => false
def fltIf : Stmt := stOf lawBody 8
def fltA : PySem.Expr := cmpL (boolE 0 (ifT fltIf))
def fltB : PySem.Expr := cmpR (boolE 0 (ifT fltIf))
def fltTest (e : PySem.Expr) : PySem.Expr := (compIfs e).getD 0 default
theorem MixIn.mem {news : List (Addr × Obj)} {lim : Int} {vs : List Value} {ks : List (Option Nat)} (h : MixIn news lim vs ks) : ∀ v ∈ vs, v = Value.ref 22 ∨ ∃ z, RowIn news lim v z := by
  induction h with
  | nil => intro v hv; cases hv
  | bd _ ih =>
    intro v hv
    rcases List.mem_cons.mp hv with rfl | hv
    · exact .inl rfl
    · exact ih v hv
  | row r _ ih =>
    intro v hv
    rcases List.mem_cons.mp hv with rfl | hv
    · exact .inr ⟨_, r⟩
    · exact ih v hv
theorem News.above22 {w : World} {g h' : Heap} {L : Addr} {ra : Nat} {o : Obj} {news : List (Addr × Obj)} (N : News g L h' news) (X : (hd.heap_39 w.params).In g) (hm : (ra, o) ∈ news) : ra ≠ 22 := by
  intro e
  subst e
  have h9 := (N _ hm).2.2
  obtain ⟨t, o, ho, _⟩ := bd_tup X
  simp only at h9
  rw [h9] at ho; cases ho
set_option maxRecDepth 100000
section
variable {w : World} {p : Program} {loose : List Str} {mean : ExcName → Option Value} {mg mb : Str → Option Value} {g : Heap} {L fa T n C : Nat} {cd : Value} {m m₃ : Str → Option Value} {s : Shared}
  {rest news : List (Addr × Obj)} {vs : List Value} {ks : List (Option Nat)} {lim : Int} {E : Value → Shared → Prop}
set_option maxHeartbeats 1000000 in
theorem fltA_bd {Q : Bool → Shared → Prop} (X : (hd.heap_39 w.params).In g) (T0 : Top p loose mean mg mb g) (F : Fr g C s.heap m₃) (N : News g C s.heap news) (hx : m₃ (Str.ofString "row") = some (.ref 22))
    (ret : ∀ s', Keeps s s' → Q false s') :
    wpAny (model PW w) (lawA L fa cd) (PySem.isTrue (fltTest fltA) (compEnvC (compSc fltA) [] C (lawEnv L fa cd)) (eval (fltTest fltA) (compEnvC (compSc fltA) [] C (lawEnv L fa cd)))) Q E s := by
  unfold lawA lawEnv
  generalize hsc : scopeOf (Str.ofString "law") = sc
  conv at hsc => lhs; whnf
  subst hsc
  generalize hbb : fltTest fltA = bb
  conv at hbb => lhs; whnf
  subst hbb
  generalize hbc : compSc fltA = bc
  conv at hbc => lhs; whnf
  subst hbc
  repeat' (first | (k_unfold; (try dsimp only)) | (k_end; wrow_close) | ((try dsimp only); first | w_nolog (with_reducible (k_here; (with_reducible show wpAny _ _ (compareOp CmpOp.NotEq (Value.ref _) (Value.ref _)) _ _ _); k_dflt (first | (refine' ne_bdbd ?F ?X ?u ?_; (case F => k_asm); (case X => k_asm); (case u => k_units); k_whole) | (refine' ne_bd ?F ?X ?N ?m ?x ?u ?_; (case F => k_asm); (case X => k_asm); (case N => k_asm); (case m => k_mem); (case x => first | assumption | decide); (case u => k_units); k_whole)))) | w_nolog (with_reducible ((with_reducible show wpAny _ _ (eval (PySem.Expr.Name _ _) _) _ _ _); (k_here; k_dflt (first | (refine' nameC_L ?F ?v ?_ ?k ?x ?d; (case F => k_asm); (case k => rfl); (case x => rfl); (case d => decide); (case v => first | (with_reducible assumption) | assumption); k_whole) | (refine' nameC_K ?F ?X ?T ?e ?_ ?k ?x ?d; (case F => k_asm); (case X => k_asm); (case T => k_asm); (case k => rfl); (case x => rfl); (case d => decide); (case e => k_is); k_whole) | (refine' nameC_B ?F ?X ?T ?e ?v ?n ?_ ?k ?x ?d; (case F => k_asm); (case X => k_asm); (case T => k_asm); (case k => rfl); (case x => rfl); (case d => decide); (case e => k_is); (case v => boot_fast); (case n => decide); k_whole))))) | walk1) | walk1 | (leave1; walk_say "STEP leave1"; try dsimp only) | fail "no step")
  all_goals (try k_data)
  all_goals first | exact ret _ Keeps.toks | exact ret _ ⟨s.heap, s.toks, rfl, fun _ _ e => e⟩
set_option maxHeartbeats 1000000 in
theorem fltA_row {Q : Bool → Shared → Prop} {ra en : Nat} {x : Str} {xt : Tok} {us : List Value} (X : (hd.heap_39 w.params).In g) (T0 : Top p loose mean mg mb g) (F : Fr g C s.heap m₃) (N : News g C s.heap ((ra, tupO (Value.str x xt :: us) en) :: news)) (hb : (x == Str.ofString "boundary") = false) (hx : m₃ (Str.ofString "row") = some (.ref ra))
    (ret : ∀ s', Keeps s s' → Q true s') :
    wpAny (model PW w) (lawA L fa cd) (PySem.isTrue (fltTest fltA) (compEnvC (compSc fltA) [] C (lawEnv L fa cd)) (eval (fltTest fltA) (compEnvC (compSc fltA) [] C (lawEnv L fa cd)))) Q E s := by
  unfold lawA lawEnv
  generalize hsc : scopeOf (Str.ofString "law") = sc
  conv at hsc => lhs; whnf
  subst hsc
  generalize hbb : fltTest fltA = bb
  conv at hbb => lhs; whnf
  subst hbb
  generalize hbc : compSc fltA = bc
  conv at hbc => lhs; whnf
  subst hbc
  repeat' (first | (k_unfold; (try dsimp only)) | (k_end; wrow_close) | ((try dsimp only); first | w_nolog (with_reducible (k_here; (with_reducible show wpAny _ _ (compareOp CmpOp.NotEq (Value.ref _) (Value.ref _)) _ _ _); k_dflt (first | (refine' ne_bdbd ?F ?X ?u ?_; (case F => k_asm); (case X => k_asm); (case u => k_units); k_whole) | (refine' ne_bd ?F ?X ?N ?m ?x ?u ?_; (case F => k_asm); (case X => k_asm); (case N => k_asm); (case m => k_mem); (case x => first | assumption | decide); (case u => k_units); k_whole)))) | w_nolog (with_reducible ((with_reducible show wpAny _ _ (eval (PySem.Expr.Name _ _) _) _ _ _); (k_here; k_dflt (first | (refine' nameC_L ?F ?v ?_ ?k ?x ?d; (case F => k_asm); (case k => rfl); (case x => rfl); (case d => decide); (case v => first | (with_reducible assumption) | assumption); k_whole) | (refine' nameC_K ?F ?X ?T ?e ?_ ?k ?x ?d; (case F => k_asm); (case X => k_asm); (case T => k_asm); (case k => rfl); (case x => rfl); (case d => decide); (case e => k_is); k_whole) | (refine' nameC_B ?F ?X ?T ?e ?v ?n ?_ ?k ?x ?d; (case F => k_asm); (case X => k_asm); (case T => k_asm); (case k => rfl); (case x => rfl); (case d => decide); (case e => k_is); (case v => boot_fast); (case n => decide); k_whole))))) | walk1) | walk1 | (leave1; walk_say "STEP leave1"; try dsimp only) | fail "no step")
  all_goals (try k_data)
  all_goals first | exact ret _ Keeps.toks | exact ret _ ⟨s.heap, s.toks, rfl, fun _ _ e => e⟩
theorem fltA_comp {A9 en : Nat} {Q : Value → Shared → Prop} (X : (hd.heap_39 w.params).In g) (T0 : Top p loose mean mg mb g) (N0 : News g L s.heap news) (M : MixIn news lim vs ks) (hz : vs.length < 1000)
    (it : ∀ {Q : Value → Shared → Prop}, (∀ h' tk', Fr g L h' m → News g L h' news → (A9, W.listOf vs.toArray en) ∈ news → Q (.ref A9) { s with heap := h', toks := tk' }) → wpAny (model PW w) (lawA L fa cd) (eval (compIt fltA) (lawEnv L fa cd)) Q E s)
    (ret : ∀ (D : Nat) h' tk (en' : Nat), Fr g L h' m → News g L h' ((D, W.listOf (vs.filter fun v => !isBd v).toArray en') :: news) → (∀ q ∈ news, @Ne Nat q.1 D) → Q (.ref D) { s with heap := h', toks := tk }) :
    wpAny (model PW w) (lawA L fa cd) (eval fltA (lawEnv L fa cd)) Q E s := by
  have tests : ∀ (C : Addr) (v : Value) (s₃ : Shared) (m₃ : Str → Option Value) (E' : Value → Shared → Prop), v ∈ vs → Fr g C s₃.heap m₃ → News g C s₃.heap news → m₃ (Str.ofString "row") = some v →
      wpAny (model PW w) (lawA L fa cd) (forIn [fltTest fltA] true fun c r => if r = true then do let ok ← PySem.isTrue c (compEnvC (compSc fltA) [] C (lawEnv L fa cd)) (eval c (compEnvC (compSc fltA) [] C (lawEnv L fa cd))); pure (ForInStep.yield ok) else pure (ForInStep.yield r)) (fun ok s₄ => ok = (fun v => !isBd v) v ∧ Keeps s₃ s₄) E' s₃ := by
    intro C v s₃ m₃ E' hv F4 N4 hx
    refine wpAny_tests_one ?_
    rcases M.mem v hv with rfl | ⟨z, r⟩
    · exact fltA_bd X T0 F4 N4 hx fun s' k => ⟨rfl, k⟩
    · obtain ⟨ra, en, x, xt, us, rfl, hm, hb⟩ := row_head r
      refine fltA_row X T0 F4 (News.less N4 (mem_more hm fun p hp => hp)) hb hx fun s' k => ⟨?_, k⟩
      have h22 := News.above22 N4 X hm
      show true = !(ra == 22)
      simp [h22]
  generalize hbt : fltTest fltA = bt at *
  conv at hbt => lhs; whnf
  subst hbt
  generalize hbb : fltA = bb at *
  conv at hbb => lhs; whnf
  subst hbb
  unfold lawEnv at *
  refine wpAny_ListComp_free (cl := []) (fun v => !isBd v) (fun v y => y = v) ?_ ?_ ?_ ?_ ?_ ?_ ?_
  · exact closureFor_none (by decide)
  · decide
  · rfl
  · decide
  · rfl
  · refine it fun h' tk' F' N' hA => ?_
    refine comp_pyIter (fun v => !isBd v) (fun v y => y = v) rfl F' N' hA (by omega) (fun C v s₃ m₃ E' hv _ _ F4 N4 hx => tests C v s₃ m₃ E' hv F4 N4 hx)
      (fun C v s₃ m₃ E' hv _ F3 N3 F4 N4 hx => nameC_L F4 hx ⟨rfl, ⟨s₃.heap, s₃.toks, rfl, fun _ _ e => e⟩⟩ rfl rfl (by decide)) fun D2 h2' tk2 en ys F2 N2 hne hp => ?_
    have e := paired_eq hp
    subst e
    exact ret D2 h2' tk2 en F2 N2 hne
  · intro _; rfl
end
end
section
theorem fresh_NFlt2 : True := by
  w_top off
  first | walk1 | skip
  trivial
set_option maxRecDepth 100000
section
variable {w : World} {p : Program} {loose : List Str} {mean : ExcName → Option Value} {mg mb : Str → Option Value} {g : Heap} {L fa T n C : Nat} {cd : Value} {m m₃ : Str → Option Value} {s : Shared}
  {rest news : List (Addr × Obj)} {vs : List Value} {ks : List (Option Nat)} {lim : Int} {E : Value → Shared → Prop}
set_option maxHeartbeats 1000000 in
theorem fltB_bd {Q : Bool → Shared → Prop} (X : (hd.heap_39 w.params).In g) (T0 : Top p loose mean mg mb g) (F : Fr g C s.heap m₃) (N : News g C s.heap news) (hx : m₃ (Str.ofString "row") = some (.ref 22))
    (ret : ∀ s', Keeps s s' → Q false s') :
    wpAny (model PW w) (lawA L fa cd) (PySem.isTrue (fltTest fltB) (compEnvC (compSc fltB) [] C (lawEnv L fa cd)) (eval (fltTest fltB) (compEnvC (compSc fltB) [] C (lawEnv L fa cd)))) Q E s := by
  unfold lawA lawEnv
  generalize hsc : scopeOf (Str.ofString "law") = sc
  conv at hsc => lhs; whnf
  subst hsc
  generalize hbb : fltTest fltB = bb
  conv at hbb => lhs; whnf
  subst hbb
  generalize hbc : compSc fltB = bc
  conv at hbc => lhs; whnf
  subst hbc
  repeat' (first | (k_unfold; (try dsimp only)) | (k_end; wrow_close) | ((try dsimp only); first | w_nolog (with_reducible (k_here; (with_reducible show wpAny _ _ (compareOp CmpOp.NotEq (Value.ref _) (Value.ref _)) _ _ _); k_dflt (first | (refine' ne_bdbd ?F ?X ?u ?_; (case F => k_asm); (case X => k_asm); (case u => k_units); k_whole) | (refine' ne_bd ?F ?X ?N ?m ?x ?u ?_; (case F => k_asm); (case X => k_asm); (case N => k_asm); (case m => k_mem); (case x => first | assumption | decide); (case u => k_units); k_whole)))) | w_nolog (with_reducible ((with_reducible show wpAny _ _ (eval (PySem.Expr.Name _ _) _) _ _ _); (k_here; k_dflt (first | (refine' nameC_L ?F ?v ?_ ?k ?x ?d; (case F => k_asm); (case k => rfl); (case x => rfl); (case d => decide); (case v => first | (with_reducible assumption) | assumption); k_whole) | (refine' nameC_K ?F ?X ?T ?e ?_ ?k ?x ?d; (case F => k_asm); (case X => k_asm); (case T => k_asm); (case k => rfl); (case x => rfl); (case d => decide); (case e => k_is); k_whole) | (refine' nameC_B ?F ?X ?T ?e ?v ?n ?_ ?k ?x ?d; (case F => k_asm); (case X => k_asm); (case T => k_asm); (case k => rfl); (case x => rfl); (case d => decide); (case e => k_is); (case v => boot_fast); (case n => decide); k_whole))))) | walk1) | walk1 | (leave1; walk_say "STEP leave1"; try dsimp only) | fail "no step")
  all_goals (try k_data)
  all_goals first | exact ret _ Keeps.toks | exact ret _ ⟨s.heap, s.toks, rfl, fun _ _ e => e⟩
set_option maxHeartbeats 1000000 in
theorem fltB_row {Q : Bool → Shared → Prop} {ra en : Nat} {x : Str} {xt : Tok} {us : List Value} (X : (hd.heap_39 w.params).In g) (T0 : Top p loose mean mg mb g) (F : Fr g C s.heap m₃) (N : News g C s.heap ((ra, tupO (Value.str x xt :: us) en) :: news)) (hb : (x == Str.ofString "boundary") = false) (hx : m₃ (Str.ofString "row") = some (.ref ra))
    (ret : ∀ s', Keeps s s' → Q true s') :
    wpAny (model PW w) (lawA L fa cd) (PySem.isTrue (fltTest fltB) (compEnvC (compSc fltB) [] C (lawEnv L fa cd)) (eval (fltTest fltB) (compEnvC (compSc fltB) [] C (lawEnv L fa cd)))) Q E s := by
  unfold lawA lawEnv
  generalize hsc : scopeOf (Str.ofString "law") = sc
  conv at hsc => lhs; whnf
  subst hsc
  generalize hbb : fltTest fltB = bb
  conv at hbb => lhs; whnf
  subst hbb
  generalize hbc : compSc fltB = bc
  conv at hbc => lhs; whnf
  subst hbc
  repeat' (first | (k_unfold; (try dsimp only)) | (k_end; wrow_close) | ((try dsimp only); first | w_nolog (with_reducible (k_here; (with_reducible show wpAny _ _ (compareOp CmpOp.NotEq (Value.ref _) (Value.ref _)) _ _ _); k_dflt (first | (refine' ne_bdbd ?F ?X ?u ?_; (case F => k_asm); (case X => k_asm); (case u => k_units); k_whole) | (refine' ne_bd ?F ?X ?N ?m ?x ?u ?_; (case F => k_asm); (case X => k_asm); (case N => k_asm); (case m => k_mem); (case x => first | assumption | decide); (case u => k_units); k_whole)))) | w_nolog (with_reducible ((with_reducible show wpAny _ _ (eval (PySem.Expr.Name _ _) _) _ _ _); (k_here; k_dflt (first | (refine' nameC_L ?F ?v ?_ ?k ?x ?d; (case F => k_asm); (case k => rfl); (case x => rfl); (case d => decide); (case v => first | (with_reducible assumption) | assumption); k_whole) | (refine' nameC_K ?F ?X ?T ?e ?_ ?k ?x ?d; (case F => k_asm); (case X => k_asm); (case T => k_asm); (case k => rfl); (case x => rfl); (case d => decide); (case e => k_is); k_whole) | (refine' nameC_B ?F ?X ?T ?e ?v ?n ?_ ?k ?x ?d; (case F => k_asm); (case X => k_asm); (case T => k_asm); (case k => rfl); (case x => rfl); (case d => decide); (case e => k_is); (case v => boot_fast); (case n => decide); k_whole))))) | walk1) | walk1 | (leave1; walk_say "STEP leave1"; try dsimp only) | fail "no step")
  all_goals (try k_data)
  all_goals first | exact ret _ Keeps.toks | exact ret _ ⟨s.heap, s.toks, rfl, fun _ _ e => e⟩
theorem fltB_comp {A9 en : Nat} {Q : Value → Shared → Prop} (X : (hd.heap_39 w.params).In g) (T0 : Top p loose mean mg mb g) (N0 : News g L s.heap news) (M : MixIn news lim vs ks) (hz : vs.length < 1000)
    (it : ∀ {Q : Value → Shared → Prop}, (∀ h' tk', Fr g L h' m → News g L h' news → (A9, W.listOf vs.toArray en) ∈ news → Q (.ref A9) { s with heap := h', toks := tk' }) → wpAny (model PW w) (lawA L fa cd) (eval (compIt fltB) (lawEnv L fa cd)) Q E s)
    (ret : ∀ (D : Nat) h' tk (en' : Nat), Fr g L h' m → News g L h' ((D, W.listOf (vs.filter fun v => !isBd v).toArray en') :: news) → (∀ q ∈ news, @Ne Nat q.1 D) → Q (.ref D) { s with heap := h', toks := tk }) :
    wpAny (model PW w) (lawA L fa cd) (eval fltB (lawEnv L fa cd)) Q E s := by
  have tests : ∀ (C : Addr) (v : Value) (s₃ : Shared) (m₃ : Str → Option Value) (E' : Value → Shared → Prop), v ∈ vs → Fr g C s₃.heap m₃ → News g C s₃.heap news → m₃ (Str.ofString "row") = some v →
      wpAny (model PW w) (lawA L fa cd) (forIn [fltTest fltB] true fun c r => if r = true then do let ok ← PySem.isTrue c (compEnvC (compSc fltB) [] C (lawEnv L fa cd)) (eval c (compEnvC (compSc fltB) [] C (lawEnv L fa cd))); pure (ForInStep.yield ok) else pure (ForInStep.yield r)) (fun ok s₄ => ok = (fun v => !isBd v) v ∧ Keeps s₃ s₄) E' s₃ := by
    intro C v s₃ m₃ E' hv F4 N4 hx
    refine wpAny_tests_one ?_
    rcases M.mem v hv with rfl | ⟨z, r⟩
    · exact fltB_bd X T0 F4 N4 hx fun s' k => ⟨rfl, k⟩
    · obtain ⟨ra, en, x, xt, us, rfl, hm, hb⟩ := row_head r
      refine fltB_row X T0 F4 (News.less N4 (mem_more hm fun p hp => hp)) hb hx fun s' k => ⟨?_, k⟩
      have h22 := News.above22 N4 X hm
      show true = !(ra == 22)
      simp [h22]
  generalize hbt : fltTest fltB = bt at *
  conv at hbt => lhs; whnf
  subst hbt
  generalize hbb : fltB = bb at *
  conv at hbb => lhs; whnf
  subst hbb
  unfold lawEnv at *
  refine wpAny_ListComp_free (cl := []) (fun v => !isBd v) (fun v y => y = v) ?_ ?_ ?_ ?_ ?_ ?_ ?_
  · exact closureFor_none (by decide)
  · decide
  · rfl
  · decide
  · rfl
  · refine it fun h' tk' F' N' hA => ?_
    refine comp_pyIter (fun v => !isBd v) (fun v y => y = v) rfl F' N' hA (by omega) (fun C v s₃ m₃ E' hv _ _ F4 N4 hx => tests C v s₃ m₃ E' hv F4 N4 hx)
      (fun C v s₃ m₃ E' hv _ F3 N3 F4 N4 hx => nameC_L F4 hx ⟨rfl, ⟨s₃.heap, s₃.toks, rfl, fun _ _ e => e⟩⟩ rfl rfl (by decide)) fun D2 h2' tk2 en ys F2 N2 hne hp => ?_
    have e := paired_eq hp
    subst e
    exact ret D2 h2' tk2 en F2 N2 hne
  · intro _; rfl
end
end
section
theorem fresh_NFlt3 : True := by
  w_top off
  first | walk1 | skip
  trivial
set_option maxRecDepth 100000
section
variable {w : World} {p : Program} {loose : List Str} {mean : ExcName → Option Value} {mg mb : Str → Option Value} {g : Heap} {L fa T H Hd R n rn : Nat} {cd : Value} {m : Str → Option Value} {s : Shared}
  {tl news : List (Addr × Obj)} {rs ts : List Value} {ks : List (Option Nat)} {lim : Int} {oc : Obj} {E Q : Value → Shared → Prop}
  {k1 k2 k3 k4 k5 dk : Tok} {h1 h2 h3 h4 h5 d : Int} {hn : Nat}
set_option maxHeartbeats 1000000 in
theorem itA (X : (hd.heap_39 w.params).In g) (T0 : Top p loose mean mg mb g) (F : Fr g L s.heap m) (N : News g L s.heap ((H, instObj 109 Hd) :: (Hd, hisO k1 k2 k3 k4 k5 h1 h2 h3 h4 h5 R d dk hn) :: (R, W.listOf rs.toArray rn) :: news))
    (hm : m (Str.ofString "history") = some (.ref H))
    (ret : ∀ h' tk', Fr g L h' m → News g L h' ((H, instObj 109 Hd) :: (Hd, hisO k1 k2 k3 k4 k5 h1 h2 h3 h4 h5 R d dk hn) :: (R, W.listOf rs.toArray rn) :: news) → Q (.ref R) { s with heap := h', toks := tk' }) :
    wpAny (model PW w) (lawA L fa cd) (eval (compIt fltA) (lawEnv L fa cd)) Q E s := by
  unfold lawA lawEnv
  generalize hsc : scopeOf (Str.ofString "law") = sc
  conv at hsc => lhs; whnf
  subst hsc
  generalize hbb : compIt fltA = bb
  conv at hbb => lhs; whnf
  subst hbb
  repeat' (first | (k_unfold; (try dsimp only)) | (k_end; wrow_close) | ((try dsimp only); first | w_nolog (with_reducible ((with_reducible show wpAny _ _ (eval (PySem.Expr.Name _ _) _) _ _ _); (k_here; k_dflt (refine' nameX_L ?F ?v ?_ ?a ?b ?c; (case F => k_asm); (case a => rfl); (case b => rfl); (case c => decide); (case v => first | (with_reducible assumption) | assumption); k_whole)))) | w_nolog (with_reducible ((with_reducible show wpAny _ _ (eval (PySem.Expr.Name _ _) _) _ _ _); (k_here; k_dflt (refine' nameX_C ?N ?hc ?m ?h ?_ ?a ?b ?c; (case N => k_asm); (case a => rfl); (case b => rfl); (case c => decide); (case hc => rfl); (case m => k_mem); (case h => assumption); k_whole)))) | w_nolog (with_reducible (k_here; (with_reducible show wpAny _ _ (pyIter (Value.ref _)) (fun _ _ => LoopAtV _ _ _ _ _ _ _ _ _ _ _) _ _); (rename IsRange _ _ _ _ _ _ _ _ => hR9); k_dflt (refine' again_use ?X ?T ?F ?N hR9 ?b0 ?b3 ?m1 ?m2 ?m3 ?m4 ?m5 ?D ?B ?R ?H ?Hd ?C ?dr ?G ?sub ?o1 ?o2 ?o3 ?o4 ?o5 ?off ?I ?ms ?cl ?bI ?bl ?hz ?hl ?_; (case X => k_asm); (case T => k_asm); (case F => k_asm); (case N => k_asm); (case b0 => omega); (case b3 => omega); (case m1 => (first | (with_reducible assumption) | assumption)); (case m2 => (first | (with_reducible assumption) | assumption)); (case m3 => (first | (with_reducible assumption) | assumption)); (case m4 => (first | (with_reducible assumption) | assumption)); (case m5 => first | exact rfl | (first | (with_reducible assumption) | assumption)); (case D => k_mem); (case B => k_mem); (case H => k_mem); (case Hd => k_mem); (case R => k_mem); (case C => k_mem); (case o1 => assumption); (case o2 => assumption); (case o3 => assumption); (case o4 => assumption); (case o5 => assumption); (case off => assumption); (case dr => (repeat' (first | exact Drop.nil | (refine' Drop.hit ?dh9 ?_; (case dh9 => (repeat' (first | exact List.Mem.head _ | refine List.Mem.tail _ ?_)))) | (refine' Drop.keep ?dh9 ?_; (case dh9 => (repeat' (first | exact List.forall_mem_nil _ | refine List.forall_mem_cons.mpr ⟨by k_ne, ?_⟩)))) | exact Drop.tl (by (refine' off_sub ?oh9 ?os9; (case oh9 => assumption); (case os9 => (repeat' (first | exact List.forall_mem_nil _ | refine List.forall_mem_cons.mpr ⟨by (repeat' (first | exact List.Mem.head _ | refine List.Mem.tail _ ?_)), ?_⟩)))))))); (case G => k_mem); (case sub => (intro p9 hp9; (repeat' (first | assumption | refine List.Mem.tail _ ?_)))); (case I => assumption); (case ms => assumption); (case cl => assumption); (case bI => assumption); (case bl => assumption); (case hz => omega); (case hl => exact BdEnd.last (by assumption)); k_whole); intro h' tk' m' add' vs' zs' k' kt' att' bs' ns' bn' rn' F' hm' hat' N' ib' il' rw' v0' v3' vz' oa' a1' a2' a3' n1' n2' n3' n4'; (try simp only [List.cons_append, List.nil_append] at N'); (try k_sweep))) | w_nolog (with_reducible (k_here; (with_reducible show wpAny _ _ (call (Value.builtin "len") [Value.ref _]) _ _ _); k_dflt (refine' len_any ?N ?m ?z ?_; (case N => k_asm); (case m => k_mem); (case z => first | assumption | omega); k_whole))) | walk1) | walk1 | (leave1; walk_say "STEP leave1"; try dsimp only) | fail "no step")
  all_goals (try k_data)
  rename Fr _ _ _ _ => kF
  rename News _ _ _ _ => kN
  exact ret _ _ kF kN
set_option maxHeartbeats 1000000 in
theorem itB (X : (hd.heap_39 w.params).In g) (T0 : Top p loose mean mg mb g) (F : Fr g L s.heap m) (N : News g L s.heap ((L + 1, oc) :: (T, W.listOf ts.toArray n) :: news)) (hoc : oc.data = .cell (some (.ref T)))
    (ret : ∀ h' tk', Fr g L h' m → News g L h' ((L + 1, oc) :: (T, W.listOf ts.toArray n) :: news) → Q (.ref T) { s with heap := h', toks := tk' }) :
    wpAny (model PW w) (lawA L fa cd) (eval (compIt fltB) (lawEnv L fa cd)) Q E s := by
  unfold lawA lawEnv
  generalize hsc : scopeOf (Str.ofString "law") = sc
  conv at hsc => lhs; whnf
  subst hsc
  generalize hbb : compIt fltB = bb
  conv at hbb => lhs; whnf
  subst hbb
  repeat' (first | (k_unfold; (try dsimp only)) | (k_end; wrow_close) | ((try dsimp only); first | w_nolog (with_reducible ((with_reducible show wpAny _ _ (eval (PySem.Expr.Name _ _) _) _ _ _); (k_here; k_dflt (refine' nameX_L ?F ?v ?_ ?a ?b ?c; (case F => k_asm); (case a => rfl); (case b => rfl); (case c => decide); (case v => first | (with_reducible assumption) | assumption); k_whole)))) | w_nolog (with_reducible ((with_reducible show wpAny _ _ (eval (PySem.Expr.Name _ _) _) _ _ _); (k_here; k_dflt (refine' nameX_C ?N ?hc ?m ?h ?_ ?a ?b ?c; (case N => k_asm); (case a => rfl); (case b => rfl); (case c => decide); (case hc => rfl); (case m => k_mem); (case h => assumption); k_whole)))) | w_nolog (with_reducible (k_here; (with_reducible show wpAny _ _ (pyIter (Value.ref _)) (fun _ _ => LoopAtV _ _ _ _ _ _ _ _ _ _ _) _ _); (rename IsRange _ _ _ _ _ _ _ _ => hR9); k_dflt (refine' again_use ?X ?T ?F ?N hR9 ?b0 ?b3 ?m1 ?m2 ?m3 ?m4 ?m5 ?D ?B ?R ?H ?Hd ?C ?dr ?G ?sub ?o1 ?o2 ?o3 ?o4 ?o5 ?off ?I ?ms ?cl ?bI ?bl ?hz ?hl ?_; (case X => k_asm); (case T => k_asm); (case F => k_asm); (case N => k_asm); (case b0 => omega); (case b3 => omega); (case m1 => (first | (with_reducible assumption) | assumption)); (case m2 => (first | (with_reducible assumption) | assumption)); (case m3 => (first | (with_reducible assumption) | assumption)); (case m4 => (first | (with_reducible assumption) | assumption)); (case m5 => first | exact rfl | (first | (with_reducible assumption) | assumption)); (case D => k_mem); (case B => k_mem); (case H => k_mem); (case Hd => k_mem); (case R => k_mem); (case C => k_mem); (case o1 => assumption); (case o2 => assumption); (case o3 => assumption); (case o4 => assumption); (case o5 => assumption); (case off => assumption); (case dr => (repeat' (first | exact Drop.nil | (refine' Drop.hit ?dh9 ?_; (case dh9 => (repeat' (first | exact List.Mem.head _ | refine List.Mem.tail _ ?_)))) | (refine' Drop.keep ?dh9 ?_; (case dh9 => (repeat' (first | exact List.forall_mem_nil _ | refine List.forall_mem_cons.mpr ⟨by k_ne, ?_⟩)))) | exact Drop.tl (by (refine' off_sub ?oh9 ?os9; (case oh9 => assumption); (case os9 => (repeat' (first | exact List.forall_mem_nil _ | refine List.forall_mem_cons.mpr ⟨by (repeat' (first | exact List.Mem.head _ | refine List.Mem.tail _ ?_)), ?_⟩)))))))); (case G => k_mem); (case sub => (intro p9 hp9; (repeat' (first | assumption | refine List.Mem.tail _ ?_)))); (case I => assumption); (case ms => assumption); (case cl => assumption); (case bI => assumption); (case bl => assumption); (case hz => omega); (case hl => exact BdEnd.last (by assumption)); k_whole); intro h' tk' m' add' vs' zs' k' kt' att' bs' ns' bn' rn' F' hm' hat' N' ib' il' rw' v0' v3' vz' oa' a1' a2' a3' n1' n2' n3' n4'; (try simp only [List.cons_append, List.nil_append] at N'); (try k_sweep))) | w_nolog (with_reducible (k_here; (with_reducible show wpAny _ _ (call (Value.builtin "len") [Value.ref _]) _ _ _); k_dflt (refine' len_any ?N ?m ?z ?_; (case N => k_asm); (case m => k_mem); (case z => first | assumption | omega); k_whole))) | walk1) | walk1 | (leave1; walk_say "STEP leave1"; try dsimp only) | fail "no step")
  all_goals (try k_data)
  rename Fr _ _ _ _ => kF
  rename News _ _ _ _ => kN
  exact ret _ _ kF kN
theorem fltA_use (X : (hd.heap_39 w.params).In g) (T0 : Top p loose mean mg mb g) (F : Fr g L s.heap m) (N : News g L s.heap news) (hH : (H, instObj 109 Hd) ∈ news) (hHd : (Hd, hisO k1 k2 k3 k4 k5 h1 h2 h3 h4 h5 R d dk hn) ∈ news) (hR : (R, W.listOf rs.toArray rn) ∈ news)
    (hm : m (Str.ofString "history") = some (.ref H)) (M : MixIn tl lim rs ks) (sub : ∀ p ∈ tl, p ∈ news) (hz : rs.length < 1000)
    (ret : ∀ (D : Nat) h' tk (en' : Nat), Fr g L h' m → News g L h' ((D, W.listOf (rs.filter fun v => !isBd v).toArray en') :: news) → (∀ q ∈ news, @Ne Nat q.1 D) → Q (.ref D) { s with heap := h', toks := tk }) :
    wpAny (model PW w) (lawA L fa cd) (eval fltA (lawEnv L fa cd)) Q E s :=
  fltA_comp (A9 := R) (en := rn) X T0 N (M.mono sub (Int.le_refl _)) hz (fun {Q} r9 => itA X T0 F (News.less N (mem_more hH (mem_more hHd (mem_more hR fun p hp => hp)))) hm fun h' tk' F' N' => r9 h' tk' F' (News.less N' fun p hp => .tail _ (.tail _ (.tail _ hp))) hR) ret
theorem fltB_use (X : (hd.heap_39 w.params).In g) (T0 : Top p loose mean mg mb g) (F : Fr g L s.heap m) (N : News g L s.heap news) (hC : (L + 1, oc) ∈ news) (hT : (T, W.listOf ts.toArray n) ∈ news)
    (hoc : oc.data = .cell (some (.ref T))) (M : MixIn tl lim ts ks) (sub : ∀ p ∈ tl, p ∈ news) (hz : ts.length < 1000)
    (ret : ∀ (D : Nat) h' tk (en' : Nat), Fr g L h' m → News g L h' ((D, W.listOf (ts.filter fun v => !isBd v).toArray en') :: news) → (∀ q ∈ news, @Ne Nat q.1 D) → Q (.ref D) { s with heap := h', toks := tk }) :
    wpAny (model PW w) (lawA L fa cd) (eval fltB (lawEnv L fa cd)) Q E s :=
  fltB_comp (A9 := T) (en := n) X T0 N (M.mono sub (Int.le_refl _)) hz (fun {Q} r9 => itB X T0 F (News.less N (mem_more hC (mem_more hT fun p hp => hp))) hoc fun h' tk' F' N' => r9 h' tk' F' (News.less N' fun p hp => .tail _ (.tail _ hp)) hT) ret
end
end
section
theorem fresh_NSt8 : True := by
  w_top off
  first | walk1 | skip
  trivial
section
variable {prog : Program} {w : World} {A : Around} {E : Value → Shared → Prop} {s : Shared} {h₀ : Heap} {L a b : Addr} {m : Str → Option Value} {news : List (Addr × Obj)} {vs vs' : List Value} {n n' : Nat} {Q : Value → Shared → Prop}
theorem ne_eql (N : News h₀ L s.heap news) (h1 : (a, W.listOf vs.toArray n) ∈ news) (h2 : (b, W.listOf vs'.toArray n') ∈ news) (he : vs = vs') (hu : A.units < cLine) (h : Q (.bool false) s) :
    wpAny (model prog w) A (compareOp .NotEq (.ref a) (.ref b)) Q E s := by
  subst he
  exact ne_same N h1 h2 hu h
end
set_option maxRecDepth 100000
section
variable {w : World} {p : Program} {loose : List Str} {mean : ExcName → Option Value} {mg mb : Str → Option Value} {g : Heap} {L fa T H Hd R n rn : Nat} {cd : Value} {m : Str → Option Value} {s : Shared}
  {tl news : List (Addr × Obj)} {rs ts : List Value} {ks ks' : List (Option Nat)} {lim : Int} {oc : Obj} {Q : Flow → Shared → Prop} {k : Nat} {kt : Tok}
  {k1 k2 k3 k4 k5 dk : Tok} {h1 h2 h3 h4 h5 d : Int} {hn : Nat}
set_option maxHeartbeats 1000000 in
theorem st8 (X : (hd.heap_39 w.params).In g) (T0 : Top p loose mean mg mb g) (F : Fr g L s.heap m) (N : News g L s.heap ((H, instObj 109 Hd) :: (Hd, hisO k1 k2 k3 k4 k5 h1 h2 h3 h4 h5 R d dk hn) :: (R, W.listOf rs.toArray rn) :: (L + 1, oc) :: (T, W.listOf ts.toArray n) :: tl))
    (hoc : oc.data = .cell (some (.ref T))) (hm : m (Str.ofString "history") = some (.ref H)) (hm2 : m (Str.ofString "kept") = some (.int (k : Int) kt)) (M : MixIn tl lim rs ks) (M' : MixIn tl lim ts ks') (z1 : rs.length < 1000) (z2 : ts.length < 1000)
    (e1 : (rs.filter fun v => !isBd v) = ts.filter fun v => !isBd v) (e2 : 0 < (k : Int) → rs.take (ts.length : Int).toNat = ts)
    (ret : ∀ h' tk', Fr g L h' m → News g L h' ((H, instObj 109 Hd) :: (Hd, hisO k1 k2 k3 k4 k5 h1 h2 h3 h4 h5 R d dk hn) :: (R, W.listOf rs.toArray rn) :: (L + 1, oc) :: (T, W.listOf ts.toArray n) :: tl) → Q .next { s with heap := h', toks := tk' }) :
    wpAny (model PW w) (lawA L fa cd) (exec fltIf (lawEnv L fa cd)) Q (fun _ _ => False) s := by
  unfold lawA lawEnv
  generalize hsc : scopeOf (Str.ofString "law") = sc
  conv at hsc => lhs; whnf
  subst hsc
  generalize hbb : fltIf = bb
  conv at hbb => lhs; whnf
  subst hbb
  repeat' (first | (k_unfold; (try dsimp only)) | (k_end; wrow_close) | ((try dsimp only); first | w_nolog (with_reducible (k_here; (with_reducible show wpAny _ _ (subscriptTail _ (PySem.Expr.Slice _ _ _ _) (Value.ref _) (Value.ref _)) _ _ _); k_dflt (refine' slice_upto ?F ?N ?m ?x ?z ?_ ?s ?t; (case F => k_asm); (case N => k_asm); (case m => k_mem); (case x => omega); (case z => omega); (case s => with_unfolding_all rfl); (case t => kmk_pure)); intro D' h' F' N' l1; (try k_lt l1); (try k_sweep))) | w_nolog (with_reducible (k_here; (with_reducible show wpAny _ _ (compareOp CmpOp.NotEq (Value.ref _) (Value.ref _)) _ _ _); k_dflt (refine' ne_eql ?N ?a ?b ?e ?u ?_; (case N => k_asm); (case a => k_mem); (case b => k_mem); (case e => first | assumption | (rename (0 < _ → List.take _ _ = _) => h9; exact h9 (by omega))); (case u => k_units); k_whole))) | w_nolog (with_reducible ((with_reducible show wpAny _ _ (eval (PySem.Expr.ListComp ..) _) _ _ _); (k_here; k_dflt (refine' fltB_use ?X ?T ?F ?N ?C ?Tm ?o ?M ?sub ?z ?_; (case X => k_asm); (case T => k_asm); (case F => k_asm); (case N => k_asm); (case C => k_mem); (case o => assumption); (case Tm => k_mem); (case M => assumption); (case sub => (intro p9 hp9; (repeat' (first | assumption | refine List.Mem.tail _ ?_)))); (case z => assumption); k_whole); intro D' h' tk' en' F' N' ne'))) | w_nolog (with_reducible ((with_reducible show wpAny _ _ (eval (PySem.Expr.ListComp ..) _) _ _ _); (k_here; k_dflt (refine' fltA_use ?X ?T ?F ?N ?H ?Hd ?R ?m ?M ?sub ?z ?_; (case X => k_asm); (case T => k_asm); (case F => k_asm); (case N => k_asm); (case H => k_mem); (case Hd => k_mem); (case R => k_mem); (case m => (first | (with_reducible assumption) | assumption)); (case M => assumption); (case sub => (intro p9 hp9; (repeat' (first | assumption | refine List.Mem.tail _ ?_)))); (case z => assumption); k_whole); intro D' h' tk' en' F' N' ne'))) | w_nolog (with_reducible ((with_reducible show wpAny _ _ (eval (PySem.Expr.Name _ _) _) _ _ _); (k_here; k_dflt (refine' nameX_L ?F ?v ?_ ?a ?b ?c; (case F => k_asm); (case a => rfl); (case b => rfl); (case c => decide); (case v => first | (with_reducible assumption) | assumption); k_whole)))) | w_nolog (with_reducible ((with_reducible show wpAny _ _ (eval (PySem.Expr.Name _ _) _) _ _ _); (k_here; k_dflt (refine' nameX_C ?N ?hc ?m ?h ?_ ?a ?b ?c; (case N => k_asm); (case a => rfl); (case b => rfl); (case c => decide); (case hc => rfl); (case m => k_mem); (case h => assumption); k_whole)))) | w_nolog (with_reducible (k_here; (with_reducible show wpAny _ _ (pyIter (Value.ref _)) (fun _ _ => LoopAtV _ _ _ _ _ _ _ _ _ _ _) _ _); (rename IsRange _ _ _ _ _ _ _ _ => hR9); k_dflt (refine' again_use ?X ?T ?F ?N hR9 ?b0 ?b3 ?m1 ?m2 ?m3 ?m4 ?m5 ?D ?B ?R ?H ?Hd ?C ?dr ?G ?sub ?o1 ?o2 ?o3 ?o4 ?o5 ?off ?I ?ms ?cl ?bI ?bl ?hz ?hl ?_; (case X => k_asm); (case T => k_asm); (case F => k_asm); (case N => k_asm); (case b0 => omega); (case b3 => omega); (case m1 => (first | (with_reducible assumption) | assumption)); (case m2 => (first | (with_reducible assumption) | assumption)); (case m3 => (first | (with_reducible assumption) | assumption)); (case m4 => (first | (with_reducible assumption) | assumption)); (case m5 => first | exact rfl | (first | (with_reducible assumption) | assumption)); (case D => k_mem); (case B => k_mem); (case H => k_mem); (case Hd => k_mem); (case R => k_mem); (case C => k_mem); (case o1 => assumption); (case o2 => assumption); (case o3 => assumption); (case o4 => assumption); (case o5 => assumption); (case off => assumption); (case dr => (repeat' (first | exact Drop.nil | (refine' Drop.hit ?dh9 ?_; (case dh9 => (repeat' (first | exact List.Mem.head _ | refine List.Mem.tail _ ?_)))) | (refine' Drop.keep ?dh9 ?_; (case dh9 => (repeat' (first | exact List.forall_mem_nil _ | refine List.forall_mem_cons.mpr ⟨by k_ne, ?_⟩)))) | exact Drop.tl (by (refine' off_sub ?oh9 ?os9; (case oh9 => assumption); (case os9 => (repeat' (first | exact List.forall_mem_nil _ | refine List.forall_mem_cons.mpr ⟨by (repeat' (first | exact List.Mem.head _ | refine List.Mem.tail _ ?_)), ?_⟩)))))))); (case G => k_mem); (case sub => (intro p9 hp9; (repeat' (first | assumption | refine List.Mem.tail _ ?_)))); (case I => assumption); (case ms => assumption); (case cl => assumption); (case bI => assumption); (case bl => assumption); (case hz => omega); (case hl => exact BdEnd.last (by assumption)); k_whole); intro h' tk' m' add' vs' zs' k' kt' att' bs' ns' bn' rn' F' hm' hat' N' ib' il' rw' v0' v3' vz' oa' a1' a2' a3' n1' n2' n3' n4'; (try simp only [List.cons_append, List.nil_append] at N'); (try k_sweep))) | w_nolog (with_reducible (k_here; (with_reducible show wpAny _ _ (pyIter (Value.ref _)) (fun _ _ => LoopAtV _ _ _ _ _ _ _ _ _ _ _) _ _); (rename IsRange _ _ _ _ _ _ _ _ => hR9); k_dflt (refine' again_use ?X ?T ?F ?N hR9 ?b0 ?b3 ?m1 ?m2 ?m3 ?m4 ?m5 ?D ?B ?R ?H ?Hd ?C ?dr ?G ?sub ?o1 ?o2 ?o3 ?o4 ?o5 ?off ?I ?ms ?cl ?bI ?bl ?hz ?hl ?_; (case X => k_asm); (case T => k_asm); (case F => k_asm); (case N => k_asm); (case b0 => omega); (case b3 => omega); (case m1 => (first | (with_reducible assumption) | assumption)); (case m2 => (first | (with_reducible assumption) | assumption)); (case m3 => (first | (with_reducible assumption) | assumption)); (case m4 => (first | (with_reducible assumption) | assumption)); (case m5 => first | exact rfl | (first | (with_reducible assumption) | assumption)); (case D => k_mem); (case B => k_mem); (case H => k_mem); (case Hd => k_mem); (case R => k_mem); (case C => k_mem); (case o1 => assumption); (case o2 => assumption); (case o3 => assumption); (case o4 => assumption); (case o5 => assumption); (case off => assumption); (case dr => (repeat' (first | exact Drop.nil | (refine' Drop.hit ?dh9 ?_; (case dh9 => (repeat' (first | exact List.Mem.head _ | refine List.Mem.tail _ ?_)))) | (refine' Drop.keep ?dh9 ?_; (case dh9 => (repeat' (first | exact List.forall_mem_nil _ | refine List.forall_mem_cons.mpr ⟨by k_ne, ?_⟩)))) | exact Drop.tl (by (refine' off_sub ?oh9 ?os9; (case oh9 => assumption); (case os9 => (repeat' (first | exact List.forall_mem_nil _ | refine List.forall_mem_cons.mpr ⟨by (repeat' (first | exact List.Mem.head _ | refine List.Mem.tail _ ?_)), ?_⟩)))))))); (case G => k_mem); (case sub => (intro p9 hp9; (repeat' (first | assumption | refine List.Mem.tail _ ?_)))); (case I => assumption); (case ms => assumption); (case cl => assumption); (case bI => assumption); (case bl => assumption); (case hz => omega); (case hl => exact BdEnd.last (by assumption)); k_whole); intro h' tk' m' add' vs' zs' k' kt' att' bs' ns' bn' rn' F' hm' hat' N' ib' il' rw' v0' v3' vz' oa' a1' a2' a3' n1' n2' n3' n4'; (try simp only [List.cons_append, List.nil_append] at N'); (try k_sweep))) | w_nolog (with_reducible (k_here; (with_reducible show wpAny _ _ (call (Value.builtin "len") [Value.ref _]) _ _ _); k_dflt (refine' len_any ?N ?m ?z ?_; (case N => k_asm); (case m => k_mem); (case z => first | assumption | omega); k_whole))) | walk1) | walk1 | (leave1; walk_say "STEP leave1"; try dsimp only) | fail "no step")
  all_goals (try k_data)
  all_goals (rename Fr _ _ _ _ => kF; rename News _ _ _ _ => kN)
  all_goals exact ret _ _ kF (News.less kN (by (repeat' (first | exact List.forall_mem_nil _ | refine mem_more (by k_mem) ?_ | (intro p9 hp9; focus ((repeat' (first | assumption | refine List.Mem.tail _ ?_)); done))))))
end
end
section
theorem fresh_NSt5 : True := by
  w_top off
  first | walk1 | skip
  trivial
set_option maxRecDepth 100000
section
variable {w : World} {p : Program} {loose : List Str} {mean : ExcName → Option Value} {mg mb : Str → Option Value} {g : Heap} {L fa T H Hd R n rn : Nat} {cd : Value} {m : Str → Option Value} {s : Shared}
  {tl rest : List (Addr × Obj)} {rs ts : List Value} {ks ks' : List (Option Nat)} {lim most : Int} {oc : Obj} {Q : Flow → Shared → Prop} {k : Nat} {mt : Tok}
  {k1 k2 k3 k4 k5 dk : Tok} {h1 h2 h3 h4 h5 d : Int} {hn : Nat}
set_option maxHeartbeats 1000000 in
theorem st5 (X : (hd.heap_39 w.params).In g) (T0 : Top p loose mean mg mb g) (F : Fr g L s.heap m) (N : News g L s.heap ((H, instObj 109 Hd) :: (Hd, hisO k1 k2 k3 k4 k5 h1 h2 h3 h4 h5 R d dk 5) :: (R, W.listOf rs.toArray rn) :: tl))
    (M : MixIn tl lim rs ks) (hz : rs.length < 900) (o1 : Hd < H) (o2 : H < R) (hoff : OwnOff tl [H, Hd, R])
    (hm : m (Str.ofString "history") = some (.ref H)) (hm2 : m (Str.ofString "most") = some (.int most mt))
    (ret : ∀ (h' : Heap) (tk' : Nat) (m' : Str → Option Value) (kt' dk' : Tok) (R2 : Nat), Fr g L h' m' → (∀ y, y ≠ Str.ofString "gone" → m' y = m y) → m' (Str.ofString "gone") = some (.int (limF ks most : Int) kt') →
      News g L h' ((H, instObj 109 Hd) :: (Hd, hisO k1 k2 k3 k4 k5 h1 h2 h3 h4 h5 R2 (d + (limF ks most : Int)) dk' 5) :: (R2, W.listOf (rs.drop (limF ks most)).toArray 0) :: (R, W.listOf rs.toArray rn) :: tl) → (H < R2 ∧ Hd < R2 ∧ R < R2 ∧ AllLt R2 tl) → Q .next { s with heap := h', toks := tk' }) :
    wpAny (model PW w) (lawA L fa cd) (exec (stOf lawBody 5) (lawEnv L fa cd)) Q (fun _ _ => False) s := by
  unfold lawA lawEnv
  generalize hsc : scopeOf (Str.ofString "law") = sc
  conv at hsc => lhs; whnf
  subst hsc
  generalize hbb : stOf lawBody 5 = bb
  conv at hbb => lhs; whnf
  subst hbb
  repeat' (first | (k_unfold; (try dsimp only)) | (k_end; wrow_close) | ((try dsimp only); first | w_nolog (with_reducible (k_here; (with_reducible show wpAny _ _ (call (Value.ref 127) _) _ _ _); k_dflt (refine' limit_call ?X ?T ?F ?N ?M ?z ?o1 ?o2 ?off ?_; (case X => k_asm); (case T => k_asm); (case F => k_asm); (case N => k_asm); (case M => assumption); (case z => assumption); (case o1 => assumption); (case o2 => assumption); (case off => assumption); k_whole); intro h' tk' kt' dk' R2' F' N' l')) | w_nolog (with_reducible ((with_reducible show wpAny _ _ (eval (PySem.Expr.Name _ _) _) _ _ _); (k_here; k_dflt (refine' nameX_L ?F ?v ?_ ?a ?b ?c; (case F => k_asm); (case a => rfl); (case b => rfl); (case c => decide); (case v => first | (with_reducible assumption) | assumption); k_whole)))) | w_nolog (with_reducible ((with_reducible show wpAny _ _ (eval (PySem.Expr.Name _ _) _) _ _ _); (k_here; k_dflt (refine' nameX_C ?N ?hc ?m ?h ?_ ?a ?b ?c; (case N => k_asm); (case a => rfl); (case b => rfl); (case c => decide); (case hc => rfl); (case m => k_mem); (case h => assumption); k_whole)))) | w_nolog (with_reducible (k_here; (with_reducible show wpAny _ _ (pyIter (Value.ref _)) (fun _ _ => LoopAtV _ _ _ _ _ _ _ _ _ _ _) _ _); (rename IsRange _ _ _ _ _ _ _ _ => hR9); k_dflt (refine' again_use ?X ?T ?F ?N hR9 ?b0 ?b3 ?m1 ?m2 ?m3 ?m4 ?m5 ?D ?B ?R ?H ?Hd ?C ?dr ?G ?sub ?o1 ?o2 ?o3 ?o4 ?o5 ?off ?I ?ms ?cl ?bI ?bl ?hz ?hl ?_; (case X => k_asm); (case T => k_asm); (case F => k_asm); (case N => k_asm); (case b0 => omega); (case b3 => omega); (case m1 => (first | (with_reducible assumption) | assumption)); (case m2 => (first | (with_reducible assumption) | assumption)); (case m3 => (first | (with_reducible assumption) | assumption)); (case m4 => (first | (with_reducible assumption) | assumption)); (case m5 => first | exact rfl | (first | (with_reducible assumption) | assumption)); (case D => k_mem); (case B => k_mem); (case H => k_mem); (case Hd => k_mem); (case R => k_mem); (case C => k_mem); (case o1 => assumption); (case o2 => assumption); (case o3 => assumption); (case o4 => assumption); (case o5 => assumption); (case off => assumption); (case dr => (repeat' (first | exact Drop.nil | (refine' Drop.hit ?dh9 ?_; (case dh9 => (repeat' (first | exact List.Mem.head _ | refine List.Mem.tail _ ?_)))) | (refine' Drop.keep ?dh9 ?_; (case dh9 => (repeat' (first | exact List.forall_mem_nil _ | refine List.forall_mem_cons.mpr ⟨by k_ne, ?_⟩)))) | exact Drop.tl (by (refine' off_sub ?oh9 ?os9; (case oh9 => assumption); (case os9 => (repeat' (first | exact List.forall_mem_nil _ | refine List.forall_mem_cons.mpr ⟨by (repeat' (first | exact List.Mem.head _ | refine List.Mem.tail _ ?_)), ?_⟩)))))))); (case G => k_mem); (case sub => (intro p9 hp9; (repeat' (first | assumption | refine List.Mem.tail _ ?_)))); (case I => assumption); (case ms => assumption); (case cl => assumption); (case bI => assumption); (case bl => assumption); (case hz => omega); (case hl => exact BdEnd.last (by assumption)); k_whole); intro h' tk' m' add' vs' zs' k' kt' att' bs' ns' bn' rn' F' hm' hat' N' ib' il' rw' v0' v3' vz' oa' a1' a2' a3' n1' n2' n3' n4'; (try simp only [List.cons_append, List.nil_append] at N'); (try k_sweep))) | w_nolog (with_reducible (k_here; (with_reducible show wpAny _ _ (pyIter (Value.ref _)) (fun _ _ => LoopAtV _ _ _ _ _ _ _ _ _ _ _) _ _); (rename IsRange _ _ _ _ _ _ _ _ => hR9); k_dflt (refine' again_use ?X ?T ?F ?N hR9 ?b0 ?b3 ?m1 ?m2 ?m3 ?m4 ?m5 ?D ?B ?R ?H ?Hd ?C ?dr ?G ?sub ?o1 ?o2 ?o3 ?o4 ?o5 ?off ?I ?ms ?cl ?bI ?bl ?hz ?hl ?_; (case X => k_asm); (case T => k_asm); (case F => k_asm); (case N => k_asm); (case b0 => omega); (case b3 => omega); (case m1 => (first | (with_reducible assumption) | assumption)); (case m2 => (first | (with_reducible assumption) | assumption)); (case m3 => (first | (with_reducible assumption) | assumption)); (case m4 => (first | (with_reducible assumption) | assumption)); (case m5 => first | exact rfl | (first | (with_reducible assumption) | assumption)); (case D => k_mem); (case B => k_mem); (case H => k_mem); (case Hd => k_mem); (case R => k_mem); (case C => k_mem); (case o1 => assumption); (case o2 => assumption); (case o3 => assumption); (case o4 => assumption); (case o5 => assumption); (case off => assumption); (case dr => (repeat' (first | exact Drop.nil | (refine' Drop.hit ?dh9 ?_; (case dh9 => (repeat' (first | exact List.Mem.head _ | refine List.Mem.tail _ ?_)))) | (refine' Drop.keep ?dh9 ?_; (case dh9 => (repeat' (first | exact List.forall_mem_nil _ | refine List.forall_mem_cons.mpr ⟨by k_ne, ?_⟩)))) | exact Drop.tl (by (refine' off_sub ?oh9 ?os9; (case oh9 => assumption); (case os9 => (repeat' (first | exact List.forall_mem_nil _ | refine List.forall_mem_cons.mpr ⟨by (repeat' (first | exact List.Mem.head _ | refine List.Mem.tail _ ?_)), ?_⟩)))))))); (case G => k_mem); (case sub => (intro p9 hp9; (repeat' (first | assumption | refine List.Mem.tail _ ?_)))); (case I => assumption); (case ms => assumption); (case cl => assumption); (case bI => assumption); (case bl => assumption); (case hz => omega); (case hl => exact BdEnd.last (by assumption)); k_whole); intro h' tk' m' add' vs' zs' k' kt' att' bs' ns' bn' rn' F' hm' hat' N' ib' il' rw' v0' v3' vz' oa' a1' a2' a3' n1' n2' n3' n4'; (try simp only [List.cons_append, List.nil_append] at N'); (try k_sweep))) | w_nolog (with_reducible (k_here; (with_reducible show wpAny _ _ (call (Value.builtin "len") [Value.ref _]) _ _ _); k_dflt (refine' len_any ?N ?m ?z ?_; (case N => k_asm); (case m => k_mem); (case z => first | assumption | omega); k_whole))) | walk1) | walk1 | (leave1; walk_say "STEP leave1"; try dsimp only) | fail "no step")
  all_goals (try k_data)
  rename Fr _ _ _ _ => kF
  rename News _ _ _ _ => kN
  exact ret _ _ _ _ _ _ kF (fun y h1 => by simp only [if_neg h1]) rfl kN (by assumption)
set_option maxHeartbeats 1000000 in
theorem st6 {cv : Option Value} (X : (hd.heap_39 w.params).In g) (T0 : Top p loose mean mg mb g) (F : Fr g L s.heap m) (N : News g L s.heap ((L + 1, oc) :: rest)) (hoc : oc.data = .cell cv) (o3 : OwnOff rest [L + 1])
    (ret : ∀ (h' : Heap) (tk' T : Nat) (oc' : Obj), Fr g L h' m → oc'.data = .cell (some (.ref T)) → News g L h' ((L + 1, oc') :: (T, W.listOf #[] 0) :: rest) → L + 1 < T → AllLt T rest → Q .next { s with heap := h', toks := tk' }) :
    wpAny (model PW w) (lawA L fa cd) (exec (stOf lawBody 6) (lawEnv L fa cd)) Q (fun _ _ => False) s := by
  unfold lawA lawEnv
  generalize hsc : scopeOf (Str.ofString "law") = sc
  conv at hsc => lhs; whnf
  subst hsc
  generalize hbb : stOf lawBody 6 = bb
  conv at hbb => lhs; whnf
  subst hbb
  repeat' (first | (k_unfold; (try dsimp only)) | (k_end; wrow_close) | ((try dsimp only); first | w_nolog (with_reducible (k_here; (with_reducible show wpAny _ _ (call (Value.ref 127) _) _ _ _); k_dflt (refine' limit_call ?X ?T ?F ?N ?M ?z ?o1 ?o2 ?off ?_; (case X => k_asm); (case T => k_asm); (case F => k_asm); (case N => k_asm); (case M => assumption); (case z => assumption); (case o1 => assumption); (case o2 => assumption); (case off => assumption); k_whole); intro h' tk' kt' dk' R2' F' N' l')) | w_nolog (with_reducible ((with_reducible show wpAny _ _ (eval (PySem.Expr.Name _ _) _) _ _ _); (k_here; k_dflt (refine' nameX_L ?F ?v ?_ ?a ?b ?c; (case F => k_asm); (case a => rfl); (case b => rfl); (case c => decide); (case v => first | (with_reducible assumption) | assumption); k_whole)))) | w_nolog (with_reducible ((with_reducible show wpAny _ _ (eval (PySem.Expr.Name _ _) _) _ _ _); (k_here; k_dflt (refine' nameX_C ?N ?hc ?m ?h ?_ ?a ?b ?c; (case N => k_asm); (case a => rfl); (case b => rfl); (case c => decide); (case hc => rfl); (case m => k_mem); (case h => assumption); k_whole)))) | w_nolog (with_reducible (k_here; (with_reducible show wpAny _ _ (pyIter (Value.ref _)) (fun _ _ => LoopAtV _ _ _ _ _ _ _ _ _ _ _) _ _); (rename IsRange _ _ _ _ _ _ _ _ => hR9); k_dflt (refine' again_use ?X ?T ?F ?N hR9 ?b0 ?b3 ?m1 ?m2 ?m3 ?m4 ?m5 ?D ?B ?R ?H ?Hd ?C ?dr ?G ?sub ?o1 ?o2 ?o3 ?o4 ?o5 ?off ?I ?ms ?cl ?bI ?bl ?hz ?hl ?_; (case X => k_asm); (case T => k_asm); (case F => k_asm); (case N => k_asm); (case b0 => omega); (case b3 => omega); (case m1 => (first | (with_reducible assumption) | assumption)); (case m2 => (first | (with_reducible assumption) | assumption)); (case m3 => (first | (with_reducible assumption) | assumption)); (case m4 => (first | (with_reducible assumption) | assumption)); (case m5 => first | exact rfl | (first | (with_reducible assumption) | assumption)); (case D => k_mem); (case B => k_mem); (case H => k_mem); (case Hd => k_mem); (case R => k_mem); (case C => k_mem); (case o1 => assumption); (case o2 => assumption); (case o3 => assumption); (case o4 => assumption); (case o5 => assumption); (case off => assumption); (case dr => (repeat' (first | exact Drop.nil | (refine' Drop.hit ?dh9 ?_; (case dh9 => (repeat' (first | exact List.Mem.head _ | refine List.Mem.tail _ ?_)))) | (refine' Drop.keep ?dh9 ?_; (case dh9 => (repeat' (first | exact List.forall_mem_nil _ | refine List.forall_mem_cons.mpr ⟨by k_ne, ?_⟩)))) | exact Drop.tl (by (refine' off_sub ?oh9 ?os9; (case oh9 => assumption); (case os9 => (repeat' (first | exact List.forall_mem_nil _ | refine List.forall_mem_cons.mpr ⟨by (repeat' (first | exact List.Mem.head _ | refine List.Mem.tail _ ?_)), ?_⟩)))))))); (case G => k_mem); (case sub => (intro p9 hp9; (repeat' (first | assumption | refine List.Mem.tail _ ?_)))); (case I => assumption); (case ms => assumption); (case cl => assumption); (case bI => assumption); (case bl => assumption); (case hz => omega); (case hl => exact BdEnd.last (by assumption)); k_whole); intro h' tk' m' add' vs' zs' k' kt' att' bs' ns' bn' rn' F' hm' hat' N' ib' il' rw' v0' v3' vz' oa' a1' a2' a3' n1' n2' n3' n4'; (try simp only [List.cons_append, List.nil_append] at N'); (try k_sweep))) | w_nolog (with_reducible (k_here; (with_reducible show wpAny _ _ (pyIter (Value.ref _)) (fun _ _ => LoopAtV _ _ _ _ _ _ _ _ _ _ _) _ _); (rename IsRange _ _ _ _ _ _ _ _ => hR9); k_dflt (refine' again_use ?X ?T ?F ?N hR9 ?b0 ?b3 ?m1 ?m2 ?m3 ?m4 ?m5 ?D ?B ?R ?H ?Hd ?C ?dr ?G ?sub ?o1 ?o2 ?o3 ?o4 ?o5 ?off ?I ?ms ?cl ?bI ?bl ?hz ?hl ?_; (case X => k_asm); (case T => k_asm); (case F => k_asm); (case N => k_asm); (case b0 => omega); (case b3 => omega); (case m1 => (first | (with_reducible assumption) | assumption)); (case m2 => (first | (with_reducible assumption) | assumption)); (case m3 => (first | (with_reducible assumption) | assumption)); (case m4 => (first | (with_reducible assumption) | assumption)); (case m5 => first | exact rfl | (first | (with_reducible assumption) | assumption)); (case D => k_mem); (case B => k_mem); (case H => k_mem); (case Hd => k_mem); (case R => k_mem); (case C => k_mem); (case o1 => assumption); (case o2 => assumption); (case o3 => assumption); (case o4 => assumption); (case o5 => assumption); (case off => assumption); (case dr => (repeat' (first | exact Drop.nil | (refine' Drop.hit ?dh9 ?_; (case dh9 => (repeat' (first | exact List.Mem.head _ | refine List.Mem.tail _ ?_)))) | (refine' Drop.keep ?dh9 ?_; (case dh9 => (repeat' (first | exact List.forall_mem_nil _ | refine List.forall_mem_cons.mpr ⟨by k_ne, ?_⟩)))) | exact Drop.tl (by (refine' off_sub ?oh9 ?os9; (case oh9 => assumption); (case os9 => (repeat' (first | exact List.forall_mem_nil _ | refine List.forall_mem_cons.mpr ⟨by (repeat' (first | exact List.Mem.head _ | refine List.Mem.tail _ ?_)), ?_⟩)))))))); (case G => k_mem); (case sub => (intro p9 hp9; (repeat' (first | assumption | refine List.Mem.tail _ ?_)))); (case I => assumption); (case ms => assumption); (case cl => assumption); (case bI => assumption); (case bl => assumption); (case hz => omega); (case hl => exact BdEnd.last (by assumption)); k_whole); intro h' tk' m' add' vs' zs' k' kt' att' bs' ns' bn' rn' F' hm' hat' N' ib' il' rw' v0' v3' vz' oa' a1' a2' a3' n1' n2' n3' n4'; (try simp only [List.cons_append, List.nil_append] at N'); (try k_sweep))) | w_nolog (with_reducible (k_here; (with_reducible show wpAny _ _ (call (Value.builtin "len") [Value.ref _]) _ _ _); k_dflt (refine' len_any ?N ?m ?z ?_; (case N => k_asm); (case m => k_mem); (case z => first | assumption | omega); k_whole))) | walk1) | walk1 | (leave1; walk_say "STEP leave1"; try dsimp only) | fail "no step")
  all_goals (try k_data)
  dsimp only
  rename Fr _ _ _ _ => kF
  rename News _ _ _ _ => kN
  rename (L + 1 < _ ∧ _) => l9
  exact ret _ _ _ _ kF (by assumption) (News.less kN (mem_more (.tail _ (.head _)) (mem_more (.head _) fun p hp => .tail _ (.tail _ hp)))) l9.1 l9.2
end
end
section
theorem fresh_NSt9 : True := by
  w_top off
  first | walk1 | skip
  trivial
section
variable {w : World} {p : Program} {loose : List Str} {mean : ExcName → Option Value} {mg mb : Str → Option Value} {g : Heap} {L fa H Hd R : Nat} {cd : Value} {m : Str → Option Value} {s : Shared}
  {k1 k2 k3 k4 k5 dk : Tok} {h1 h2 h3 h4 h5 d lim : Int} {rn : Nat} {rs : List Value} {news rest : List (Addr × Obj)} {ks : List (Option Nat)}
theorem limit_use {Q E : Value → Shared → Prop} {most : Int} {mt : Tok} (X : (hd.heap_39 w.params).In g) (T : Top p loose mean mg mb g) (F : Fr g L s.heap m) (N : News g L s.heap news)
    (hH : (H, instObj 109 Hd) ∈ news) (hHd : (Hd, hisO k1 k2 k3 k4 k5 h1 h2 h3 h4 h5 R d dk 5) ∈ news) (hR : (R, W.listOf rs.toArray rn) ∈ news) (dr : Drop [H, Hd, R] news rest) (M : MixIn rest lim rs ks) (hz : rs.length < 900) (o1 : Hd < H) (o2 : H < R)
    (ret : ∀ (h' : Heap) (tk' : Nat) (kt' dk' : Tok) (R2 : Nat), Fr g L h' m → News g L h' ((H, instObj 109 Hd) :: (Hd, hisO k1 k2 k3 k4 k5 h1 h2 h3 h4 h5 R2 (d + (limF ks most : Int)) dk' 5) :: (R2, W.listOf (rs.drop (limF ks most)).toArray 0) :: (R, W.listOf rs.toArray rn) :: rest) → (H < R2 ∧ Hd < R2 ∧ R < R2 ∧ AllLt R2 rest) → Q (.int (limF ks most : Int) kt') { s with heap := h', toks := tk' }) :
    wpAny (model PW w) (lawA L fa cd) (call (.ref 127) [.ref H, .int most mt]) Q E s :=
  limit_call X T F (News.less N (mem_more hH (mem_more hHd (mem_more hR dr.sub)))) M hz o1 o2 dr.off ret
end
set_option maxRecDepth 100000
def lastSts : List Stmt := lawBody.drop 9
def endSts : List Stmt := lawBody.drop 11
section
variable {w : World} {p : Program} {loose : List Str} {mean : ExcName → Option Value} {mg mb : Str → Option Value} {g : Heap} {L fa H Hd R bf n rn : Nat} {cd : Value} {m : Str → Option Value} {s : Shared}
  {tl rest news : List (Addr × Obj)} {rs bs : List Value} {ks : List (Option Nat)} {lim most dv : Int} {Q : Flow → Shared → Prop} {k f : Nat} {mt kt ft : Tok}
  {k1 k2 k3 k4 k5 dk : Tok} {h1 h2 h3 h4 h5 : Int} {bn : Nat}
set_option maxHeartbeats 1000000 in
theorem end3 (X : (hd.heap_39 w.params).In g) (T0 : Top p loose mean mg mb g) (K0 : Below callerA g [] g) (F : Fr g L s.heap m) (N : News g L s.heap [(H, instObj 109 Hd), (Hd, hisO k1 k2 k3 k4 k5 h1 h2 h3 h4 h5 R dv dk 5), (R, W.listOf rs.toArray rn)])
    (hz : rs.length < 900) (o1 : Hd < H) (o2 : H ≠ R) (o3 : Hd ≠ R) (hm : m (Str.ofString "history") = some (.ref H))
    (ret : ∀ (h' : Heap) (tk' : Nat) (m' : Str → Option Value), Fr g L h' m' → Q (.ret (.bool true)) { s with heap := h', toks := tk' }) :
    wpAny (model PW w) (lawA L fa cd) (execs endSts (lawEnv L fa cd)) Q (fun _ _ => False) s := by
  unfold lawA lawEnv
  generalize hsc : scopeOf (Str.ofString "law") = sc
  conv at hsc => lhs; whnf
  subst hsc
  generalize hbb : endSts = bb
  conv at hbb => lhs; whnf
  subst hbb
  repeat' (first | (k_unfold; (try dsimp only)) | (k_end; wrow_close) | ((try dsimp only); first | w_nolog (with_reducible (k_here; (with_reducible show wpAny _ _ (compareOp CmpOp.Eq (Value.ref _) (Value.ref _)) _ _ _); k_dflt (refine' eq_same ?N ?a ?b ?u ?_; (case N => k_asm); (case a => k_mem); (case b => k_mem); (case u => k_units); k_whole))) | w_nolog (with_reducible ((with_reducible show wpAny _ _ (eval (PySem.Expr.Name _ _) _) _ _ _); (k_here; k_dflt (refine' nameX_L ?F ?v ?_ ?a ?b ?c; (case F => k_asm); (case a => rfl); (case b => rfl); (case c => decide); (case v => first | (with_reducible assumption) | assumption); k_whole)))) | w_nolog (with_reducible (k_here; (with_reducible show wpAny _ _ (call (Value.builtin "len") [Value.ref _]) _ _ _); k_dflt (refine' len_any ?N ?m ?z ?_; (case N => k_asm); (case m => k_mem); (case z => first | assumption | omega | (rw [List.length_drop]; omega)); k_whole))) | walk1) | walk1 | (leave1; walk_say "STEP leave1"; try dsimp only) | fail "no step")
  all_goals (try k_data)
  rename Fr g L _ _ => kF
  rw [show ∀ a : Int, (a + 0 == a) = true from fun a => by rw [Int.add_zero]; exact beq_self_eq_true a]
  exact ret _ _ _ kF
theorem end3_use (X : (hd.heap_39 w.params).In g) (T0 : Top p loose mean mg mb g) (K0 : Below callerA g [] g) (F : Fr g L s.heap m) (N : News g L s.heap news)
    (hH : (H, instObj 109 Hd) ∈ news) (hHd : (Hd, hisO k1 k2 k3 k4 k5 h1 h2 h3 h4 h5 R dv dk 5) ∈ news) (hR : (R, W.listOf rs.toArray rn) ∈ news)
    (hz : rs.length < 900) (o1 : Hd < H) (o2 : H ≠ R) (o3 : Hd ≠ R) (hm : m (Str.ofString "history") = some (.ref H))
    (ret : ∀ (h' : Heap) (tk' : Nat) (m' : Str → Option Value), Fr g L h' m' → Q (.ret (.bool true)) { s with heap := h', toks := tk' }) :
    wpAny (model PW w) (lawA L fa cd) (execs endSts (lawEnv L fa cd)) Q (fun _ _ => False) s :=
  end3 X T0 K0 F (News.less N (mem_more hH (mem_more hHd (mem_more hR (List.forall_mem_nil _))))) hz o1 o2 o3 hm ret
end
section
variable {w : World} {p : Program} {loose : List Str} {mean : ExcName → Option Value} {mg mb : Str → Option Value} {g : Heap} {L fa H Hd R bf n rn : Nat} {cd : Value} {m : Str → Option Value} {s : Shared}
  {tl rest news : List (Addr × Obj)} {rs bs : List Value} {ks : List (Option Nat)} {lim most dv : Int} {Q : Flow → Shared → Prop} {k f : Nat} {mt kt ft : Tok}
  {k1 k2 k3 k4 k5 dk : Tok} {h1 h2 h3 h4 h5 : Int} {bn : Nat}
set_option maxHeartbeats 2000000 in
theorem st9 (X : (hd.heap_39 w.params).In g) (T0 : Top p loose mean mg mb g) (K0 : Below callerA g [] g) (F : Fr g L s.heap m) (N : News g L s.heap ((H, instObj 109 Hd) :: (Hd, hisO k1 k2 k3 k4 k5 h1 h2 h3 h4 h5 R dv dk 5) :: (R, W.listOf rs.toArray rn) :: (bf, W.listOf bs.toArray bn) :: tl))
    (M : MixIn tl lim rs ks) (hz : rs.length < 900) (hz2 : bs.length < 900) (o1 : Hd < H) (o2 : H < R) (o4 : R ≠ bf) (o5 : H ≠ bf) (o6 : Hd ≠ bf) (hoff : OwnOff tl [H, Hd, R])
    (hm : m (Str.ofString "history") = some (.ref H)) (hm2 : m (Str.ofString "most") = some (.int most mt)) (hm3 : m (Str.ofString "kept") = some (.int (k : Int) kt)) (hm4 : m (Str.ofString "before") = some (.ref bf)) (hm5 : m (Str.ofString "gone") = some (.int (f : Int) ft))
    (hl : rs.length + f = bs.length) (hdv : dv = f) (h0 : 0 < (k : Int) → (limF ks most : Int) = 0)
    (ret : ∀ (h' : Heap) (tk' : Nat) (m' : Str → Option Value), Fr g L h' m' → Q (.ret (.bool true)) { s with heap := h', toks := tk' }) :
    wpAny (model PW w) (lawA L fa cd) (execs lastSts (lawEnv L fa cd)) Q (fun _ _ => False) s := by
  unfold lawA lawEnv
  generalize hsc : scopeOf (Str.ofString "law") = sc
  conv at hsc => lhs; whnf
  subst hsc
  generalize hbb : lastSts = bb
  conv at hbb => lhs; whnf
  subst hbb
  repeat' (first | (k_unfold; (try dsimp only)) | (k_end; wrow_close) | ((try dsimp only); first | w_nolog (with_reducible (k_here; (with_reducible show wpAny _ _ (execs [_, _, _] _) _ _ _); k_dflt (refine' end3_use ?X ?T ?K ?F ?N ?H ?Hd ?R ?z ?o1 ?o2 ?o3 ?m ?_; (case X => k_asm); (case T => k_asm); (case K => k_asm); (case F => k_asm); (case N => k_asm); (case H => k_mem); (case Hd => k_mem); (case R => k_mem); (case z => first | assumption | (rw [List.length_drop]; omega)); (case o1 => assumption); (case o2 => k_ne); (case o3 => k_ne); (case m => (first | (with_reducible assumption) | assumption)); k_whole); intro h' tk' m' F')) | w_nolog (with_reducible (k_here; (with_reducible show wpAny _ _ (call (Value.ref 127) _) _ _ _); k_dflt (refine' limit_use ?X ?T ?F ?N ?H ?Hd ?R ?dr ?M ?z ?o1 ?o2 ?_; (case X => k_asm); (case T => k_asm); (case F => k_asm); (case N => k_asm); (case H => k_mem); (case Hd => k_mem); (case R => k_mem); (case dr => (repeat' (first | exact Drop.nil | (refine' Drop.hit ?dh9 ?_; (case dh9 => (repeat' (first | exact List.Mem.head _ | refine List.Mem.tail _ ?_)))) | (refine' Drop.keep ?dh9 ?_; (case dh9 => (repeat' (first | exact List.forall_mem_nil _ | refine List.forall_mem_cons.mpr ⟨by k_ne, ?_⟩)))) | exact Drop.tl (by (refine' off_sub ?oh9 ?os9; (case oh9 => assumption); (case os9 => (repeat' (first | exact List.forall_mem_nil _ | refine List.forall_mem_cons.mpr ⟨by (repeat' (first | exact List.Mem.head _ | refine List.Mem.tail _ ?_)), ?_⟩)))))))); (case M => (refine' MixIn.mono ?lk ?ls ?ll; (case lk => assumption); (case ls => (intro p9 hp9; (repeat' (first | assumption | refine List.Mem.tail _ ?_)))); (case ll => exact Int.le_refl _))); (case z => assumption); (case o1 => assumption); (case o2 => assumption); k_whole); intro h' tk' kt' dk' R2' F' N' l'; (try k_sweep))) | w_nolog (with_reducible (k_here; (with_reducible show wpAny _ _ (compareOp CmpOp.Eq (Value.ref _) (Value.ref _)) _ _ _); k_dflt (refine' eq_same ?N ?a ?b ?u ?_; (case N => k_asm); (case a => k_mem); (case b => k_mem); (case u => k_units); k_whole))) | w_nolog (with_reducible ((with_reducible show wpAny _ _ (eval (PySem.Expr.Name _ _) _) _ _ _); (k_here; k_dflt (refine' nameX_L ?F ?v ?_ ?a ?b ?c; (case F => k_asm); (case a => rfl); (case b => rfl); (case c => decide); (case v => first | (with_reducible assumption) | assumption); k_whole)))) | w_nolog (with_reducible (k_here; (with_reducible show wpAny _ _ (call (Value.builtin "len") [Value.ref _]) _ _ _); k_dflt (refine' len_any ?N ?m ?z ?_; (case N => k_asm); (case m => k_mem); (case z => first | assumption | omega | (rw [List.length_drop]; omega)); k_whole))) | walk1) | walk1 | (leave1; walk_say "STEP leave1"; try dsimp only) | fail "no step")
  all_goals (try k_data)
  all_goals try (exfalso; omega)
  all_goals (rename Fr g L _ _ => kF)
  all_goals exact ret _ _ _ kF
end
end
section
theorem fresh_NPlain : True := by
  w_top off
  first | walk1 | skip
  trivial
def bdK (ks : List (Option Nat)) : List (Option Nat) := if ks.isEmpty then [] else ks ++ [none]
def kOf (zss : List (List Nat)) : List (Option Nat) := zss.foldl (fun acc g => bdK acc ++ g.map some) []
theorem kOf_snoc (zss : List (List Nat)) (g : List Nat) : kOf (zss ++ [g]) = bdK (kOf zss) ++ g.map some := by
  unfold kOf; rw [List.foldl_append]; rfl
theorem bdK_pred (ks : List (Option Nat)) : (bdK ks).length - 1 = ks.length := by
  unfold bdK
  split
  · rename_i h; rw [List.isEmpty_iff.mp h]; rfl
  · simp
theorem innerF_pre (p q : List (Option Nat)) : ∀ f t, f ≤ p.length → innerF (p ++ q) f t = innerF p f t
  | 0, _, _ => rfl
  | f + 1, t, h => by
    unfold innerF
    rw [List.getElem?_append_left (by omega)]
    split
    · exact innerF_pre p q f _ (by omega)
    · rfl
theorem innerF_end (ks : List (Option Nat)) (t : Nat) : innerF (bdK ks) (bdK ks).length t = ((bdK ks).length, t) := by
  unfold bdK
  split
  · rfl
  · rw [List.length_append]
    show innerF _ (ks.length + 1) t = _
    unfold innerF
    rw [List.getElem?_append_right (Nat.le_refl _)]
    simp
theorem innerF_some {ks : List (Option Nat)} {f t z : Nat} (h : ks[f]? = some (some z)) : innerF ks (f + 1) t = innerF ks f (t + z) := by
  simp only [innerF, h]
theorem innerF_rows (p : List (Option Nat)) : ∀ (r : List Nat) t, innerF (p ++ r.reverse.map some) (p.length + r.length) t = innerF p p.length (t + r.sum)
  | [], t => by simp
  | z :: r, t => by
    have e : (p ++ (z :: r).reverse.map some)[p.length + r.length]? = some (some z) := by
      rw [List.getElem?_append_right (by omega)]
      simp
    show innerF _ (p.length + r.length + 1) t = _
    rw [innerF_some e]
    rw [show p ++ (z :: r).reverse.map some = (p ++ r.reverse.map some) ++ [some z] by simp, innerF_pre _ _ _ _ (by simp), innerF_rows p r (t + z)]
    rw [List.sum_cons, Nat.add_assoc]
theorem innerF_group (ks : List (Option Nat)) (zs : List Nat) (q : List (Option Nat)) (t : Nat) : innerF ((bdK ks ++ zs.map some) ++ q) (bdK ks ++ zs.map some).length t = ((bdK ks).length, t + zs.sum) := by
  rw [innerF_pre _ _ _ _ (Nat.le_refl _)]
  have := innerF_rows (bdK ks) zs.reverse t
  rw [List.reverse_reverse, List.length_reverse, List.sum_reverse] at this
  rw [List.length_append, List.length_map, this, innerF_end]
def keepN (most : Int) : List (List Nat) → Nat → Bool → Nat
  | [], _, _ => 0
  | zs :: r, t, nw => if nw = false ∧ most < ((t + zs.sum : Nat) : Int) then 0 else 1 + keepN most r (t + zs.sum) false
def sumT (r : List (List Nat)) (j : Nat) : Nat := ((r.take j).map List.sum).sum
theorem keepN_eq (most : Int) : ∀ (r : List (List Nat)) (k t : Nat) (nw : Bool), k ≤ r.length → (∀ j, 1 ≤ j → j ≤ k → (nw = true ∧ j = 1) ∨ ((t + sumT r j : Nat) : Int) ≤ most) →
    (k < r.length → ¬ (nw = true ∧ k = 0) ∧ most < ((t + sumT r (k + 1) : Nat) : Int)) → keepN most r t nw = k
  | [], k, t, nw, hk, _, _ => by
    have : k = 0 := by simpa using hk
    subst this; rfl
  | zs :: r, 0, t, nw, _, _, h2 => by
    obtain ⟨a, b⟩ := h2 (by simp)
    unfold keepN
    have e : sumT (zs :: r) (0 + 1) = zs.sum := by simp [sumT]
    rw [e] at b
    rw [if_pos ⟨by cases nw with | false => rfl | true => exact absurd ⟨rfl, rfl⟩ a, b⟩]
  | zs :: r, k + 1, t, nw, hk, h1, h2 => by
    unfold keepN
    have e : ∀ j, sumT (zs :: r) (j + 1) = zs.sum + sumT r j := fun j => by simp [sumT]
    rw [if_neg ?_, keepN_eq most r k (t + zs.sum) false (by simpa using hk) ?_ ?_]
    · omega
    · intro j j1 j2
      rcases h1 (j + 1) (by omega) (by omega) with ⟨_, h⟩ | h
      · omega
      · rw [e, ← Nat.add_assoc] at h; exact .inr h
    · intro hl
      obtain ⟨_, b⟩ := h2 (by simpa using hl)
      rw [e, ← Nat.add_assoc] at b
      exact ⟨by simp, b⟩
    · rintro ⟨a, b⟩
      rcases h1 1 (by omega) (by omega) with ⟨h, _⟩ | h
      · rw [a] at h; cases h
      · rw [show sumT (zs :: r) 1 = zs.sum by simp [sumT]] at h; omega
theorem outerF_groups (most : Int) (q : List (Option Nat)) : ∀ (r : List (List Nat)), (∀ zs ∈ r, 0 < zs.length) → ∀ (q : List (Option Nat)) (fu keep t : Nat) (nw : Bool), r.length < fu →
    outerF (kOf r.reverse ++ q) most fu (kOf r.reverse).length keep t nw = if keepN most r t nw = 0 then keep else (bdK (kOf (r.drop (keepN most r t nw)).reverse)).length
  | [], _, q, fu + 1, keep, t, nw, _ => by
    simp [kOf, outerF, keepN]
  | zs :: r, hne, q, fu + 1, keep, t, nw, hf => by
    have hz := hne zs (.head _)
    have ih := outerF_groups most q r (fun z hz => hne z (.tail _ hz))
    rw [List.reverse_cons, kOf_snoc]
    unfold outerF
    rw [if_neg (by rw [List.length_append, List.length_map]; omega), innerF_group]
    unfold keepN
    by_cases hc : nw = false ∧ most < ((t + zs.sum : Nat) : Int)
    · rw [if_pos hc, if_pos hc, if_pos rfl]
    · rw [if_neg hc, if_neg hc, if_neg (by omega), bdK_pred]
      by_cases hr : r = []
      · subst hr
        have e : ∀ x, outerF x most fu (kOf ([] : List (List Nat)).reverse).length (bdK (kOf ([] : List (List Nat)).reverse)).length (t + zs.sum) false = 0 := by
          intro x
          cases fu with
          | zero => rfl
          | succ fu => simp [kOf, outerF, bdK]
        rw [e]
        simp [keepN, kOf, bdK]
      · have e : bdK (kOf r.reverse) = kOf r.reverse ++ [none] := by
          have : kOf r.reverse ≠ [] := by
            obtain ⟨z, r', rfl⟩ := List.exists_cons_of_ne_nil hr
            rw [List.reverse_cons, kOf_snoc]
            have := hne z (.tail _ (.head _))
            intro h
            have h2 := congrArg List.length h
            rw [List.length_append, List.length_map, List.length_nil] at h2
            omega
          unfold bdK
          rw [if_neg (by rw [List.isEmpty_iff]; exact this)]
        rw [show (bdK (kOf r.reverse) ++ zs.map some) ++ q = kOf r.reverse ++ ([none] ++ zs.map some ++ q) by rw [e]; simp, ih _ fu _ _ false (by simpa using hf)]
        by_cases h0 : keepN most r (t + zs.sum) false = 0
        · rw [if_pos h0, h0]; rfl
        · rw [if_neg h0]
          rw [Nat.add_comm 1]; rfl
end
section
theorem fresh_NPlain2 : True := by
  w_top off
  first | walk1 | skip
  trivial
theorem stripF_none (p : List (Option Nat)) : stripF (p ++ [none]) (p.length + 1) = stripF p p.length := by
  have e : (p ++ [none])[p.length]? = some (none : Option Nat) := by simp
  have pre : ∀ (q : List (Option Nat)) b, b ≤ p.length → stripF (p ++ q) b = stripF p b := by
    intro q b
    induction b with
    | zero => intro _; rfl
    | succ b ih =>
      intro h
      simp only [stripF]
      rw [List.getElem?_append_left (by omega), ih (by omega)]
  rw [show stripF (p ++ [none]) (p.length + 1) = stripF (p ++ [none]) p.length by simp only [stripF, e], pre _ _ (Nat.le_refl _)]
theorem stripF_some (p : List (Option Nat)) (z : Nat) : stripF (p ++ [some z]) (p.length + 1) = p.length + 1 := by
  have e : (p ++ [some z])[p.length]? = some (some z) := by simp
  simp only [stripF, e]
theorem kOf_last {r : List (List Nat)} (hne : ∀ zs ∈ r, 0 < zs.length) (hr : r ≠ []) : ∃ p z, kOf r.reverse = p ++ [some z] := by
  obtain ⟨zs, r', rfl⟩ := List.exists_cons_of_ne_nil hr
  have hz := hne zs (.head _)
  have : zs ≠ [] := by intro h; rw [h] at hz; simp at hz
  obtain ⟨ys, y, rfl⟩ : ∃ ys y, zs = ys ++ [y] := ⟨zs.dropLast, zs.getLast this, (List.dropLast_concat_getLast this).symm⟩
  exact ⟨bdK (kOf r'.reverse) ++ ys.map some, y, by rw [List.reverse_cons, kOf_snoc, List.map_append, List.append_assoc]; rfl⟩
theorem kOf_long : ∀ {r : List (List Nat)}, (∀ zs ∈ r, 0 < zs.length) → r.length ≤ (kOf r.reverse).length
  | [], _ => by simp
  | zs :: r, h => by
    have ih := kOf_long (r := r) fun z hz => h z (.tail _ hz)
    have hz := h zs (.head _)
    have := bdK_pred (kOf r.reverse)
    have h2 : (kOf r.reverse).length ≤ (bdK (kOf r.reverse)).length := by unfold bdK; split <;> simp_all
    rw [List.reverse_cons, kOf_snoc, List.length_append, List.length_map, List.length_cons]
    omega
theorem limF_groups (most : Int) {r : List (List Nat)} (hne : ∀ zs ∈ r, 0 < zs.length) (hr : r ≠ []) {q : List (Option Nat)} (hq : q = [] ∨ q = [none]) :
    limF (kOf r.reverse ++ q) most = if keepN most r 0 true = 0 then (kOf r.reverse ++ q).length else (bdK (kOf (r.drop (keepN most r 0 true)).reverse)).length := by
  have hs : stripF (kOf r.reverse ++ q) (kOf r.reverse ++ q).length = (kOf r.reverse).length := by
    obtain ⟨p, z, e⟩ := kOf_last hne hr
    have h1 : stripF (kOf r.reverse) (kOf r.reverse).length = (kOf r.reverse).length := by
      rw [e, List.length_append]; exact stripF_some p z
    rcases hq with rfl | rfl
    · rw [List.append_nil]; exact h1
    · rw [List.length_append]; exact (stripF_none _).trans h1
  unfold limF
  rw [hs]
  exact outerF_groups most [] r hne q _ _ 0 true (by have := kOf_long hne; omega)
theorem bdOf_app {x y : List Value} (h : y ≠ []) : bdOf (x ++ y) = x ++ bdOf y := by
  unfold bdOf
  rw [if_neg (by simp [h]), if_neg (by simp [h]), List.append_assoc]
theorem rowsOf_ne {b : List (List Value)} (hb : b ≠ []) (h : ∀ g ∈ b, 0 < g.length) : rowsOf b ≠ [] := by
  obtain ⟨b', g, rfl⟩ : ∃ b' g, b = b' ++ [g] := ⟨b.dropLast, b.getLast hb, (List.dropLast_concat_getLast hb).symm⟩
  rw [rowsOf_snoc]
  have := h g (by simp)
  intro e
  have := congrArg List.length e
  rw [List.length_append, List.length_nil] at this
  omega
theorem rowsOf_app (a : List (List Value)) : ∀ (r : List (List Value)), r ≠ [] → (∀ g ∈ r, 0 < g.length) → rowsOf (a ++ r.reverse) = bdOf (rowsOf a) ++ rowsOf r.reverse
  | [], h, _ => absurd rfl h
  | g :: r, _, h => by
    rw [List.reverse_cons]
    by_cases hb : r = []
    · subst hb
      rw [List.reverse_nil, List.nil_append, rowsOf_snoc]
      rfl
    · have h' : ∀ g ∈ r, 0 < g.length := fun g hg => h g (.tail _ hg)
      have h2 : rowsOf r.reverse ≠ [] := rowsOf_ne (by simpa using hb) (fun g hg => h' g (by simpa using hg))
      rw [← List.append_assoc, rowsOf_snoc, rowsOf_app a r hb h', rowsOf_snoc, bdOf_app h2, List.append_assoc]
theorem rowsOf_app' (a b : List (List Value)) (hb : b ≠ []) (h : ∀ g ∈ b, 0 < g.length) : rowsOf (a ++ b) = bdOf (rowsOf a) ++ rowsOf b := by
  have := rowsOf_app a b.reverse (by simpa using hb) (fun g hg => h g (by simpa using hg))
  rwa [List.reverse_reverse] at this
end
section
theorem fresh_NPlain3 : True := by
  w_top off
  first | walk1 | skip
  trivial
theorem bdK_app {x y : List (Option Nat)} (h : y ≠ []) : bdK (x ++ y) = x ++ bdK y := by
  unfold bdK
  rw [if_neg (by simp [h]), if_neg (by simp [h]), List.append_assoc]
theorem kOf_ne {r : List (List Nat)} (hr : r ≠ []) (h : ∀ g ∈ r, 0 < g.length) : kOf r.reverse ≠ [] := by
  obtain ⟨p, z, e⟩ := kOf_last h hr
  rw [e]; simp
theorem kOf_app (a : List (List Nat)) : ∀ (r : List (List Nat)), r ≠ [] → (∀ g ∈ r, 0 < g.length) → kOf (a ++ r.reverse) = bdK (kOf a) ++ kOf r.reverse
  | [], h, _ => absurd rfl h
  | g :: r, _, h => by
    rw [List.reverse_cons]
    by_cases hb : r = []
    · subst hb
      rw [List.reverse_nil, List.nil_append, kOf_snoc]
      rfl
    · have h' : ∀ g ∈ r, 0 < g.length := fun g hg => h g (.tail _ hg)
      rw [← List.append_assoc, kOf_snoc, kOf_app a r hb h', kOf_snoc, bdK_app (kOf_ne hb h'), List.append_assoc]
theorem MixIn.bdOf {news : List (Addr × Obj)} {lim : Int} {vs : List Value} {ks : List (Option Nat)} (h : MixIn news lim vs ks) : MixIn news lim (Mine.bdOf vs) (bdK ks) := by
  unfold Mine.bdOf bdK
  have hl := h.length
  cases vs with
  | nil =>
    have : ks = [] := by simpa using hl.symm
    subst this
    exact .nil
  | cons v vs =>
    cases ks with
    | nil => simp at hl
    | cons k ks => exact h.append (.bd .nil)
theorem MixIn.drop {news : List (Addr × Obj)} {lim : Int} {vs : List Value} {ks : List (Option Nat)} (h : MixIn news lim vs ks) : ∀ i, MixIn news lim (vs.drop i) (ks.drop i) := by
  induction h with
  | nil => intro i; simpa using MixIn.nil
  | bd h ih =>
    intro i
    cases i with
    | zero => exact .bd h
    | succ i => exact ih i
  | row r h ih =>
    intro i
    cases i with
    | zero => exact .row r h
    | succ i => exact ih i
theorem mix_groups {news : List (Addr × Obj)} {lim : Int} {gvs : List Value} {gss : List (List Value × List Nat)} (r : GroupsIn news lim gvs gss) : ∀ i, i ≤ gss.length → MixIn news lim (rowsOf ((gss.take i).map (·.1))) (kOf ((gss.take i).map (·.2)))
  | 0, _ => by simpa [rowsOf, kOf] using MixIn.nil
  | i + 1, hi => by
    have hl := r.length
    obtain ⟨ga, n, vs, zs, _, hg, _, rr, _, _⟩ := r.get i (gvs[i]'(by omega)) (by simp)
    rw [rowsOf_take hg, List.take_add_one, hg, List.map_append]
    show MixIn _ _ _ (kOf (_ ++ [zs]))
    rw [kOf_snoc]
    exact (mix_groups r i (by omega)).bdOf.append (MixIn.rows rr)
theorem sumZ_eq (zs : List Nat) : sumZ zs = (zs.sum : Int) := by
  unfold sumZ
  induction zs with
  | nil => rfl
  | cons z zs ih => rw [List.map_cons, List.sum_cons, List.sum_cons, ih]; push_cast; rfl
theorem sums_cast (l : List (List Value × List Nat)) : (((((l.map (·.2)).map List.sum).sum : Nat)) : Int) = (l.map fun g => sumZ g.2).sum := by
  induction l with
  | nil => rfl
  | cons g l ih => rw [List.map_cons, List.map_cons, List.map_cons, List.sum_cons, List.sum_cons, ← ih, sumZ_eq]; push_cast; rfl
theorem sumT_kept (gss : List (List Value × List Nat)) (j : Nat) : ((sumT (gss.map (·.2)).reverse j : Nat) : Int) = keptSz gss j := by
  unfold sumT keptSz
  rw [List.take_reverse, List.map_reverse, List.sum_reverse, List.length_map, ← List.map_drop, sums_cast]
theorem sumT_mono : ∀ (r : List (List Nat)) (j k : Nat), j ≤ k → sumT r j ≤ sumT r k
  | [], _, _, _ => by simp [sumT]
  | zs :: r, 0, _, _ => by simp [sumT]
  | zs :: r, j + 1, k + 1, h => by
    have := sumT_mono r j k (by omega)
    simp only [sumT, List.take_succ_cons, List.map_cons, List.sum_cons] at this ⊢
    omega
theorem sumT_take (r : List (List Nat)) (j k : Nat) (h : j ≤ k) : sumT (r.take k) j = sumT r j := by
  unfold sumT
  rw [List.take_take, Nat.min_eq_left h]
end
section
theorem fresh_NPlain4 : True := by
  w_top off
  first | walk1 | skip
  trivial
theorem GroupsIn.pos {news : List (Addr × Obj)} {lim : Int} {gvs : List Value} {gss : List (List Value × List Nat)} (r : GroupsIn news lim gvs gss) : (∀ g ∈ gss.map (·.1), 0 < g.length) ∧ ∀ g ∈ gss.map (·.2), 0 < g.length := by
  induction r with
  | nil => exact ⟨by simp, by simp⟩
  | cons hm rr h1 h3 _ ih =>
    have := rr.length
    refine ⟨?_, ?_⟩
    · intro g hg
      rcases List.mem_cons.mp hg with rfl | hg
      · exact h1
      · exact ih.1 g hg
    · intro g hg
      rcases List.mem_cons.mp hg with rfl | hg
      · show 0 < _; omega
      · exact ih.2 g hg
theorem keepN_kept {gss : List (List Value × List Nat)} {most : Int} {k : Nat} (hk : KeptOk gss most k) (hn : gss ≠ []) : keepN most (gss.map (·.2)).reverse 0 true = k ∧ keepN most ((gss.map (·.2)).reverse.take k) 0 true = k ∧ 0 < k := by
  obtain ⟨a, b, c, d⟩ := hk
  have hp : 0 < gss.length := List.length_pos_iff.mpr hn
  have hk0 : 0 < k := by
    rcases Nat.eq_zero_or_pos k with h | h
    · have := b h; omega
    · exact h
  have cond : ∀ j, 1 ≤ j → j ≤ k → (true = true ∧ j = 1) ∨ ((0 + sumT (gss.map (·.2)).reverse j : Nat) : Int) ≤ most := by
    intro j j1 j2
    by_cases h1 : j = 1
    · exact .inl ⟨rfl, h1⟩
    · right
      have h2 := c (by omega)
      rw [← sumT_kept] at h2
      have := sumT_mono (gss.map (·.2)).reverse j k j2
      rw [Nat.zero_add]
      omega
  refine ⟨keepN_eq most _ k 0 true (by simpa using a) cond ?_, keepN_eq most _ k 0 true (by simp; omega) ?_ ?_, hk0⟩
  · intro h
    refine ⟨by omega, ?_⟩
    have := d (by simpa using h)
    rw [← sumT_kept] at this
    rw [Nat.zero_add]
    exact this
  · intro j j1 j2
    rw [sumT_take _ _ _ j2]
    exact cond j j1 j2
  · intro h
    simp at h
    omega
theorem plain_all {tl : List (Addr × Obj)} {lim most : Int} {gvs rs : List Value} {gss : List (List Value × List Nat)} {k : Nat} (r : GroupsIn tl lim gvs gss) (hk : KeptOk gss most k) (hrs : rs = rowsOf (gss.map (·.1)) ∨ rs = bdOf (rowsOf (gss.map (·.1)))) :
    ∃ ks, MixIn tl lim rs ks ∧ limF ks most ≤ rs.length ∧ ((rs.drop (limF ks most)).filter fun v => !isBd v) = (rowsOf ((gss.drop (gss.length - k)).map (·.1))).filter (fun v => !isBd v) ∧
      (0 < k → (rs.drop (limF ks most)).take (rowsOf ((gss.drop (gss.length - k)).map (·.1))).length = rowsOf ((gss.drop (gss.length - k)).map (·.1))) ∧ (0 < k → limF (ks.drop (limF ks most)) most = 0) := by
  by_cases hn : gss = []
  · subst hn
    have hk0 : k = 0 := by have := hk.1; simpa using this
    subst hk0
    have : rs = [] := by
      rcases hrs with h | h
      · exact h
      · exact h
    subst this
    exact ⟨[], .nil, Nat.le_refl 0, by simp [rowsOf], by omega, by omega⟩
  · obtain ⟨c1, c2, hk0⟩ := keepN_kept hk hn
    have hkl := hk.1
    obtain ⟨p1, p2⟩ := r.pos
    have hq : ∃ (qv : List Value) (q : List (Option Nat)), rs = rowsOf (gss.map (·.1)) ++ qv ∧ MixIn tl lim rs (kOf (gss.map (·.2)) ++ q) ∧ (q = [] ∨ q = [none]) ∧ qv.filter (fun v => !isBd v) = [] := by
      have M := mix_groups r gss.length (Nat.le_refl _)
      rw [List.take_length] at M
      rcases hrs with rfl | rfl
      · exact ⟨[], [], by simp, by simpa using M, .inl rfl, rfl⟩
      · have hne := rowsOf_ne (b := gss.map (·.1)) (by simpa using hn) p1
        have e : bdOf (rowsOf (gss.map (·.1))) = rowsOf (gss.map (·.1)) ++ [Value.ref 22] := by
          unfold bdOf
          rw [if_neg (by simpa using hne)]
        rw [e]
        exact ⟨[Value.ref 22], [none], rfl, M.append (.bd .nil), .inr rfl, rfl⟩
    obtain ⟨qv, q, e1, M, e2, e3⟩ := hq
    have hr : (gss.map (·.2)).reverse ≠ [] := by simpa using hn
    have p2r : ∀ zs ∈ (gss.map (·.2)).reverse, 0 < zs.length := fun zs hz => p2 zs (by simpa using hz)
    have hl := limF_groups most p2r hr e2
    rw [List.reverse_reverse, c1, if_neg (by omega), List.drop_reverse, List.reverse_reverse, List.length_map] at hl
    -- the split
    have hold := mix_groups r (gss.length - k) (by omega)
    have ekl : (bdK (kOf ((gss.take (gss.length - k)).map (·.2)))).length = (bdOf (rowsOf ((gss.take (gss.length - k)).map (·.1)))).length := hold.bdOf.length.symm
    have hd : gss.drop (gss.length - k) ≠ [] := by
      intro h
      have := congrArg List.length h
      simp at this
      omega
    have q1 : ∀ g ∈ (gss.drop (gss.length - k)).map (·.1), 0 < g.length := fun g hg => p1 g (by
      obtain ⟨x, hx, rfl⟩ := List.mem_map.mp hg
      exact List.mem_map_of_mem (List.mem_of_mem_drop hx))
    have q2 : ∀ g ∈ (gss.drop (gss.length - k)).map (·.2), 0 < g.length := fun g hg => p2 g (by
      obtain ⟨x, hx, rfl⟩ := List.mem_map.mp hg
      exact List.mem_map_of_mem (List.mem_of_mem_drop hx))
    have s1 : rowsOf (gss.map (·.1)) = bdOf (rowsOf ((gss.take (gss.length - k)).map (·.1))) ++ rowsOf ((gss.drop (gss.length - k)).map (·.1)) := by
      conv => lhs; rw [← List.take_append_drop (gss.length - k) gss, List.map_append]
      exact rowsOf_app' _ _ (by simpa using hd) q1
    have s2 : kOf (gss.map (·.2)) = bdK (kOf ((gss.take (gss.length - k)).map (·.2))) ++ kOf ((gss.drop (gss.length - k)).map (·.2)) := by
      conv => lhs; rw [← List.take_append_drop (gss.length - k) gss, List.map_append]
      have := kOf_app ((gss.take (gss.length - k)).map (·.2)) ((gss.drop (gss.length - k)).map (·.2)).reverse (by simpa using hd) (fun g hg => q2 g (by simpa using hg))
      rwa [List.reverse_reverse] at this
    rw [← List.map_take] at hl
    have d1 : rs.drop (limF (kOf (gss.map (·.2)) ++ q) most) = rowsOf ((gss.drop (gss.length - k)).map (·.1)) ++ qv := by
      rw [hl, ekl, e1, s1, List.append_assoc, List.drop_left]
    have d2 : (kOf (gss.map (·.2)) ++ q).drop (limF (kOf (gss.map (·.2)) ++ q) most) = kOf ((gss.drop (gss.length - k)).map (·.2)) ++ q := by
      rw [hl, s2, List.append_assoc, List.drop_left]
    refine ⟨kOf (gss.map (·.2)) ++ q, M, ?_, ?_, ?_, ?_⟩
    · rw [hl, ekl, e1, s1, List.append_assoc, List.length_append]; omega
    · rw [d1, List.filter_append, e3, List.append_nil]
    · intro _
      rw [d1, List.take_left]
    · intro _
      rw [d2]
      have h3 := limF_groups most (r := ((gss.drop (gss.length - k)).map (·.2)).reverse) (fun g hg => q2 g (by simpa using hg)) (by simpa using hd) e2
      have e9 : ((gss.drop (gss.length - k)).map (·.2)).reverse = (gss.map (·.2)).reverse.take k := by
        rw [List.take_reverse, List.length_map, List.map_drop]
      rw [List.reverse_reverse] at h3
      rw [h3, e9, c2, if_neg (by omega)]
      have : ((gss.map (·.2)).reverse.take k).drop k = [] := by
        rw [List.drop_eq_nil_iff]; simp; omega
      rw [this]
      rfl
end
section
theorem fresh_NTail : True := by
  w_top off
  first | walk1 | skip
  trivial
def tailSts : List Stmt := lawBody.drop 2
theorem off_of {l : List (Addr × Obj)} {ds : List Nat} (h : ∀ q ∈ l, ∀ b ∈ ds, @Ne Nat q.1 b) : OwnOff l ds := h
theorem chain3 {Hd H R : Nat} (o4 : Hd < H) (o5 : H < R) : ∀ b ∈ [H, Hd, R], b ≤ R := by
  simp only [List.mem_cons, List.mem_nil_iff, or_false]
  rintro b (rfl | rfl | rfl) <;> omega
theorem off_mid {add : List (Addr × Obj)} {H Hd G R2 : Nat} (a : ∀ q ∈ add, @LT.lt Nat _ G q.1) (e1 : H < G) (e2 : Hd < G) (hR : ∀ q ∈ add, @LT.lt Nat _ q.1 R2) : OwnOff add [H, Hd, R2] := by
  intro q hq b hb
  have := a q hq
  simp only [List.mem_cons, List.mem_nil_iff, or_false] at hb
  rcases hb with rfl | rfl | rfl
  · exact Nat.ne_of_gt (by omega)
  · exact Nat.ne_of_gt (by omega)
  · exact Nat.ne_of_lt (hR q hq)
theorem plain_pack {tl : List (Addr × Obj)} {lim most : Int} {gvs rs : List Value} {gss : List (List Value × List Nat)} {k : Nat} (r : GroupsIn tl lim gvs gss) (hk : KeptOk gss most k) (hrs : rs = rowsOf (gss.map (·.1)) ∨ rs = bdOf (rowsOf (gss.map (·.1)))) (h6 : gss.length ≤ 6) :
    ∃ ks ks', MixIn tl lim rs ks ∧ limF ks most ≤ rs.length ∧ ((rs.drop (limF ks most)).filter fun v => !isBd v) = (rowsOf ((gss.drop (gvs.length - k)).map (·.1))).filter (fun v => !isBd v) ∧
      (0 < k → (rs.drop (limF ks most)).take (rowsOf ((gss.drop (gvs.length - k)).map (·.1))).length = rowsOf ((gss.drop (gvs.length - k)).map (·.1))) ∧ (0 < k → limF (ks.drop (limF ks most)) most = 0) ∧
      MixIn tl lim (rowsOf ((gss.drop (gvs.length - k)).map (·.1))) ks' ∧ (rowsOf ((gss.drop (gvs.length - k)).map (·.1))).length < 1000 := by
  have hlen := r.length
  obtain ⟨ks, M, hf, e1, e2, e3⟩ := plain_all r hk hrs
  have Mk := mix_groups (r.drop (gss.length - k)) (gss.drop (gss.length - k)).length (Nat.le_refl _)
  rw [List.take_length] at Mk
  have hkl2 := rowsOf_len (r.drop (gss.length - k)) (gss.drop (gss.length - k)).length (Nat.le_refl _)
  rw [List.take_length] at hkl2
  have hdl : (gss.drop (gss.length - k)).length ≤ 6 := by rw [List.length_drop]; omega
  rw [hlen]
  exact ⟨ks, _, M, hf, e1, e2, e3, Mk, by omega⟩
section
variable {w : World} {p : Program} {loose : List Str} {mean : ExcName → Option Value} {mg mb : Str → Option Value} {g : Heap} {L fa B C D Hd H R G : Nat} {cd : Value} {m : Str → Option Value} {s : Shared} {Q : Flow → Shared → Prop}
  {k1 k2 k3 k4 k5 dk : Tok} {h1 h2 h3 h4 h5 lim : Int} {rn dn bn cn gn : Nat} {bs cs gvs : List Value} {ns ms : List Int} {k : Int} {kt : Tok} {add : List (Addr × Obj)} {gss : List (List Value × List Nat)} {oc : Obj}
theorem law_tail (X : (hd.heap_39 w.params).In g) (T0 : Top p loose mean mg mb g) (F : Fr g L s.heap m)
    (hm1 : m (Str.ofString "deck") = some (.ref D)) (hm2 : m (Str.ofString "history") = some (.ref H)) (hm3 : m (Str.ofString "groups") = some (.ref G))
    (N : News g L s.heap ((D, W.listOf #[.ref B, .ref C, .int k kt] dn) :: (B, W.listOf bs.toArray bn) :: (R, W.listOf (rowsOf (gss.map (·.1))).toArray rn) :: (G, W.listOf gvs.toArray gn) :: (H, instObj 109 Hd) :: (Hd, hisO k1 k2 k3 k4 k5 h1 h2 h3 h4 h5 R 0 dk 5) :: (C, W.listOf cs.toArray cn) :: (add ++ [(L + 1, oc)])))
    (o0 : @Ne Nat (L + 1) B) (o0' : L + 1 < C) (o1 : B < C) (o2 : C < D) (o3 : D < Hd) (o4 : Hd < H) (o5 : H < R) (o6 : R < G) (a2 : ∀ q ∈ add, @LT.lt Nat _ G q.1) (hoc : oc.data = .cell none)
    (hI : IntsAre cs ms) (hms : 0 < ms.length) (hcl : ms.length ≤ 21) (hbI : IntsAre bs ns) (hbl : ns.length ≤ 21) (hgr : GroupsIn add lim gvs gss) (hgl : gss.length ≤ 6) (hrl : (rowsOf (gss.map (·.1))).length ≤ 24) (hlr : LastRow add lim (rowsOf (gss.map (·.1))))
    (ret : ∀ (h' : Heap) (tk' : Nat) (m' : Str → Option Value), Fr g L h' m' → News g L h' [] → Q (.ret (.bool true)) { s with heap := h', toks := tk' }) :
    wpAny (model PW w) (lawA L fa cd) (execs tailSts (lawEnv L fa cd)) Q (fun _ _ => False) s := by
  have K0 : Below callerA g [] g := below_caller g
  have hlen := hgr.length
  have hoff : OwnOff (add ++ [(L + 1, oc)]) [B, C, D, Hd, H, R, G] := off_app (off_gt (chain7 o1 o2 o3 o4 o5 o6) a2) (off_one (chain_low o1 o2 o3 o4 o5 o6 o0 o0'))
  have hlr2 : LastRow (add ++ [(L + 1, oc)]) lim (rowsOf (gss.map (·.1))) := hlr.imp id fun ⟨ys, v, z, e, q⟩ => ⟨ys, v, z, e, q.mono (fun p hp => List.mem_append_left _ hp) (Int.le_refl _)⟩
  show wpAny (model PW w) (lawA L fa cd) (execs (stOf lawBody 2 :: stOf lawBody 3 :: keepW :: stOf lawBody 5 :: stOf lawBody 6 :: rowsFor :: fltIf :: lastSts) (lawEnv L fa cd)) Q (fun _ _ => False) s
  refine wpAny_execs_cons (mid_two X T0 K0 F hm1 hm2 N o1 o2 o3 o4 o5 o6 hoff hI hms hcl hbI hbl (by omega) hlr2 ?_)
  intro hp2 tk2 k' kt' bs' ns' bn' rn' rs F2 hrs N2 ib il
  have hrl2 : rs.length ≤ 25 := by
    rcases hrs with rfl | rfl
    · omega
    · have := bdOf_length (rowsOf (gss.map (·.1))); omega
  refine wpAny_execs_cons (mid_three (s := { s with heap := hp2, toks := tk2 }) X T0 K0 F2 hm1 hm2 hm3 N2 o1 o2 o3 o4 o5 o6 hoff hI hms hcl ib il (Nat.lt_of_le_of_lt hrl2 (by decide)) ?_)
  intro hp3 tk3 bf bfn m3 most mt t0 F3 _ _ hbf _ N3 c1 c2 c3 c4 c5
  have N3' : News g L hp3 ((G, W.listOf gvs.toArray gn) :: ((bf, W.listOf rs.toArray bfn) :: (R, W.listOf rs.toArray rn') :: (H, instObj 109 Hd) :: (Hd, hisO k1 k2 k3 k4 k5 h1 h2 h3 h4 h5 R 0 dk 5) :: (add ++ [(L + 1, oc)]))) := News.pick N3 5 [2, 0, 1, 3, 4]
  refine wpAny_execs_cons (keep_while (s := { s with heap := hp3, toks := tk3 }) X T0 F3 N3' (hgr.mono (fun q hq => .tail _ (.tail _ (.tail _ (.tail _ (List.mem_append_left _ hq))))) (Int.le_refl _)) c2 c5 c3 hgl ?_)
  intro hp4 tk4 m4 kk kkt F4 d1 d2 hkept N4
  obtain ⟨ks, ks', M, hf, e1, e2, e3, Mk, hk2⟩ := plain_pack hgr hkept hrs hgl
  have hk6 : kk ≤ gvs.length := by rw [hlen]; exact hkept.1
  have oH : ∀ b ∈ [H, Hd, R], @LT.lt Nat _ b G := fun b hb => Nat.lt_of_le_of_lt (chain3 o4 o5 b hb) o6
  have N4' : News g L hp4 ((H, instObj 109 Hd) :: (Hd, hisO k1 k2 k3 k4 k5 h1 h2 h3 h4 h5 R 0 dk 5) :: (R, W.listOf rs.toArray rn') :: ((bf, W.listOf rs.toArray bfn) :: (G, W.listOf gvs.toArray gn) :: (add ++ [(L + 1, oc)]))) := News.pick N4 5 [3, 4, 2, 1, 0]
  refine wpAny_execs_cons (st5 (s := { s with heap := hp4, toks := tk4 }) X T0 F4 N4' (M.mono (fun q hq => .tail _ (.tail _ (List.mem_append_left _ hq))) (Int.le_refl _)) (Nat.lt_of_le_of_lt hrl2 (by decide)) o4 o5
    (off_cons (fun b hb => Nat.ne_of_gt (Nat.lt_trans (oH b hb) hbf)) (off_cons (fun b hb => Nat.ne_of_gt (oH b hb)) (off_sub hoff (by simp)))) ((d1 _ (by decide)).trans c1) ((d1 _ (by decide)).trans c3) ?_)
  intro hp5 tk5 m5 gt' dk5 R2 F5 f1 f2 N5 l5
  obtain ⟨_, _, _, l5d⟩ := l5
  have lb := tb_ltOf l5d _ (List.Mem.head _)
  have low : L + 1 < H ∧ L + 1 < Hd ∧ L + 1 < R2 ∧ L + 1 < R ∧ L + 1 < bf ∧ L + 1 < G := by
    have hbf' : G < bf := hbf
    have lb' : bf < R2 := lb
    omega
  have N5' : News g L hp5 ((L + 1, oc) :: ((H, instObj 109 Hd) :: (Hd, hisO k1 k2 k3 k4 k5 h1 h2 h3 h4 h5 R2 (0 + (limF ks most : Int)) dk5 5) :: (R2, W.listOf (rs.drop (limF ks most)).toArray 0) :: (R, W.listOf rs.toArray rn') :: (bf, W.listOf rs.toArray bfn) :: (G, W.listOf gvs.toArray gn) :: add)) := News.rot (pre := [_, _, _, _, _, _]) N5
  refine wpAny_execs_cons (st6 (s := { s with heap := hp5, toks := tk5 }) X T0 F5 N5' hoc
    (off_gt (fun b hb => Nat.le_of_eq (List.mem_singleton.mp hb)) (List.forall_mem_cons.mpr ⟨low.1, List.forall_mem_cons.mpr ⟨low.2.1, List.forall_mem_cons.mpr ⟨low.2.2.1, List.forall_mem_cons.mpr ⟨low.2.2.2.1, List.forall_mem_cons.mpr ⟨low.2.2.2.2.1, List.forall_mem_cons.mpr ⟨low.2.2.2.2.2, fun q hq => Nat.lt_trans low.2.2.2.2.2 (a2 q hq)⟩⟩⟩⟩⟩⟩)) ?_)
  intro hp6 tk6 T oc' F6 hoc' N6 g1 g2
  have b1 : m5 (Str.ofString "groups") = some (.ref G) := (f1 _ (by decide)).trans ((d1 _ (by decide)).trans c2)
  have b2 : m5 (Str.ofString "kept") = some (.int (kk : Int) kkt) := (f1 _ (by decide)).trans d2
  have N6' : News g L hp6 ((L + 1, oc') :: (T, W.listOf #[] 0) :: (G, W.listOf gvs.toArray gn) :: ((H, instObj 109 Hd) :: (Hd, hisO k1 k2 k3 k4 k5 h1 h2 h3 h4 h5 R2 (0 + (limF ks most : Int)) dk5 5) :: (R2, W.listOf (rs.drop (limF ks most)).toArray 0) :: (R, W.listOf rs.toArray rn') :: (bf, W.listOf rs.toArray bfn) :: add)) := News.pick N6 8 [0, 1, 7, 2, 3, 4, 5, 6]
  refine wpAny_execs_cons (rows_for (s := { s with heap := hp6, toks := tk6 }) X T0 F6 N6' hoc' (hgr.mono (fun q hq => .tail _ (.tail _ (.tail _ (.tail _ (.tail _ hq))))) (Int.le_refl _)) (by omega) hgl hk6 g1 (fun q hq => tb_ltOf g2 q (pick_sub (k := 6) [5, 0, 1, 2, 3, 4] q hq)) b1 b2 ?_)
  intro hp7 tk7 m7 n7 F7 i1 N7
  have b3 : m7 (Str.ofString "history") = some (.ref H) := (i1 _ (by decide)).trans ((f1 _ (by decide)).trans ((d1 _ (by decide)).trans c1))
  have b4 : m7 (Str.ofString "kept") = some (.int (kk : Int) kkt) := (i1 _ (by decide)).trans b2
  have hdr : (rs.drop (limF ks most)).length ≤ 25 := by rw [List.length_drop]; omega
  have N7' : News g L hp7 ((H, instObj 109 Hd) :: (Hd, hisO k1 k2 k3 k4 k5 h1 h2 h3 h4 h5 R2 (0 + (limF ks most : Int)) dk5 5) :: (R2, W.listOf (rs.drop (limF ks most)).toArray 0) :: (L + 1, oc') :: (T, W.listOf (rowsOf ((gss.drop (gvs.length - kk)).map (·.1))).toArray n7) :: ((bf, W.listOf rs.toArray bfn) :: add)) := News.pick N7 7 [3, 4, 5, 0, 1]
  refine wpAny_execs_cons (st8 (s := { s with heap := hp7, toks := tk7 }) X T0 F7 N7' hoc' b3 b4 ((M.drop (limF ks most)).mono (fun q hq => .tail _ hq) (Int.le_refl _)) (Mk.mono (fun q hq => .tail _ hq) (Int.le_refl _)) (Nat.lt_of_le_of_lt hdr (by decide)) hk2 e1 (fun h => by rw [Int.toNat_natCast]; exact e2 (by omega)) ?_)
  intro hp8 tk8 F8 N8
  have N8' : News g L hp8 ((H, instObj 109 Hd) :: (Hd, hisO k1 k2 k3 k4 k5 h1 h2 h3 h4 h5 R2 (0 + (limF ks most : Int)) dk5 5) :: (R2, W.listOf (rs.drop (limF ks most)).toArray 0) :: (bf, W.listOf rs.toArray bfn) :: add) := News.pick N8 5 [0, 1, 2]
  refine st9 (s := { s with heap := hp8, toks := tk8 }) (f := limF ks most) (bs := rs) X T0 K0 F8 N8' (M.drop (limF ks most)) (Nat.lt_of_le_of_lt hdr (by decide)) (Nat.lt_of_le_of_lt hrl2 (by decide)) o4 (Nat.lt_trans (Nat.lt_trans (oH H (.head _)) hbf) lb) (Nat.ne_of_gt lb) (Nat.ne_of_lt (Nat.lt_trans (oH H (.head _)) hbf)) (Nat.ne_of_lt (Nat.lt_trans (oH Hd (.tail _ (.head _))) hbf))
    (off_mid a2 (oH H (.head _)) (oH Hd (.tail _ (.head _))) fun q hq => tb_ltOf l5d q (.tail _ (.tail _ (List.mem_append_left _ hq)))) b3
    ((i1 _ (by decide)).trans ((f1 _ (by decide)).trans ((d1 _ (by decide)).trans c3))) b4 ((i1 _ (by decide)).trans ((f1 _ (by decide)).trans ((d1 _ (by decide)).trans c4))) ((i1 _ (by decide)).trans f2) (by rw [List.length_drop]; omega) (Int.zero_add _) (fun h => by rw [e3 (by omega)]; rfl) ?_
  intro h' tk' m' F'
  exact ret h' tk' m' F' (fun _ hq => nomatch hq)
end
end
section
theorem fresh_NComp2 : True := by
  w_top off
  first | walk1 | skip
  trivial
section
variable {prog : Program} {w : World} {A : Around} {E : Value → Shared → Prop} {s : Shared} {env : Env} {g : Heap} {L : Addr} {m : Str → Option Value} {news : List (Addr × Obj)}
theorem comp_pyIterA {yy : Str} {elt : PySem.Expr} {x : Str} {ifs : List PySem.Expr} {scope : Scope} {cl : List (Str × Addr)} {l : Addr} {n : Nat} {vs : List Value} {Q : Flow → Shared → Prop} (p : Value → Bool) (G : Value → Value → Prop)
    (hLe : env.locals = L) (hh : A.handled = none) (F : Fr g L s.heap m) (N : News g L s.heap news) (hl : (l, W.listOf vs.toArray n) ∈ news) (hz : vs.length < 100000)
    (tests : ∀ (C : Addr) (v : Value) (s₃ : Shared) (m₃ : Str → Option Value) (E' : Value → Shared → Prop), v ∈ vs → Fr g L s₃.heap m → News g L s₃.heap news → Fr g C s₃.heap m₃ → News g C s₃.heap news → m₃ x = some v →
      wpAny (model prog w) A (forIn ifs true fun c r => if r = true then do let ok ← PySem.isTrue c (compEnvC scope cl C env) (eval c (compEnvC scope cl C env)); pure (ForInStep.yield ok) else pure (ForInStep.yield r)) (fun ok s₄ => ok = p v ∧ Keeps s₃ s₄) E' s₃)
    (elts : ∀ (C : Addr) (v : Value) (s₃ : Shared) (m₃ : Str → Option Value) (E' : Value → Shared → Prop), v ∈ vs → p v = true → Fr g L s₃.heap m → News g L s₃.heap news → Fr g C s₃.heap m₃ → News g C s₃.heap news → m₃ x = some v →
      wpAny (model prog w) A (eval elt (compEnvC scope cl C env)) (fun y s₄ => G v y ∧ Keeps s₃ s₄) E' s₃)
    (done : ∀ (D : Nat) (h' : Heap) (tk en : Nat) (ys : List Value), Fr g L h' (fun z => if z = yy then some (.ref D) else m z) → News g L h' ((D, W.listOf ys.toArray en) :: news) → (∀ q ∈ news, @Ne Nat q.1 D) → Paired G (vs.filter p) ys → Q .next { s with heap := h', toks := tk }) :
    wpAny (model prog w) A (pyIter (.ref l)) (fun it s₂ => ∃ I fp wr n P St m, it = .ref I ∧ Walks prog w A I fp wr n P St ∧ n ≤ sizeLine ∧ St 0 s₂.heap ∧ (∀ b ∈ fp, b < s₂.heap.objs.size) ∧
      env.locals ∉ wr ∧ s₂.heap.Ns env.locals m ∧ QuietOnC prog w A env scope cl x ifs elt wr P p G s₂ ∧
      (∀ D h' tk ys (vs : List Value), s₂.heap.get? D = none → h'.IsList D ys → h'.PlainList D ys → vs.length = n → (∀ j v, vs[j]? = some v → P j v) → Paired G (vs.filter p) ys.toList →
        h'.Ns env.locals (fun z => if z = yy then some (.ref D) else m z) → (∀ b o, b ≠ env.locals → b ∉ wr → s₂.heap.get? b = some o → h'.get? b = some o) → Q .next { s₂ with heap := h', toks := tk })) E s := by
  have hol : s.heap.get? l = some (W.listOf vs.toArray n) := (N _ hl).1
  have hls : s.heap.IsList l vs.toArray := ⟨_, hol, rfl, n, rfl⟩
  have hne : l ≠ s.heap.objs.size := Nat.ne_of_lt (Heap.lt_size hol)
  refine wpAny_pyIter_list hls ?_
  have W := Walks.list (prog := prog) (w := w) hh s.heap.objs.size l hne vs.toArray
  have hlen : vs.toArray.size = vs.length := by simp
  rw [hlen] at W
  have old : ∀ {b o}, s.heap.get? b = some o → b ∉ [s.heap.objs.size] := fun e hm => absurd (Heap.lt_size e) (by rw [List.mem_singleton.mp hm]; exact Nat.lt_irrefl _)
  have frs : ∀ {h : Heap}, (∀ b o, b ∉ [s.heap.objs.size] → (s.heap.push { cls := .type "list_iterator", data := .fields #[.ref l, .int 0 0] }).get? b = some o → h.get? b = some o) → Fr g L h m ∧ News g L h news := fun {h} hk =>
    ⟨⟨F.ns.at' fun o e => hk _ o (old e) (Heap.get?_push_of_some _ e), fun b o e => hk b o (old (F.keep b o e)) (Heap.get?_push_of_some _ (F.keep b o e)), F.above⟩, fun p hp => ⟨hk _ _ (old (N p hp).1) (Heap.get?_push_of_some _ (N p hp).1), (N p hp).2⟩⟩
  have frc : ∀ {h : Heap} {C : Addr} {m₃}, s.heap.objs.size + 1 ≤ C → h.Ns C m₃ → Fr g L h m → News g L h news → Fr g C h m₃ ∧ News g C h news := fun {h C m₃} hC hn F' N' =>
    ⟨⟨hn, F'.keep, Nat.le_trans F.above (Nat.le_of_lt (Nat.lt_of_lt_of_le F.ns.lt (Nat.le_of_succ_le hC)))⟩, fun p hp => ⟨(N' p hp).1, Nat.ne_of_lt (Nat.lt_of_lt_of_le (Heap.lt_size (N p hp).1) (Nat.le_of_succ_le hC)), (N' p hp).2.2⟩⟩
  refine ⟨_, _, _, vs.length, _, _, m, rfl, W, by rw [sizeLine_eq]; omega, ⟨⟨_, Heap.get?_push_size _ rfl, rfl, rfl⟩, hls.at fun o e => Heap.get?_push_of_some _ e⟩, ?_, ?_, hLe ▸ (F.push _).ns, ⟨?_, ?_⟩, ?_⟩
  · intro b hb
    rcases List.mem_cons.mp hb with rfl | hb
    · simp
    · rw [List.mem_singleton.mp hb]; simp; exact Nat.lt_succ_of_lt (Heap.lt_size hol)
  · rw [hLe]
    intro h
    exact absurd F.ns.lt ((List.mem_singleton.mp h) ▸ Nat.lt_irrefl _)
  · intro C i v s₃ m₃ E' hC hv hn hx hk _
    obtain ⟨F3, N3⟩ := frs hk
    obtain ⟨F4, N4⟩ := frc (by simpa using hC) hn F3 N3
    exact tests C v s₃ m₃ E' (by simpa using List.mem_of_getElem? (by simpa using hv)) F3 N3 F4 N4 hx
  · intro C i v s₃ m₃ E' hC hv hp hn hx hk _
    obtain ⟨F3, N3⟩ := frs hk
    obtain ⟨F4, N4⟩ := frc (by simpa using hC) hn F3 N3
    exact elts C v s₃ m₃ E' (by simpa using List.mem_of_getElem? (by simpa using hv)) hp F3 N3 F4 N4 hx
  · intro D h' tk ys vs' hD hL hP hlen' hPv hpair hns hk0
    rw [hLe] at hns hk0
    have hk1 : ∀ b o, b ≠ L → s.heap.get? b = some o → h'.get? b = some o := fun b o hb e => hk0 b o hb (old e) (Heap.get?_push_of_some _ e)
    have F3 : Fr g L h' (fun z => if z = yy then some (.ref D) else m z) := ⟨hns, fun b o e => hk1 b o (Nat.ne_of_lt (Nat.lt_of_lt_of_le (Heap.lt_size e) F.above)) (F.keep b o e), F.above⟩
    have N3 : News g L h' news := fun p hp => ⟨hk1 _ _ (N p hp).2.1 (N p hp).1, (N p hp).2⟩
    have hvs : vs' = vs := by
      apply List.ext_getElem?
      intro j
      by_cases hj : j < vs.length
      · obtain ⟨v, hv⟩ : ∃ v, vs'[j]? = some v := ⟨vs'[j]'(by omega), by simp [hlen', hj]⟩
        have := hPv j v hv
        rw [hv]
        simpa using this.symm
      · rw [List.getElem?_eq_none (by omega), List.getElem?_eq_none (by omega)]
    subst hvs
    obtain ⟨en, hen⟩ := hP
    have hDn : ∀ {b o}, (s.heap.push { cls := .type "list_iterator", data := .fields #[.ref l, .int 0 0] }).get? b = some o → b ≠ D := fun {b o} e q => by
      rw [q, hD] at e; cases e
    refine done D h' tk en ys.toList F3 ?_ (fun q hq => hDn (Heap.get?_push_of_some _ (N q hq).1)) hpair
    intro q hq
    rcases List.mem_cons.mp hq with rfl | hq
    · refine ⟨by simpa using hen, ?_, ?_⟩
      · obtain ⟨oL, _, _, hoL, _⟩ := F.ns
        exact fun e => hDn (Heap.get?_push_of_some _ hoL) e.symm
      · cases e : g.get? D with
        | none => rfl
        | some o => exact absurd rfl (hDn (Heap.get?_push_of_some _ (F.keep _ _ e)))
    · exact N3 q hq
end
end
section
theorem fresh_NDeck1 : True := by
  w_top off
  first | walk1 | skip
  trivial
def deckBody : List Stmt := bodyOf (Str.ofString "_law_deck")
def deckEnv (L : Addr) : Env := envOf (Str.ofString "_law_deck") (scopeOf (Str.ofString "_law_deck")) L 160 (.ref 159)
def deckA (L fa : Addr) (cd : Value) (L2 : Addr) : Around := (lawA L fa cd).deeper (deckEnv L2)
def listE (i : Nat) : PySem.Expr → PySem.Expr
  | .List es _ => es.getD i default
  | _ => default
def asgE : Stmt → PySem.Expr
  | .Assign _ e _ => e
  | _ => default
def absComp : PySem.Expr := asgE (stOf deckBody 0)
def bigComp : PySem.Expr := listE 0 (retE (stOf deckBody 1))
def bigTest : PySem.Expr := (compIfs bigComp).getD 0 default
def isBig : Value → Bool
  | .int n _ => decide ((10 : Int) ^ Int.toNat 18 ≤ n)
  | _ => false
set_option maxRecDepth 100000
section
variable {w : World} {p : Program} {loose : List Str} {mean : ExcName → Option Value} {mg mb : Str → Option Value} {g g2 : Heap} {L L2 fa S C : Nat} {cd : Value} {m m₃ : Str → Option Value} {s : Shared}
  {news : List (Addr × Obj)} {vs : List Value} {ns : List Int} {n : Int} {t : Tok}
set_option maxHeartbeats 1000000 in
theorem abs_elt {Q E : Value → Shared → Prop} (X : (hd.heap_39 w.params).In g2) (T : Top p loose mean mg mb g2) (F : Fr g2 C s.heap m₃) (N : News g2 C s.heap news) (hx : m₃ (Str.ofString "cell") = some (.int n t))
    (ret : ∀ y t' tk', Q (.int y t') { s with toks := tk' }) :
    wpAny (model PW w) (deckA L fa cd L2) (eval (compElt absComp) (compEnvC (compSc absComp) [] C (deckEnv L2))) Q E s := by
  unfold deckA lawA deckEnv
  generalize hsc : scopeOf (Str.ofString "_law_deck") = sc
  conv at hsc => lhs; whnf
  subst hsc
  generalize hbb : compElt absComp = bb
  conv at hbb => lhs; whnf
  subst hbb
  generalize hbc : compSc absComp = bc
  conv at hbc => lhs; whnf
  subst hbc
  repeat' (first | (k_unfold; (try dsimp only)) | (k_end; wrow_close) | ((try dsimp only); first | w_nolog (with_reducible ((with_reducible show wpAny _ _ (eval (PySem.Expr.Name _ _) _) _ _ _); (k_here; k_dflt (first | (refine' nameC_L ?F ?v ?_ ?k ?x ?d; (case F => k_asm); (case k => rfl); (case x => rfl); (case d => decide); (case v => first | (with_reducible assumption) | assumption); k_whole) | (refine' nameC_K ?F ?X ?T ?e ?_ ?k ?x ?d; (case F => k_asm); (case X => k_asm); (case T => k_asm); (case k => rfl); (case x => rfl); (case d => decide); (case e => k_is); k_whole) | (refine' nameC_B ?F ?X ?T ?e ?v ?n ?_ ?k ?x ?d; (case F => k_asm); (case X => k_asm); (case T => k_asm); (case k => rfl); (case x => rfl); (case d => decide); (case e => k_is); (case v => boot_fast); (case n => decide); k_whole))))) | w_nolog (with_reducible (k_here; (with_reducible show wpAny _ _ (pyIter (Value.ref _)) (fun _ _ => LoopAtV _ _ _ _ _ _ _ _ _ _ _) _ _); (rename IsRange _ _ _ _ _ _ _ _ => hR9); k_dflt (refine' again_use ?X ?T ?F ?N hR9 ?b0 ?b3 ?m1 ?m2 ?m3 ?m4 ?m5 ?D ?B ?R ?H ?Hd ?C ?dr ?G ?sub ?o1 ?o2 ?o3 ?o4 ?o5 ?off ?I ?ms ?cl ?bI ?bl ?hz ?hl ?_; (case X => k_asm); (case T => k_asm); (case F => k_asm); (case N => k_asm); (case b0 => omega); (case b3 => omega); (case m1 => (first | (with_reducible assumption) | assumption)); (case m2 => (first | (with_reducible assumption) | assumption)); (case m3 => (first | (with_reducible assumption) | assumption)); (case m4 => (first | (with_reducible assumption) | assumption)); (case m5 => first | exact rfl | (first | (with_reducible assumption) | assumption)); (case D => k_mem); (case B => k_mem); (case H => k_mem); (case Hd => k_mem); (case R => k_mem); (case C => k_mem); (case o1 => assumption); (case o2 => assumption); (case o3 => assumption); (case o4 => assumption); (case o5 => assumption); (case off => assumption); (case dr => (repeat' (first | exact Drop.nil | (refine' Drop.hit ?dh9 ?_; (case dh9 => (repeat' (first | exact List.Mem.head _ | refine List.Mem.tail _ ?_)))) | (refine' Drop.keep ?dh9 ?_; (case dh9 => (repeat' (first | exact List.forall_mem_nil _ | refine List.forall_mem_cons.mpr ⟨by k_ne, ?_⟩)))) | exact Drop.tl (by (refine' off_sub ?oh9 ?os9; (case oh9 => assumption); (case os9 => (repeat' (first | exact List.forall_mem_nil _ | refine List.forall_mem_cons.mpr ⟨by (repeat' (first | exact List.Mem.head _ | refine List.Mem.tail _ ?_)), ?_⟩)))))))); (case G => k_mem); (case sub => (intro p9 hp9; (repeat' (first | assumption | refine List.Mem.tail _ ?_)))); (case I => assumption); (case ms => assumption); (case cl => assumption); (case bI => assumption); (case bl => assumption); (case hz => omega); (case hl => exact BdEnd.last (by assumption)); k_whole); intro h' tk' m' add' vs' zs' k' kt' att' bs' ns' bn' rn' F' hm' hat' N' ib' il' rw' v0' v3' vz' oa' a1' a2' a3' n1' n2' n3' n4'; (try simp only [List.cons_append, List.nil_append] at N'); (try k_sweep))) | walk1) | walk1 | (leave1; walk_say "STEP leave1"; try dsimp only) | fail "no step")
  all_goals (try k_data)
  all_goals first | exact ret _ _ _ | skip
set_option maxHeartbeats 1000000 in
theorem big_test {Q : Bool → Shared → Prop} {E : Value → Shared → Prop} (X : (hd.heap_39 w.params).In g2) (T : Top p loose mean mg mb g2) (F : Fr g2 C s.heap m₃) (N : News g2 C s.heap news) (hx : m₃ (Str.ofString "cell") = some (.int n t))
    (ret : ∀ tk' b, b = isBig (.int n t) → Q b { s with toks := tk' }) :
    wpAny (model PW w) (deckA L fa cd L2) (PySem.isTrue bigTest (compEnvC (compSc bigComp) [] C (deckEnv L2)) (eval bigTest (compEnvC (compSc bigComp) [] C (deckEnv L2)))) Q E s := by
  unfold deckA lawA deckEnv
  generalize hsc : scopeOf (Str.ofString "_law_deck") = sc
  conv at hsc => lhs; whnf
  subst hsc
  generalize hbb : bigTest = bb
  conv at hbb => lhs; whnf
  subst hbb
  generalize hbc : compSc bigComp = bc
  conv at hbc => lhs; whnf
  subst hbc
  repeat' (first | (k_unfold; (try dsimp only)) | (k_end; wrow_close) | ((try dsimp only); first | w_nolog (with_reducible ((with_reducible show wpAny _ _ (eval (PySem.Expr.Name _ _) _) _ _ _); (k_here; k_dflt (first | (refine' nameC_L ?F ?v ?_ ?k ?x ?d; (case F => k_asm); (case k => rfl); (case x => rfl); (case d => decide); (case v => first | (with_reducible assumption) | assumption); k_whole) | (refine' nameC_K ?F ?X ?T ?e ?_ ?k ?x ?d; (case F => k_asm); (case X => k_asm); (case T => k_asm); (case k => rfl); (case x => rfl); (case d => decide); (case e => k_is); k_whole) | (refine' nameC_B ?F ?X ?T ?e ?v ?n ?_ ?k ?x ?d; (case F => k_asm); (case X => k_asm); (case T => k_asm); (case k => rfl); (case x => rfl); (case d => decide); (case e => k_is); (case v => boot_fast); (case n => decide); k_whole))))) | w_nolog (with_reducible (k_here; (with_reducible show wpAny _ _ (pyIter (Value.ref _)) (fun _ _ => LoopAtV _ _ _ _ _ _ _ _ _ _ _) _ _); (rename IsRange _ _ _ _ _ _ _ _ => hR9); k_dflt (refine' again_use ?X ?T ?F ?N hR9 ?b0 ?b3 ?m1 ?m2 ?m3 ?m4 ?m5 ?D ?B ?R ?H ?Hd ?C ?dr ?G ?sub ?o1 ?o2 ?o3 ?o4 ?o5 ?off ?I ?ms ?cl ?bI ?bl ?hz ?hl ?_; (case X => k_asm); (case T => k_asm); (case F => k_asm); (case N => k_asm); (case b0 => omega); (case b3 => omega); (case m1 => (first | (with_reducible assumption) | assumption)); (case m2 => (first | (with_reducible assumption) | assumption)); (case m3 => (first | (with_reducible assumption) | assumption)); (case m4 => (first | (with_reducible assumption) | assumption)); (case m5 => first | exact rfl | (first | (with_reducible assumption) | assumption)); (case D => k_mem); (case B => k_mem); (case H => k_mem); (case Hd => k_mem); (case R => k_mem); (case C => k_mem); (case o1 => assumption); (case o2 => assumption); (case o3 => assumption); (case o4 => assumption); (case o5 => assumption); (case off => assumption); (case dr => (repeat' (first | exact Drop.nil | (refine' Drop.hit ?dh9 ?_; (case dh9 => (repeat' (first | exact List.Mem.head _ | refine List.Mem.tail _ ?_)))) | (refine' Drop.keep ?dh9 ?_; (case dh9 => (repeat' (first | exact List.forall_mem_nil _ | refine List.forall_mem_cons.mpr ⟨by k_ne, ?_⟩)))) | exact Drop.tl (by (refine' off_sub ?oh9 ?os9; (case oh9 => assumption); (case os9 => (repeat' (first | exact List.forall_mem_nil _ | refine List.forall_mem_cons.mpr ⟨by (repeat' (first | exact List.Mem.head _ | refine List.Mem.tail _ ?_)), ?_⟩)))))))); (case G => k_mem); (case sub => (intro p9 hp9; (repeat' (first | assumption | refine List.Mem.tail _ ?_)))); (case I => assumption); (case ms => assumption); (case cl => assumption); (case bI => assumption); (case bl => assumption); (case hz => omega); (case hl => exact BdEnd.last (by assumption)); k_whole); intro h' tk' m' add' vs' zs' k' kt' att' bs' ns' bn' rn' F' hm' hat' N' ib' il' rw' v0' v3' vz' oa' a1' a2' a3' n1' n2' n3' n4'; (try simp only [List.cons_append, List.nil_append] at N'); (try k_sweep))) | walk1) | walk1 | (leave1; walk_say "STEP leave1"; try dsimp only) | fail "no step")
  all_goals (try k_data)
  exact ret _ _ rfl
end
end
section
theorem fresh_NDeck2 : True := by
  w_top off
  first | walk1 | skip
  trivial
theorem IntsAre.mem {vs : List Value} {ns : List Int} (h : IntsAre vs ns) : ∀ v ∈ vs, ∃ n t, v = .int n t := by
  induction h with
  | nil => intro v hv; cases hv
  | cons _ _ _ ih =>
    intro v hv
    rcases List.mem_cons.mp hv with rfl | hv
    · exact ⟨_, _, rfl⟩
    · exact ih v hv
theorem ints_of : ∀ {vs : List Value}, (∀ v ∈ vs, ∃ n t, v = .int n t) → ∃ ns, IntsAre vs ns ∧ ns.length = vs.length
  | [], _ => ⟨[], .nil, rfl⟩
  | v :: vs, h => by
    obtain ⟨n, t, rfl⟩ := h v (.head _)
    obtain ⟨ns, hi, hl⟩ := ints_of (vs := vs) fun v hv => h v (.tail _ hv)
    exact ⟨n :: ns, .cons _ _ hi, by simp [hl]⟩
theorem paired_ints {vs ys : List Value} (h : Paired (fun _ y => ∃ n t, y = Value.int n t) vs ys) : (∀ y ∈ ys, ∃ n t, y = Value.int n t) ∧ ys.length = vs.length := by
  induction h with
  | nil => exact ⟨by simp, rfl⟩
  | cons e _ ih =>
    refine ⟨?_, by simp [ih.2]⟩
    intro y hy
    rcases List.mem_cons.mp hy with rfl | hy
    · exact e
    · exact ih.1 y hy
section
variable {prog : Program} {w : World} {A : Around} {h₀ : Heap} {L : Addr} {m : Str → Option Value} {news : List (Addr × Obj)} {value slice : PySem.Expr} {vs : List Value} {y : Int} {Q : Value → Shared → Prop} {E : Value → Shared → Prop} {t : Tok} {D : Nat}
theorem slice_base {hp : Heap} {gg : Array GenState} {dr : Drawn} {tk : Nat} {os : OsState} (F : Fr h₀ L hp m) (N : News h₀ L hp news) (hm : h₀.IsList D vs.toArray) (hx : 0 ≤ y) (hz : vs.length < 100000)
    (h : ∀ (D' : Nat) h', Fr h₀ L h' m → News h₀ L h' ((D', W.listOf (vs.take y.toNat).toArray 0) :: news) → (∀ p ∈ news, p.1 < D') → Q (.ref D') ⟨h', gg, dr, tk, os⟩)
    (hs : subscripted slice false (.ref D) (.ref hp.objs.size) = operate [.ref hp.objs.size, .ref D] (getItem (.ref D) (.ref hp.objs.size))) (ht : ∀ r, letTemporaryGo value (.ref D) r = pure ()) :
    wpAny (model prog w) A (subscriptTail value slice (.ref D) (.ref hp.objs.size)) Q E ⟨hp.push { cls := .type "slice", data := .fields #[.none, .int y t, .none] }, gg, dr, tk, os⟩ := by
  refine kmk_slice (s := ⟨hp, gg, dr, tk, os⟩) F N (stays_list F.keep hm) .none (.int y t) (fun D' h' F' N' l => h D' h' F' ?_ l) hs ht (by rw [sizeLine_eq]; simp; omega)
  rw [pick_upto hx] at N'
  exact N'
end
set_option maxRecDepth 100000
section
variable {w : World} {p : Program} {loose : List Str} {mean : ExcName → Option Value} {mg mb : Str → Option Value} {g g2 : Heap} {L L2 fa S Ca cn : Nat} {cd : Value} {m : Str → Option Value} {s : Shared}
  {news : List (Addr × Obj)} {vs cs : List Value} {ns ms : List Int} {Q E : Value → Shared → Prop}
set_option maxHeartbeats 1000000 in
theorem abs_iter (X : (hd.heap_39 w.params).In g2) (T : Top p loose mean mg mb g2) (F : Fr g2 L2 s.heap m) (N : News g2 L2 s.heap news) (hL : g2.IsList S vs.toArray) (hn : vs.length ≤ 63) (hm : m (Str.ofString "script") = some (.ref S))
    (ret : ∀ (D : Nat) h' tk, Fr g2 L2 h' m → News g2 L2 h' ((D, W.listOf (vs.take 20).toArray 0) :: news) → Q (.ref D) { s with heap := h', toks := tk }) :
    wpAny (model PW w) (deckA L fa cd L2) (eval (compIt absComp) (deckEnv L2)) Q E s := by
  unfold deckA lawA deckEnv
  generalize hsc : scopeOf (Str.ofString "_law_deck") = sc
  conv at hsc => lhs; whnf
  subst hsc
  generalize hbb : compIt absComp = bb
  conv at hbb => lhs; whnf
  subst hbb
  repeat' (first | (k_unfold; (try dsimp only)) | (k_end; wrow_close) | ((try dsimp only); first | w_nolog (with_reducible (k_here; (with_reducible show wpAny _ _ (subscriptTail _ (PySem.Expr.Slice _ _ _ _) (Value.ref _) (Value.ref _)) _ _ _); k_dflt (refine' slice_base ?F ?N ?m ?x ?z ?_ ?s ?t; (case F => k_asm); (case N => k_asm); (case m => assumption); (case x => omega); (case z => omega); (case s => with_unfolding_all rfl); (case t => kmk_pure)); intro D' h' F' N' l1; (try k_lt l1); (try k_sweep))) | w_nolog (with_reducible ((with_reducible show wpAny _ _ (eval (PySem.Expr.Name _ _) _) _ _ _); (k_here; k_dflt (refine' nameX_L ?F ?v ?_ ?a ?b ?c; (case F => k_asm); (case a => rfl); (case b => rfl); (case c => decide); (case v => first | (with_reducible assumption) | assumption); k_whole)))) | w_nolog (with_reducible (k_here; (with_reducible show wpAny _ _ (pyIter (Value.ref _)) (fun _ _ => LoopAtV _ _ _ _ _ _ _ _ _ _ _) _ _); (rename IsRange _ _ _ _ _ _ _ _ => hR9); k_dflt (refine' again_use ?X ?T ?F ?N hR9 ?b0 ?b3 ?m1 ?m2 ?m3 ?m4 ?m5 ?D ?B ?R ?H ?Hd ?C ?dr ?G ?sub ?o1 ?o2 ?o3 ?o4 ?o5 ?off ?I ?ms ?cl ?bI ?bl ?hz ?hl ?_; (case X => k_asm); (case T => k_asm); (case F => k_asm); (case N => k_asm); (case b0 => omega); (case b3 => omega); (case m1 => (first | (with_reducible assumption) | assumption)); (case m2 => (first | (with_reducible assumption) | assumption)); (case m3 => (first | (with_reducible assumption) | assumption)); (case m4 => (first | (with_reducible assumption) | assumption)); (case m5 => first | exact rfl | (first | (with_reducible assumption) | assumption)); (case D => k_mem); (case B => k_mem); (case H => k_mem); (case Hd => k_mem); (case R => k_mem); (case C => k_mem); (case o1 => assumption); (case o2 => assumption); (case o3 => assumption); (case o4 => assumption); (case o5 => assumption); (case off => assumption); (case dr => (repeat' (first | exact Drop.nil | (refine' Drop.hit ?dh9 ?_; (case dh9 => (repeat' (first | exact List.Mem.head _ | refine List.Mem.tail _ ?_)))) | (refine' Drop.keep ?dh9 ?_; (case dh9 => (repeat' (first | exact List.forall_mem_nil _ | refine List.forall_mem_cons.mpr ⟨by k_ne, ?_⟩)))) | exact Drop.tl (by (refine' off_sub ?oh9 ?os9; (case oh9 => assumption); (case os9 => (repeat' (first | exact List.forall_mem_nil _ | refine List.forall_mem_cons.mpr ⟨by (repeat' (first | exact List.Mem.head _ | refine List.Mem.tail _ ?_)), ?_⟩)))))))); (case G => k_mem); (case sub => (intro p9 hp9; (repeat' (first | assumption | refine List.Mem.tail _ ?_)))); (case I => assumption); (case ms => assumption); (case cl => assumption); (case bI => assumption); (case bl => assumption); (case hz => omega); (case hl => exact BdEnd.last (by assumption)); k_whole); intro h' tk' m' add' vs' zs' k' kt' att' bs' ns' bn' rn' F' hm' hat' N' ib' il' rw' v0' v3' vz' oa' a1' a2' a3' n1' n2' n3' n4'; (try simp only [List.cons_append, List.nil_append] at N'); (try k_sweep))) | walk1) | walk1 | (leave1; walk_say "STEP leave1"; try dsimp only) | fail "no step")
  all_goals (try k_data)
  rename Fr _ _ _ _ => kF
  rename News _ _ _ _ => kN
  try rw [pick_upto (y := 20) (by decide)] at kN
  exact ret _ _ _ kF kN
theorem abs_assign {Q : Flow → Shared → Prop} (X : (hd.heap_39 w.params).In g2) (T : Top p loose mean mg mb g2) (F : Fr g2 L2 s.heap m) (N : News g2 L2 s.heap news) (hL : g2.IsList S vs.toArray) (hI : IntsAre vs ns) (hn : ns.length ≤ 63) (hm : m (Str.ofString "script") = some (.ref S))
    (ret : ∀ (D : Nat) h' tk en ys ms, Fr g2 L2 h' (fun z => if z = Str.ofString "cells" then some (.ref D) else m z) → News g2 L2 h' ((D, W.listOf ys.toArray en) :: news) → IntsAre ys ms → ms.length ≤ 20 → Q .next { s with heap := h', toks := tk }) :
    wpAny (model PW w) (deckA L fa cd L2) (exec (stOf deckBody 0) (deckEnv L2)) Q E s := by
  have hvl := hI.length
  have it := fun {Q : Value → Shared → Prop} ret => abs_iter (E := E) (Q := Q) X T (L := L) (fa := fa) (cd := cd) F N hL (by omega) hm ret
  have tests : ∀ (C : Addr) (v : Value) (s₃ : Shared) (m₃ : Str → Option Value) (E' : Value → Shared → Prop), wpAny (model PW w) (deckA L fa cd L2) (forIn ([] : List PySem.Expr) true fun c r => if r = true then do let ok ← PySem.isTrue c (compEnvC (compSc absComp) [] C (deckEnv L2)) (eval c (compEnvC (compSc absComp) [] C (deckEnv L2))); pure (ForInStep.yield ok) else pure (ForInStep.yield r)) (fun ok s₄ => ok = (fun _ => true) v ∧ Keeps s₃ s₄) E' s₃ :=
    fun C v s₃ m₃ E' => wpAny_pure ⟨rfl, ⟨s₃.heap, s₃.toks, rfl, fun _ _ e => e⟩⟩
  have elts : ∀ (D C : Addr) (v : Value) (s₃ : Shared) (m₃ : Str → Option Value) (E' : Value → Shared → Prop), v ∈ vs.take 20 → Fr g2 C s₃.heap m₃ → News g2 C s₃.heap ((D, W.listOf (vs.take 20).toArray 0) :: news) → m₃ (Str.ofString "cell") = some v →
      wpAny (model PW w) (deckA L fa cd L2) (eval (compElt absComp) (compEnvC (compSc absComp) [] C (deckEnv L2))) (fun y s₄ => (∃ n t, y = Value.int n t) ∧ Keeps s₃ s₄) E' s₃ := by
    intro D C v s₃ m₃ E' hv F4 N4 hx
    obtain ⟨n, t, rfl⟩ := IntsAre.mem hI v (List.mem_of_mem_take hv)
    exact abs_elt X T F4 N4 hx fun y t' tk' => ⟨⟨_, _, rfl⟩, Keeps.toks⟩
  unfold deckEnv at *
  generalize hsc : scopeOf (Str.ofString "_law_deck") = sc at *
  conv at hsc => lhs; whnf
  subst hsc
  generalize hb2 : stOf deckBody 0 = bb2
  conv at hb2 => lhs; whnf
  subst hb2
  refine wpAny_Assign_ListComp_free (cl := []) (fun _ => true) (fun _ y => ∃ n t, y = Value.int n t) ?_ ?_ ?_ ?_ ?_ ?_ ?_ ?_ ?_ ?_
  · rfl
  · exact closureFor_none (by decide)
  · decide
  · rfl
  · decide
  · rfl
  · rfl
  · rfl
  · refine it fun D' h' tk' F' N' => ?_
    refine comp_pyIterA (fun _ => true) (fun _ y => ∃ n t, y = Value.int n t) rfl rfl F' N' (.head _) (by rw [List.length_take]; omega) (fun C v s₃ m₃ E' _ _ _ _ _ _ => tests C v s₃ m₃ E')
      (fun C v s₃ m₃ E' hv _ F3 N3 F4 N4 hx => elts D' C v s₃ m₃ E' hv F4 N4 hx) fun D2 h2' tk2 en ys F2 N2 hne hp => ?_
    rw [List.filter_eq_self.mpr (fun _ _ => rfl)] at hp
    obtain ⟨q1, q2⟩ := paired_ints hp
    obtain ⟨ms, i1, i2⟩ := ints_of q1
    refine ret D2 h2' tk2 en ys ms F2 (News.less N2 (mem_more (.head _) fun p hp => .tail _ (.tail _ hp))) i1 ?_
    rw [i2, q2, List.length_take]; omega
  · intro _; rfl
theorem big_comp (X : (hd.heap_39 w.params).In g2) (T : Top p loose mean mg mb g2) (F : Fr g2 L2 s.heap m) (N : News g2 L2 s.heap news) (hc : (Ca, W.listOf cs.toArray cn) ∈ news) (hI : IntsAre cs ms) (hn : ms.length ≤ 20) (hm : m (Str.ofString "cells") = some (.ref Ca))
    (ret : ∀ (D : Nat) h' tk en ys ks, Fr g2 L2 h' m → News g2 L2 h' ((D, W.listOf ys.toArray en) :: news) → (∀ q ∈ news, @Ne Nat q.1 D) → IntsAre ys ks → ks.length ≤ 20 → Q (.ref D) { s with heap := h', toks := tk }) :
    wpAny (model PW w) (deckA L fa cd L2) (eval bigComp (deckEnv L2)) Q E s := by
  have hvl := hI.length
  have tests : ∀ (C : Addr) (v : Value) (s₃ : Shared) (m₃ : Str → Option Value) (E' : Value → Shared → Prop), v ∈ cs → Fr g2 C s₃.heap m₃ → News g2 C s₃.heap news → m₃ (Str.ofString "cell") = some v →
      wpAny (model PW w) (deckA L fa cd L2) (forIn [bigTest] true fun c r => if r = true then do let ok ← PySem.isTrue c (compEnvC (compSc bigComp) [] C (deckEnv L2)) (eval c (compEnvC (compSc bigComp) [] C (deckEnv L2))); pure (ForInStep.yield ok) else pure (ForInStep.yield r)) (fun ok s₄ => ok = isBig v ∧ Keeps s₃ s₄) E' s₃ := by
    intro C v s₃ m₃ E' hv F4 N4 hx
    obtain ⟨n, t, rfl⟩ := IntsAre.mem hI v hv
    exact wpAny_tests_one (big_test X T F4 N4 hx fun tk' b e => ⟨e, Keeps.toks⟩)
  generalize hbt : bigTest = bt at *
  conv at hbt => lhs; whnf
  subst hbt
  generalize hbb : bigComp = bb at *
  conv at hbb => lhs; whnf
  subst hbb
  unfold deckEnv at *
  refine wpAny_ListComp_free (cl := []) isBig (fun v y => y = v) ?_ ?_ ?_ ?_ ?_ ?_ ?_
  · exact closureFor_none (by decide)
  · decide
  · rfl
  · decide
  · rfl
  · refine wpAny_Name (wpAny_loadName_local rfl rfl F.ns hm ?_) (by decide)
    refine comp_pyIter isBig (fun v y => y = v) rfl F N hc (by omega) (fun C v s₃ m₃ E' hv _ _ F4 N4 hx => tests C v s₃ m₃ E' hv F4 N4 hx)
      (fun C v s₃ m₃ E' hv _ F3 N3 F4 N4 hx => nameC_L F4 hx ⟨rfl, ⟨s₃.heap, s₃.toks, rfl, fun _ _ e => e⟩⟩ rfl rfl (by decide)) fun D2 h2' tk2 en ys F2 N2 hne hp => ?_
    have e := paired_eq hp
    obtain ⟨ks, i1, i2⟩ := ints_of (vs := ys) fun v hv => IntsAre.mem hI v ((List.mem_filter.mp (e ▸ hv)).1)
    refine ret D2 h2' tk2 en ys ks F2 N2 hne i1 ?_
    have := List.length_filter_le isBig cs
    rw [i2, e]; omega
  · intro _; rfl
end
end
section
theorem fresh_NDeck3 : True := by
  w_top off
  first | walk1 | skip
  trivial
set_option maxRecDepth 100000
section
variable {w : World} {p : Program} {loose : List Str} {mean : ExcName → Option Value} {mg mb : Str → Option Value} {g g2 : Heap} {L L2 fa S : Nat} {cd : Value} {m : Str → Option Value} {s : Shared}
  {news : List (Addr × Obj)} {vs : List Value} {ns : List Int}
set_option maxHeartbeats 1000000 in
theorem deck_two {Q : Flow → Shared → Prop} {Ca cn : Nat} {cs₀ : List Value} {ms₀ : List Int} (X : (hd.heap_39 w.params).In g2) (T : Top p loose mean mg mb g2) (F : Fr g2 L2 s.heap m) (N : News g2 L2 s.heap ((Ca, W.listOf cs₀.toArray cn) :: news)) (hI : IntsAre cs₀ ms₀) (hn : ms₀.length ≤ 20) (hcl : cs₀.length < 100)
    (hm : m (Str.ofString "cells") = some (.ref Ca))
    (ret : ∀ (h' : Heap) (tk : Nat) (m' : Str → Option Value) (D B C bn : Nat) (kt : Tok) (bs cs : List Value) (ks ms : List Int), Fr g2 L2 h' m' → News g2 L2 h' ((D, W.listOf #[.ref B, .ref C, .int 0 kt] 0) :: (B, W.listOf bs.toArray bn) :: (C, W.listOf cs.toArray 0) :: news) →
      IntsAre bs ks → ks.length ≤ 20 → IntsAre cs ms → 0 < ms.length → ms.length ≤ 21 → (∀ q ∈ news, @Ne Nat q.1 B) → AllLt C news → B < C → C < D → Q (.ret (.ref D)) { s with heap := h', toks := tk }) :
    wpAny (model PW w) (deckA L fa cd L2) (execs (deckBody.drop 1) (deckEnv L2)) Q (fun _ _ => False) s := by
  unfold deckA lawA deckEnv
  generalize hsc : scopeOf (Str.ofString "_law_deck") = sc
  conv at hsc => lhs; whnf
  subst hsc
  generalize hbb : deckBody.drop 1 = bb
  conv at hbb => lhs; whnf
  subst hbb
  repeat' (first | (k_unfold; (try dsimp only)) | (k_end; wrow_close) | ((try dsimp only); first | w_nolog (with_reducible ((with_reducible show wpAny _ _ (eval (PySem.Expr.ListComp ..) _) _ _ _); (k_here; k_dflt (refine' big_comp ?X ?T ?F ?N ?hc ?hI ?hn ?m ?_; (case X => k_asm); (case T => k_asm); (case F => k_asm); (case N => k_asm); (case hc => k_mem); (case hI => assumption); (case hn => assumption); (case m => first | exact rfl | (first | (with_reducible assumption) | assumption)); k_whole); intro D' h' tk' en' ys' ms' F' N' ne' hi' hl'; (try k_sweep)))) | w_nolog (with_reducible ((with_reducible show wpAny _ _ (eval (PySem.Expr.Name _ _) _) _ _ _); (k_here; k_dflt (refine' nameX_L ?F ?v ?_ ?a ?b ?c; (case F => k_asm); (case a => rfl); (case b => rfl); (case c => decide); (case v => first | (with_reducible assumption) | assumption); k_whole)))) | w_nolog (with_reducible (k_here; (with_reducible show wpAny _ _ (binaryOp _ (Value.ref _) (Value.ref _)) _ _ _); k_dflt (refine' cat_any ?F ?N ?a ?b ?z ?_; (case F => k_asm); (case N => k_asm); (case a => k_mem); (case b => k_mem); (case z => (first | omega | (split <;> simp <;> omega)))); intro D' h' F' N' l1; (try k_lt l1); (try k_sweep))) | w_nolog (with_reducible (k_here; (with_reducible show wpAny _ _ (pyIter (Value.ref _)) (fun _ _ => LoopAtV _ _ _ _ _ _ _ _ _ _ _) _ _); (rename IsRange _ _ _ _ _ _ _ _ => hR9); k_dflt (refine' again_use ?X ?T ?F ?N hR9 ?b0 ?b3 ?m1 ?m2 ?m3 ?m4 ?m5 ?D ?B ?R ?H ?Hd ?C ?dr ?G ?sub ?o1 ?o2 ?o3 ?o4 ?o5 ?off ?I ?ms ?cl ?bI ?bl ?hz ?hl ?_; (case X => k_asm); (case T => k_asm); (case F => k_asm); (case N => k_asm); (case b0 => omega); (case b3 => omega); (case m1 => (first | (with_reducible assumption) | assumption)); (case m2 => (first | (with_reducible assumption) | assumption)); (case m3 => (first | (with_reducible assumption) | assumption)); (case m4 => (first | (with_reducible assumption) | assumption)); (case m5 => first | exact rfl | (first | (with_reducible assumption) | assumption)); (case D => k_mem); (case B => k_mem); (case H => k_mem); (case Hd => k_mem); (case R => k_mem); (case C => k_mem); (case o1 => assumption); (case o2 => assumption); (case o3 => assumption); (case o4 => assumption); (case o5 => assumption); (case off => assumption); (case dr => (repeat' (first | exact Drop.nil | (refine' Drop.hit ?dh9 ?_; (case dh9 => (repeat' (first | exact List.Mem.head _ | refine List.Mem.tail _ ?_)))) | (refine' Drop.keep ?dh9 ?_; (case dh9 => (repeat' (first | exact List.forall_mem_nil _ | refine List.forall_mem_cons.mpr ⟨by k_ne, ?_⟩)))) | exact Drop.tl (by (refine' off_sub ?oh9 ?os9; (case oh9 => assumption); (case os9 => (repeat' (first | exact List.forall_mem_nil _ | refine List.forall_mem_cons.mpr ⟨by (repeat' (first | exact List.Mem.head _ | refine List.Mem.tail _ ?_)), ?_⟩)))))))); (case G => k_mem); (case sub => (intro p9 hp9; (repeat' (first | assumption | refine List.Mem.tail _ ?_)))); (case I => assumption); (case ms => assumption); (case cl => assumption); (case bI => assumption); (case bl => assumption); (case hz => omega); (case hl => exact BdEnd.last (by assumption)); k_whole); intro h' tk' m' add' vs' zs' k' kt' att' bs' ns' bn' rn' F' hm' hat' N' ib' il' rw' v0' v3' vz' oa' a1' a2' a3' n1' n2' n3' n4'; (try simp only [List.cons_append, List.nil_append] at N'); (try k_sweep))) | w_nolog (with_reducible (k_here; (with_reducible show wpAny _ _ (call (Value.builtin "len") [Value.ref _]) _ _ _); k_dflt (refine' len_any ?N ?m ?z ?_; (case N => k_asm); (case m => k_mem); (case z => first | assumption | omega); k_whole))) | walk1) | walk1 | (leave1; walk_say "STEP leave1"; try dsimp only) | fail "no step")
  all_goals (try k_data)
  dsimp only
  rename Fr _ _ _ _ => kF
  rename News _ _ _ _ => kN
  rename (_ < _ ∧ _ < _ ∧ _ < _ ∧ Ca < _ ∧ _) => l9
  rename (_ < _ ∧ _ < _ ∧ Ca < _ ∧ _) => l8
  rename (∀ q : Addr × Obj, q ∈ _ → q.1 ≠ _) => hne9
  rename IntsAre _ (ms₀ ++ _) => hi9
  exact ret _ _ _ _ _ _ _ _ _ _ _ _ kF (News.less kN (mem_more (.head _) (mem_more (.tail _ (.tail _ (.tail _ (.head _)))) (mem_more (.tail _ (.head _)) fun p hp => .tail _ (.tail _ (.tail _ (.tail _ (.tail _ hp)))))))) (by assumption) (by assumption) hi9 (by simp) (by rw [List.length_append]; simp; omega) (fun q hq => hne9 q (.tail _ hq)) l8.2.2.2 l8.2.1 l9.1
theorem deck_body {Q : Flow → Shared → Prop} (X : (hd.heap_39 w.params).In g2) (T : Top p loose mean mg mb g2) (F : Fr g2 L2 s.heap m) (N : News g2 L2 s.heap news) (hL : g2.IsList S vs.toArray) (hI : IntsAre vs ns) (hn : ns.length ≤ 63)
    (hm : m (Str.ofString "script") = some (.ref S))
    (ret : ∀ (h' : Heap) (tk : Nat) (m' : Str → Option Value) (D B C bn : Nat) (kt : Tok) (bs cs : List Value) (ks ms : List Int), Fr g2 L2 h' m' → News g2 L2 h' ((D, W.listOf #[.ref B, .ref C, .int 0 kt] 0) :: (B, W.listOf bs.toArray bn) :: (C, W.listOf cs.toArray 0) :: news) →
      IntsAre bs ks → ks.length ≤ 20 → IntsAre cs ms → 0 < ms.length → ms.length ≤ 21 → (∀ q ∈ news, @Ne Nat q.1 B) → AllLt C news → B < C → C < D → Q (.ret (.ref D)) { s with heap := h', toks := tk }) :
    wpAny (model PW w) (deckA L fa cd L2) (execs deckBody (deckEnv L2)) Q (fun _ _ => False) s := by
  show wpAny (model PW w) (deckA L fa cd L2) (execs (stOf deckBody 0 :: deckBody.drop 1) (deckEnv L2)) Q (fun _ _ => False) s
  refine wpAny_execs_cons ?_
  refine abs_assign X T F N hL hI hn hm fun D0 h' tk en ys ms F' N' hi hl => ?_
  have hyl := hi.length
  refine deck_two (s := { s with heap := h', toks := tk }) X T F' N' hi hl (by omega) rfl ?_
  intro h3 tk3 m3 D B C bn kt bs cs ks ms' F3 N3 i1 i2 i3 i4 i5 i6 i7 i8 i9
  exact ret h3 tk3 m3 D B C bn kt bs cs ks ms' F3 N3 i1 i2 i3 i4 i5 i6 i7 i8 i9
theorem deck_call {Q E : Value → Shared → Prop} (X : (hd.heap_39 w.params).In g) (T : Top p loose mean mg mb g) (F : Fr g L s.heap m) (N : News g L s.heap news) (hL : g.IsList S vs.toArray) (hI : IntsAre vs ns) (hn : ns.length ≤ 63)
    (ret : ∀ (h' : Heap) (tk : Nat) (D B C bn : Nat) (kt : Tok) (bs cs : List Value) (ks ms : List Int), Fr g L h' m → News g L h' ((D, W.listOf #[.ref B, .ref C, .int 0 kt] 0) :: (B, W.listOf bs.toArray bn) :: (C, W.listOf cs.toArray 0) :: news) →
      IntsAre bs ks → ks.length ≤ 20 → IntsAre cs ms → 0 < ms.length → ms.length ≤ 21 → (∀ q ∈ news, @Ne Nat q.1 B) → AllLt C news → B < C → C < D → Q (.ref D) { s with heap := h', toks := tk }) :
    wpAny (model PW w) (lawA L fa cd) (call (.ref 160) [.ref S]) Q E s := by
  have K0 : Below callerA g [] g := below_caller g
  unfold lawA lawEnv
  refine wpAny_call ?_
  k_enter
  refine wpAny_noRaise ?_
  rename Fr _ _ _ (fun y => _) => F9
  rename Fr g L _ m => FG9
  refine deck_body (S := S) (vs := vs) (ns := ns) (by assumption) (by assumption) F9 (by assumption) (stays_list FG9.keep hL) hI hn rfl ?_
  intro h3 tk3 m3 D B C bn kt bs cs ks ms' F3 N3 i1 i2 i3 i4 i5 i6 i7 i8 i9
  exact leaveK_ F3 N3 fun kF kN => ret h3 tk3 D B C bn kt bs cs ks ms' kF kN i1 i2 i3 i4 i5 i6 i7 i8 i9
end
end
section
theorem fresh_NFor : True := by
  w_top off
  first | walk1 | skip
  trivial
section
variable {w : World} {p : Program} {loose : List Str} {mean : ExcName → Option Value} {mg mb : Str → Option Value} {g : Heap} {L fa B C D Hd H R G : Nat} {cd : Value} {m : Str → Option Value} {s : Shared} {Q : Flow → Shared → Prop}
  {k1 k2 k3 k4 k5 dk : Tok} {h1 h2 h3 h4 h5 d : Int} {hn rn dn bn cn gn : Nat} {bs cs : List Value} {ns ms : List Int} {k at_ : Int} {kt att : Tok} {news tl : List (Addr × Obj)}
theorem turn_use {r : Addr} {b₀ : Int} {t₀ u₀ v₀ : Tok} (X : (hd.heap_39 w.params).In g) (T : Top p loose mean mg mb g) (F : Fr g L s.heap m) (N : News g L s.heap news)
    (hr : IsRange s.heap r 0 b₀ 1 t₀ u₀ v₀) (hb0 : 0 ≤ b₀) (hb6 : b₀ < 7)
    (hm1 : m (Str.ofString "deck") = some (.ref D)) (hm2 : m (Str.ofString "history") = some (.ref H)) (hm3 : m (Str.ofString "at") = some (.int at_ att)) (hm4 : m (Str.ofString "groups") = some (.ref G))
    (eD : (D, W.listOf #[.ref B, .ref C, .int k kt] dn) ∈ news) (eB : (B, W.listOf bs.toArray bn) ∈ news) (eR : (R, W.listOf #[] rn) ∈ news) (eG : (G, W.listOf #[] gn) ∈ news) (eH : (H, instObj 109 Hd) ∈ news) (eHd : (Hd, hisO k1 k2 k3 k4 k5 h1 h2 h3 h4 h5 R d dk hn) ∈ news) (eC : (C, W.listOf cs.toArray cn) ∈ news)
    (dr : Drop [B, C, D, Hd, H, R, G] news tl)
    (o1 : B < C) (o2 : C < D) (o3 : D < Hd) (o4 : Hd < H) (o5 : H < R) (o6 : R < G)
    (hI : IntsAre cs ms) (hms : 0 < ms.length) (hcl : ms.length ≤ 21) (hbI : IntsAre bs ns) (hbl : ns.length ≤ 21)
    (ret : ∀ (h' : Heap) (tk' : Nat) (m' : Str → Option Value) (add : List (Addr × Obj)) (gvs : List Value) (gss : List (List Value × List Nat)) (lim k' : Int) (kt' : Tok) (bs' : List Value) (ns' : List Int) (bn' rn' gn' : Nat), Fr g L h' m' →
      m' (Str.ofString "deck") = some (.ref D) → m' (Str.ofString "history") = some (.ref H) → m' (Str.ofString "groups") = some (.ref G) →
      News g L h' ((D, W.listOf #[.ref B, .ref C, .int k' kt'] dn) :: (B, W.listOf bs'.toArray bn') :: (R, W.listOf (rowsOf (gss.map (·.1))).toArray rn') :: (G, W.listOf gvs.toArray gn') :: (H, instObj 109 Hd) :: (Hd, hisO k1 k2 k3 k4 k5 h1 h2 h3 h4 h5 R d dk hn) :: (C, W.listOf cs.toArray cn) :: (add ++ tl)) →
      IntsAre bs' ns' → ns'.length ≤ 21 → GroupsIn add lim gvs gss → gss.length ≤ 6 → (rowsOf (gss.map (·.1))).length ≤ 24 → LastRow add lim (rowsOf (gss.map (·.1))) → (∀ q ∈ add, @LT.lt Nat _ G q.1) → Q .next { s with heap := h', toks := tk' }) :
    wpAny (model PW w) (lawA L fa cd) (pyIter (.ref r)) (fun it s₂ => LoopAtV PW w (lawA L fa cd) g (lawEnv L fa cd) (Str.ofString "the_turn") turnBody Q (fun _ _ => False) it s₂) (fun _ _ => False) s := by
  obtain ⟨n, rfl⟩ := Int.eq_ofNat_of_zero_le hb0
  have N1 : News g L s.heap ((D, W.listOf #[.ref B, .ref C, .int k kt] dn) :: (B, W.listOf bs.toArray bn) :: (R, W.listOf #[] rn) :: (G, W.listOf #[] gn) :: (H, instObj 109 Hd) :: (Hd, hisO k1 k2 k3 k4 k5 h1 h2 h3 h4 h5 R d dk hn) :: (C, W.listOf cs.toArray cn) :: tl) :=
    News.less N (mem_more eD (mem_more eB (mem_more eR (mem_more eG (mem_more eH (mem_more eHd (mem_more eC dr.sub)))))))
  refine turn_loop (n := n) X T F hr rfl (by omega) hm1 hm2 hm3 hm4 N1 o1 o2 o3 o4 o5 o6 dr.off hI hms hcl hbI hbl ?_
  intro h' tk' m' add gvs gss lim k' kt' bs' ns' bn' rn' gn' F' c1 c2 c3 N' ib il gr gl rl lr a1 a2
  exact ret h' tk' m' add gvs gss lim k' kt' bs' ns' bn' rn' gn' F' c1 c2 c3 N' ib il gr (by omega) rl lr a2
end
set_option maxRecDepth 100000
section
variable {w : World} {p : Program} {loose : List Str} {mean : ExcName → Option Value} {mg mb : Str → Option Value} {g : Heap} {L fa B C D Hd H R G : Nat} {cd : Value} {m : Str → Option Value} {s : Shared} {Q : Flow → Shared → Prop}
  {k1 k2 k3 k4 k5 dk : Tok} {h1 h2 h3 h4 h5 d : Int} {hn rn dn bn cn gn : Nat} {bs cs : List Value} {ns ms : List Int} {k at_ : Int} {kt att : Tok} {news tl : List (Addr × Obj)}
set_option maxHeartbeats 1000000 in
theorem law_for (X : (hd.heap_39 w.params).In g) (T : Top p loose mean mg mb g) (F : Fr g L s.heap m)
    (hm1 : m (Str.ofString "deck") = some (.ref D)) (hm2 : m (Str.ofString "history") = some (.ref H)) (hm3 : m (Str.ofString "at") = some (.int at_ att)) (hm4 : m (Str.ofString "groups") = some (.ref G))
    (N : News g L s.heap ((D, W.listOf #[.ref B, .ref C, .int k kt] dn) :: (B, W.listOf bs.toArray bn) :: (R, W.listOf #[] rn) :: (G, W.listOf #[] gn) :: (H, instObj 109 Hd) :: (Hd, hisO k1 k2 k3 k4 k5 h1 h2 h3 h4 h5 R d dk hn) :: (C, W.listOf cs.toArray cn) :: tl))
    (o1 : B < C) (o2 : C < D) (o3 : D < Hd) (o4 : Hd < H) (o5 : H < R) (o6 : R < G) (hoff : OwnOff tl [B, C, D, Hd, H, R, G])
    (hI : IntsAre cs ms) (hms : 0 < ms.length) (hcl : ms.length ≤ 21) (hbI : IntsAre bs ns) (hbl : ns.length ≤ 21)
    (ret : ∀ (h' : Heap) (tk' : Nat) (m' : Str → Option Value) (add : List (Addr × Obj)) (gvs : List Value) (gss : List (List Value × List Nat)) (lim k' : Int) (kt' : Tok) (bs' : List Value) (ns' : List Int) (bn' rn' gn' : Nat), Fr g L h' m' →
      m' (Str.ofString "deck") = some (.ref D) → m' (Str.ofString "history") = some (.ref H) → m' (Str.ofString "groups") = some (.ref G) →
      News g L h' ((D, W.listOf #[.ref B, .ref C, .int k' kt'] dn) :: (B, W.listOf bs'.toArray bn') :: (R, W.listOf (rowsOf (gss.map (·.1))).toArray rn') :: (G, W.listOf gvs.toArray gn') :: (H, instObj 109 Hd) :: (Hd, hisO k1 k2 k3 k4 k5 h1 h2 h3 h4 h5 R d dk hn) :: (C, W.listOf cs.toArray cn) :: (add ++ tl)) →
      IntsAre bs' ns' → ns'.length ≤ 21 → GroupsIn add lim gvs gss → gss.length ≤ 6 → (rowsOf (gss.map (·.1))).length ≤ 24 → LastRow add lim (rowsOf (gss.map (·.1))) → (∀ q ∈ add, @LT.lt Nat _ G q.1) → Q .next { s with heap := h', toks := tk' }) :
    wpAny (model PW w) (lawA L fa cd) (exec (stOf lawBody 1) (lawEnv L fa cd)) Q (fun _ _ => False) s := by
  have K0 : Below callerA g [] g := below_caller g
  unfold lawA lawEnv
  generalize hsc : scopeOf (Str.ofString "law") = sc
  conv at hsc => lhs; whnf
  subst hsc
  generalize hbb : stOf lawBody 1 = bb
  conv at hbb => lhs; whnf
  subst hbb
  repeat' (first | (k_unfold; (try dsimp only)) | (k_end; wrow_close) | ((try dsimp only); first | w_nolog (with_reducible (k_here; (with_reducible show wpAny _ _ (pyIter (Value.ref _)) (fun _ _ => LoopAtV _ _ _ _ _ _ _ _ _ _ _) _ _); (rename IsRange _ _ _ _ _ _ _ _ => hR9); k_dflt (refine' turn_use ?X ?T ?F ?N hR9 ?b0 ?b6 ?m1 ?m2 ?m3 ?m4 ?D ?B ?R ?G ?H ?Hd ?C ?dr ?o1 ?o2 ?o3 ?o4 ?o5 ?o6 ?I ?ms ?cl ?bI ?bl ?_; (case X => k_asm); (case T => k_asm); (case F => k_asm); (case N => k_asm); (case b0 => first | assumption | omega); (case b6 => first | assumption | omega); (case m1 => (first | (with_reducible assumption) | assumption)); (case m2 => (first | (with_reducible assumption) | assumption)); (case m3 => (first | (with_reducible assumption) | assumption)); (case m4 => (first | (with_reducible assumption) | assumption)); (case D => k_mem); (case B => k_mem); (case R => k_mem); (case G => k_mem); (case H => k_mem); (case Hd => k_mem); (case C => k_mem); (case o1 => assumption); (case o2 => assumption); (case o3 => assumption); (case o4 => assumption); (case o5 => assumption); (case o6 => assumption); (case dr => (repeat' (first | exact Drop.nil | (refine' Drop.hit ?dh9 ?_; (case dh9 => (repeat' (first | exact List.Mem.head _ | refine List.Mem.tail _ ?_)))) | (refine' Drop.keep ?dh9 ?_; (case dh9 => (repeat' (first | exact List.forall_mem_nil _ | refine List.forall_mem_cons.mpr ⟨by k_ne, ?_⟩)))) | exact Drop.tl (by (refine' off_sub ?oh9 ?os9; (case oh9 => assumption); (case os9 => (repeat' (first | exact List.forall_mem_nil _ | refine List.forall_mem_cons.mpr ⟨by (repeat' (first | exact List.Mem.head _ | refine List.Mem.tail _ ?_)), ?_⟩)))))))); (case I => assumption); (case ms => assumption); (case cl => assumption); (case bI => assumption); (case bl => assumption); k_whole); intro h' tk' m' add' gvs' gss' lim' k' kt' bs' ns' bn' rn' gn' F' hd' hh' hg' N' ib' il' gr' gl' rl' lr' a2')) | w_nolog (with_reducible ((with_reducible show wpAny _ _ (exec (Stmt.For ..) _) _ _ _); (k_here; (rename Fr _ _ _ _ => lF'); (with_unfolding_all refine' For_invVF lF' ?k1 ?k2 ?_; (case k1 => exact rfl); (case k2 => exact rfl); k_whole)))) | w_nolog (with_reducible (k_here; (with_reducible show wpAny _ _ (call (Value.ref 167) _) _ _ _); k_dflt (refine' draw_use ?X ?T ?F ?N ?D ?B ?C ?dr ?n1 ?n2 ?n3 ?I ?ms ?cl ?bI ?bl ?m ?m' ?_; (case X => k_asm); (case T => k_asm); (case F => k_asm); (case N => k_asm); (case D => k_mem); (case B => k_mem); (case C => k_mem); (case dr => (repeat' (first | exact Drop.nil | (refine' Drop.hit ?dh9 ?_; (case dh9 => (repeat' (first | exact List.Mem.head _ | refine List.Mem.tail _ ?_)))) | (refine' Drop.keep ?dh9 ?_; (case dh9 => (repeat' (first | exact List.forall_mem_nil _ | refine List.forall_mem_cons.mpr ⟨by k_ne, ?_⟩)))) | exact Drop.tl (by (refine' off_sub ?oh9 ?os9; (case oh9 => assumption); (case os9 => (repeat' (first | exact List.forall_mem_nil _ | refine List.forall_mem_cons.mpr ⟨by (repeat' (first | exact List.Mem.head _ | refine List.Mem.tail _ ?_)), ?_⟩)))))))); (case n1 => k_ne); (case n2 => k_ne); (case n3 => k_ne); (case I => assumption); (case ms => assumption); (case cl => assumption); (case bI => assumption); (case bl => assumption); (case m => decide); (case m' => decide); k_whole); intro h' r' t' k' kt' tk' bs' ns' bn' F' N' iB' lB' r0' r1'; (try k_sweep))) | w_nolog (with_reducible ((with_reducible show wpAny _ _ (eval (PySem.Expr.Name _ _) _) _ _ _); (k_here; k_dflt (refine' nameX_L ?F ?v ?_ ?a ?b ?c; (case F => k_asm); (case a => rfl); (case b => rfl); (case c => decide); (case v => first | (with_reducible assumption) | assumption); k_whole)))) | walk1) | walk1 | (leave1; walk_say "STEP leave1"; try dsimp only) | fail "no step")
  all_goals (try k_data)
  all_goals (dsimp only; rename Fr _ _ _ _ => kF; rename News _ _ _ _ => kN; rename GroupsIn _ _ _ _ => gr9; exact ret _ _ _ _ _ _ _ _ _ _ _ _ _ _ kF (by assumption) (by assumption) (by assumption) kN (by assumption) (by assumption) gr9 (by assumption) (by assumption) (by assumption) (by assumption))
end
end
section
theorem fresh_NRest : True := by
  w_top off
  first | walk1 | skip
  trivial
def restSts : List Stmt := lawBody.drop 1
section
variable {w : World} {p : Program} {loose : List Str} {mean : ExcName → Option Value} {mg mb : Str → Option Value} {g : Heap} {L fa B C D Hd H R G : Nat} {cd : Value} {m : Str → Option Value} {s : Shared} {Q : Flow → Shared → Prop}
  {k1 k2 k3 k4 k5 dk : Tok} {h1 h2 h3 h4 h5 : Int} {rn dn bn cn gn : Nat} {bs cs : List Value} {ns ms : List Int} {at_ : Int} {kt att : Tok} {news : List (Addr × Obj)} {oc : Obj}
theorem law_rest (X : (hd.heap_39 w.params).In g) (T0 : Top p loose mean mg mb g) (F : Fr g L s.heap m) (N : News g L s.heap news)
    (hm1 : m (Str.ofString "deck") = some (.ref D)) (hm2 : m (Str.ofString "history") = some (.ref H)) (hm3 : m (Str.ofString "at") = some (.int at_ att)) (hm4 : m (Str.ofString "groups") = some (.ref G))
    (eD : (D, W.listOf #[.ref B, .ref C, .int 0 kt] dn) ∈ news) (eB : (B, W.listOf bs.toArray bn) ∈ news) (eC : (C, W.listOf cs.toArray cn) ∈ news) (eH : (H, instObj 109 Hd) ∈ news) (eHd : (Hd, hisO k1 k2 k3 k4 k5 h1 h2 h3 h4 h5 R 0 dk 5) ∈ news) (eR : (R, W.listOf #[] rn) ∈ news) (eG : (G, W.listOf #[] gn) ∈ news) (eO : (L + 1, oc) ∈ news)
    (o0 : @Ne Nat (L + 1) B) (o0' : L + 1 < C) (o1 : B < C) (o2 : C < D) (o3 : D < Hd) (o4 : Hd < H) (o5 : H < R) (o6 : R < G) (hoc : oc.data = .cell none)
    (hbI : IntsAre bs ns) (hbl : ns.length ≤ 20) (hI : IntsAre cs ms) (hms : 0 < ms.length) (hcl : ms.length ≤ 21)
    (ret : ∀ (h' : Heap) (tk' : Nat) (m' : Str → Option Value), Fr g L h' m' → News g L h' [] → Q (.ret (.bool true)) { s with heap := h', toks := tk' }) :
    wpAny (model PW w) (lawA L fa cd) (execs restSts (lawEnv L fa cd)) Q (fun _ _ => False) s := by
  show wpAny (model PW w) (lawA L fa cd) (execs (stOf lawBody 1 :: tailSts) (lawEnv L fa cd)) Q (fun _ _ => False) s
  have N1 : News g L s.heap ((D, W.listOf #[.ref B, .ref C, .int 0 kt] dn) :: (B, W.listOf bs.toArray bn) :: (R, W.listOf #[] rn) :: (G, W.listOf #[] gn) :: (H, instObj 109 Hd) :: (Hd, hisO k1 k2 k3 k4 k5 h1 h2 h3 h4 h5 R 0 dk 5) :: (C, W.listOf cs.toArray cn) :: [(L + 1, oc)]) :=
    News.less N (mem_more eD (mem_more eB (mem_more eR (mem_more eG (mem_more eH (mem_more eHd (mem_more eC (mem_more eO fun q hq => by cases hq))))))))
  have hoff : OwnOff [(L + 1, oc)] [B, C, D, Hd, H, R, G] := by
    intro q hq b hb
    rw [List.mem_singleton.mp hq]
    simp only [List.mem_cons, List.mem_nil_iff, or_false] at hb
    rcases hb with rfl | rfl | rfl | rfl | rfl | rfl | rfl <;> first | exact o0 | exact Nat.ne_of_lt (by omega)
  refine wpAny_execs_cons (law_for X T0 F hm1 hm2 hm3 hm4 N1 o1 o2 o3 o4 o5 o6 hoff hI hms hcl hbI (by omega) ?_)
  intro h' tk' m' add gvs gss lim k' kt' bs' ns' bn' rn' gn' F' c1 c2 c3 N' ib il gr gl rl lr a2
  refine law_tail (s := { s with heap := h', toks := tk' }) X T0 F' c1 c2 c3 N' o0 o0' o1 o2 o3 o4 o5 o6 a2 hoc hI hms hcl ib il gr gl rl lr ?_
  intro h2 tk2 m2 F2 N2
  exact ret h2 tk2 m2 F2 N2
end
end
section
theorem fresh_NMain : True := by
  w_top off
  first | walk1 | skip
  trivial
set_option maxRecDepth 100000 in
set_option maxHeartbeats 8000000 in
theorem law_holds : PySem.Challenge.rw_np0020_01.Holds := hd (by w_strict (k_go0; (all_goals try k_fold); repeat' (first | (k_unfold; (try dsimp only)) | (k_end; wrow_close) | w_nolog (with_reducible ((with_reducible show wpAny _ _ (execs (_ :: _) _) _ _ _); (k_here; refine wpAny_noRaise ?_; k_dflt (refine' law_rest ?X ?T ?F ?N ?m1 ?m2 ?m3 ?m4 ?D ?B ?C ?H ?Hd ?R ?G ?O ?o0 ?p0 ?o1 ?o2 ?o3 ?o4 ?o5 ?o6 ?oc ?bI ?bl ?I ?ms ?cl ?_; (case X => k_asm); (case T => k_asm); (case F => k_asm); (case N => k_asm); (case m1 => (first | exact rfl | (with_reducible assumption) | assumption)); (case m2 => (first | exact rfl | (with_reducible assumption) | assumption)); (case m3 => (first | exact rfl | (with_reducible assumption) | assumption)); (case m4 => (first | exact rfl | (with_reducible assumption) | assumption)); (case D => k_mem); (case B => k_mem); (case C => k_mem); (case H => k_mem); (case Hd => k_mem); (case R => k_mem); (case G => k_mem); (case O => k_mem); (case o0 => assumption); (case p0 => assumption); (case o1 => assumption); (case o2 => assumption); (case o3 => omega); (case o4 => omega); (case o5 => omega); (case o6 => omega); (case oc => assumption); (case bI => assumption); (case bl => assumption); (case I => assumption); (case ms => assumption); (case cl => assumption); k_whole); intro h' tk' m' F' N'))) | w_nolog (with_reducible (k_here; (with_reducible show wpAny _ _ (call (Value.ref 160) _) _ _ _); k_dflt (refine' deck_call ?X ?T ?F ?N ?hL ?hI ?hn ?_; (case X => k_asm); (case T => k_asm); (case F => k_asm); (case N => k_asm); (case hL => assumption); (case hI => assumption); (case hn => omega); k_whole); intro h' tk' D' B' C' bn' kt' bs' cs' ks' ms' F' N' i1' i2' i3' i4' i5' i6' i7' i8' i9'; (have i66' := i6' _ (List.Mem.head _)); (have i77' := tb_ltOf i7' _ (List.Mem.head _)))) | walk1 | (dsimp only; walk1) | (leave1; walk_say "STEP leave1"; try dsimp only) | fail "no step")))
end
end Mine
theorem PySem.Challenge.cw_np0020_01_holds : PySem.Challenge.rw_np0020_01.Holds :=
  Mine.law_holds
