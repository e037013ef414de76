import PyProof.Rows.All
import HandS.Nested
import KE.KLam
import HandS.Base
import HandS.Call
import HandS.List
import HandS.Iter
import HandS.Zip0
import OpenK.KCall
import Open.Row
import KE.SortData
import KE.DataMinMax
import PyProof.TableCode
import HandS.ForMost
import HandS.TupAny
import HandS.TupMul
import PyProof.NeKinds
import KE.LtData
import HandS.TupLe
import HandS.IsInst
import HandS.Strs
import HandS.Star
import OpenK.KMore
import HandS.Codes
import HandS.HeadWalk
import HandS.HeadHook4
import HandS.Head2
import PySem.Challenge.RW_bidbooks_k43_whole_cards_let_and_tricks
set_option Elab.async false
set_option linter.all false
section
set_option maxRecDepth 100000
set_option maxHeartbeats 2000000
/-! Lambdas: made, tracked, called. -/
namespace Py
open PySem PySem.Spec PyProof.Rows L2 LamX NdefX
/-- a lambda's words, the cells that it captured, its code object -/
structure LF where
  qual : Str
  params : Arguments
  body : Expr
  scope : Scope
  cl : List (Str × Addr)
  c : Addr
/-- as a nested def without a body: for its frame -/
abbrev LF.nf (L : LF) : NF := ⟨"<lambda>", L.qual, L.params, [], L.scope, L.cl, L.c⟩
def LamO (f : Addr) (L : LF) : HO := .ext fun h => ∃ (pm ctv : Value), h.get? f = some (PySem.W.kla_obj "<lambda>" L.qual L.params L.body L.scope L.cl pm L.c ctv)
theorem lamO_at {P : Program} {w : World} {H : Hp} {h : Heap} {f : Addr} {L : LF} (hok : HOk P w H h) (e : H f = some (LamO f L)) : ∃ (pm ctv : Value), h.get? f = some (PySem.W.kla_obj "<lambda>" L.qual L.params L.body L.scope L.cl pm L.c ctv) := (hok f _ e).1
section
variable {X : Cx} {pins : List (Addr × Obj)} {σ : L2.St} {H : Hp} {s : Shared}
theorem inv_lam {L : LF} {t' : Nat} {pm ctv : Value} (J : Inv X pins σ H s) :
    Inv X pins σ (upd H s.heap.objs.size (LamO s.heap.objs.size L)) { s with heap := s.heap.push (PySem.W.kla_obj "<lambda>" L.qual L.params L.body L.scope L.cl pm L.c ctv), toks := t' } := by
  refine J.laid (a := s.heap.objs.size) (fun b u e => Heap.get?_push_of_some _ e) (Nat.le_refl _) ?_
  have e := Heap.get?_push_size s.heap (o := PySem.W.kla_obj "<lambda>" L.qual L.params L.body L.scope L.cl pm L.c ctv) rfl
  exact ⟨⟨pm, ctv, e⟩, ⟨_, e⟩, fun h1 h2 ⟨p, t, z⟩ st => ⟨p, t, st _ z⟩⟩
end
section
variable {P : Program} {w : World} {K : PySem.W.Frag} {mg : Str → Option Value} {base : Heap} {CX : CXT} {k : Nat} {f : Addr} {L : LF} {N ps : List Str} {sp : Sp}
/-- its promise, by its body (one that captures nothing) -/
structure LOk (P : Program) (w : World) (K : PySem.W.Frag) (mg : Str → Option Value) (base : Heap) (CX : CXT) (k : Nat) (f : Addr) (L : LF) (ps : List Str) (sp : Sp) : Prop where
  run : ∀ (A : Around) (outer : List PySem.Env) (s : Shared) (H : Hp) (us : List Value) (vs : List V) (Q : VK) (E : XK), Room k A → Env0 P w K mg base A outer s H → H f = some (LamO f L) → H L.c = some (CodeO L.c L.qual) → Vals vs us → sp vs H Q E →
    codeAny (model P w) A (.call (.ref f) ⟨us, []⟩) (CR CX outer P w H s Q E) s
theorem lok_of (sc : FnScope N ps L.scope) (hcl : L.cl = []) (hb : ∀ (pm ctv : Value) (us : List Value), us.length = ps.length → bindArgs (PySem.W.kla_fn "<lambda>" L.qual L.params L.body L.scope L.cl pm (.ref L.c) ctv) ⟨us, []⟩ = pure (ps.zip us)) (len : ∀ vs H Q E, sp vs H Q E → vs.length = ps.length)
    (hbody : ∀ (A : Around) (outer : List PySem.Env) (s : Shared) (H : Hp) (vs : List V) (Q : VK) (E : XK), Room k (A.deeper (envOfC L.qual L.scope s.heap.objs.size f (.ref L.c))) → sp vs H Q E → ∃ t, PE (cxOf CX P w K mg base N L.qual L.scope f (.ref L.c) A outer s H E) L.body t ∧ t (start N vs) H Q) :
    LOk P w K mg base CX (k + 1) f L ps sp := by
  refine ⟨fun A outer s H us vs Q E hr e0 hf hc r hsp => ?_⟩
  have hl := len _ _ _ _ hsp
  have lim : s.heap.NoLimit := e0.mod.nolimit.keeps fun b o e => (e0.bs b o e).1
  obtain ⟨pm, ctv, ho⟩ := lamO_at e0.hok hf
  have places : ∀ y ∈ ps.zip us, L.scope.names.lookup y.1 = some .local ∨ (L.scope.names.lookup y.1 = some .cell ∧ ((cellsFrom (s.heap.objs.size + 1) L.scope.names []).lookup y.1).isSome = true) := fun ⟨n, v⟩ hy =>
    (sc.par n (List.of_mem_zip hy).1).imp id fun q => ⟨q, PySem.W.cellsFrom_some _ _ _ (.inl q)⟩
  refine PySem.W.kla_callFunE hr.depth ho rfl sc.co sc.gen rfl (codeO_at e0.hok hc) ?_
  rw [hb pm ctv us (by rw [← r.length]; exact hl)]
  refine wpAny_pure ?_
  show wpAny _ _ (newFunctionEnv L.scope mainGlobals L.cl (ps.zip us) (L.qual ++ ".<locals>.") (some f) (.ref L.c) none builtinsNs) _ _ _
  rw [hcl]
  refine wpAny_newFunctionEnv_cells sc.kind places fun env he s1 x => ?_
  subst he
  refine ⟨lim.keeps x.toInCall.keep, ?_⟩
  obtain ⟨t, ht, hq⟩ := hbody A outer s H vs Q E (hr.deeper _) hsp
  have J : Inv (cxOf CX P w K mg base N L.qual L.scope f (.ref L.c) A outer s H E) [] (start N vs) H s1 := inv_start sc hr.hd e0 hl r x
  refine PySem.W.kla_codeExpr (wpAny_mono (ht.run [] s1 (start N vs) H Q J hq) (fun u s' hs => ?_) fun e s' hs => hs)
  obtain ⟨v, H', J', rv, q⟩ := hs
  exact ⟨v, H', J'.os, J'.bare, J'.base, J'.hok, rv, q⟩
end
/-- the tables; their code objects are among what is frozen -/
def TabG (G H : Hp) (M : Addr) (nm : Nat → Nat → Str) : Prop := ∃ ps : Array Value, H M = some (.tbl ps) ∧ TriplesOk ps.toList ∧ ∀ (p : Pos) (u : Value), codeAmong p ps.toList = some u → ∃ c, u = .ref c ∧ G c = some (CodeO c (nm p.line p.col))
def TabsG (T : List NTab) (G H : Hp) : Prop := ∀ q ∈ T, TabG G H q.1 q.2
theorem TabsG.n {T : List NTab} {G H : Hp} (t : TabsG T G H) (s : ∀ b o, G b = some o → H b = some o) : TabsN T H := fun q hq => by
  obtain ⟨ps, h1, h2, h3⟩ := t q hq
  refine ⟨ps, h1, h2, fun p u h => ?_⟩
  obtain ⟨c, e1, e2⟩ := h3 p u h
  exact ⟨c, e1, s _ _ e2⟩
theorem TabsG.keep {T : List NTab} {G G' H H' : Hp} (t : TabsG T G H) (g : ∀ b o, G b = some o → G' b = some o) (k : ∀ b ps, H b = some (.tbl ps) → H' b = some (.tbl ps)) : TabsG T G' H' := fun q hq => by
  obtain ⟨ps, h1, h2, h3⟩ := t q hq
  refine ⟨ps, k _ _ h1, h2, fun p u h => ?_⟩
  obtain ⟨c, e1, e2⟩ := h3 p u h
  exact ⟨c, e1, g _ _ e2⟩
section
variable {X : Cx} {pins : List (Addr × Obj)} {σ : L2.St} {H : Hp} {s : Shared}
/-- it is made: its code object is new, or found in the table -/
theorem lam_mk {T : List NTab} {G : Hp} {nm : Nat → Nat → Str} {c M : Addr} {params : Arguments} {body : Expr} {scope : Scope} {pos : Pos} {E : Value → Shared → Prop} {Q : Value → Shared → Prop} (J : Inv X pins σ H s) (sub : ∀ b o, G b = some o → H b = some o) (TB : TabB X.base X.mg c M) (hcode : X.env.code = .ref c)
    (hm : (M, nm) ∈ T) (hn : nm pos.line pos.col = X.env.qual ++ "<lambda>") (hu : ∀ p ∈ T, p.1 = M → p.2 = nm) (hT : TabsG T G H) (hdef : defaultsOf params X.env = ([], [])) (hfree : ∀ y ∈ scope.names, y.2 = .free → ∃ c, X.env.cells.lookup y.1 = some c)
    (k : ∀ (f c' : Addr) (H1 : Hp) (s' : Shared), Inv X pins σ H1 s' → (∀ b o, H b = some o → (∀ ps, o ≠ .tbl ps) → H1 b = some o) → (∀ b ps, H b = some (.tbl ps) → ∃ ps', H1 b = some (.tbl ps')) → (∀ b, H1 b = Option.none → H b = Option.none) → TabsG T (upd G c' (CodeO c' (X.env.qual ++ "<lambda>"))) H1 → (G c' = some (CodeO c' (X.env.qual ++ "<lambda>")) ∨ H c' = none) → H f = none → f ≠ c' → H1 f = some (LamO f ⟨X.env.qual ++ "<lambda>", params, body, scope, cloFrom X.env.cells scope.names [], c'⟩) → H1 c' = some (CodeO c' (X.env.qual ++ "<lambda>")) → Q (.ref f) s') :
    wpAny (model X.prog X.w) X.A (eval (.Lambda params body scope pos) X.env) Q E s := by
  obtain ⟨ps, hP, ht, ha⟩ := (show TabG G H M nm from hT _ hm)
  have bP : s.heap.BuiltinsAt X.mg M := TB.bm.keeps J.bk
  have hP' : s.heap.get? M = some { cls := .none, data := .fields ps } := J.hok M _ hP
  refine PySem.W.kla_eval hdef ?_
  cases hc : codeAmong pos ps.toList with
  | none =>
    refine PySem.W.kla_makeFunction (mg := X.mg) (c := c) (P := M) (ps := ps) (closure_ok hfree) J.ok.glob (J.mod.glob.keeps J.bk) hcode (TB.code.keeps J.bk) hP' ht hc TB.gP bP fun c' ctv h' tk hx hge hlt hrec htb => ?_
    obtain ⟨c2, oc, vs, t, e2, hoc, hd, hv⟩ := hrec
    cases e2
    have nC : H c' = none := J.hok.fresh hge
    have nG : G c' = none := by
      cases q : G c' with
      | none => rfl
      | some o => rw [sub _ _ q] at nC; cases nC
    have J1 := inv_table (t' := tk) (more := #[rawInt pos.line, rawInt pos.col, .ref c']) (h' := h') J hP (fun b o hb e => hx b o hb e) htb hge ⟨oc, vs, t, hoc, hd, hv⟩
    have hE : ∀ b o, H b = some o → (∀ ps, o ≠ .tbl ps) → upd (upd H M (.tbl (ps ++ #[rawInt pos.line, rawInt pos.col, .ref c']))) c' (CodeO c' (X.env.qual ++ "<lambda>")) b = some o := fun b o e n => by
      rw [upd_ne (ne_of_none e nC), upd_ne (fun z => n ps (Option.some.inj (e.symm.trans (by rw [z]; exact hP))))]
      exact e
    have gE : ∀ b o, G b = some o → upd G c' (CodeO c' (X.env.qual ++ "<lambda>")) b = some o := fun b o e => by
      rw [upd_ne (ne_of_none e nG)]; exact e
    have hB : ∀ b ps0, H b = some (.tbl ps0) → ∃ ps', upd (upd H M (.tbl (ps ++ #[rawInt pos.line, rawInt pos.col, .ref c']))) c' (CodeO c' (X.env.qual ++ "<lambda>")) b = some (.tbl ps') := fun b ps0 e => by
      rw [upd_ne (ne_of_none e nC)]
      by_cases z : b = M
      · rw [z, upd_same]; exact ⟨_, rfl⟩
      · rw [upd_ne z]; exact ⟨_, e⟩
    have eL : (ps ++ #[rawInt pos.line, rawInt pos.col, .ref c']).toList = ps.toList ++ [rawInt pos.line, rawInt pos.col, .ref c'] := by simp
    have T1 : TabsG T (upd G c' (CodeO c' (X.env.qual ++ "<lambda>"))) (upd (upd H M (.tbl (ps ++ #[rawInt pos.line, rawInt pos.col, .ref c']))) c' (CodeO c' (X.env.qual ++ "<lambda>"))) := fun p hp => by
      by_cases hb : p.1 = M
      · rw [hu p hp hb, hb]
        refine ⟨_, by rw [upd_ne (ne_of_none hP nC), upd_same], by rw [eL]; exact PySem.TriplesOk_snoc _ _ _ _ ht, fun p' cv hcv => ?_⟩
        rw [eL] at hcv
        rcases among_app2 _ ht hcv with z | ⟨z, z1, z2⟩
        · obtain ⟨c0, e1, e2⟩ := ha p' cv z
          exact ⟨c0, e1, gE _ _ e2⟩
        · refine ⟨c', z, ?_⟩
          rw [← z1, ← z2, hn]
          exact upd_same
      · obtain ⟨ps', a1, a2, a3⟩ := hT p hp
        refine ⟨ps', by rw [upd_ne (ne_of_none a1 nC), upd_ne hb]; exact a1, a2, fun p' cv hcv => ?_⟩
        obtain ⟨c0, e1, e2⟩ := a3 p' cv hcv
        exact ⟨c0, e1, gE _ _ e2⟩
    have nF := J1.hok.fresh (Nat.le_refl _)
    have J2 := inv_lam (L := ⟨X.env.qual ++ "<lambda>", params, body, scope, cloFrom X.env.cells scope.names [], c'⟩) (t' := tk) (pm := (X.mg "__name__").getD .none) (ctv := ctv) J1
    refine k h'.objs.size c' _ _ J2 (fun b o e n => ?_) (fun b ps0 e => ?_) (fun b e => upd_none (upd_none (upd_none e))) (T1.keep (fun _ _ z => z) fun b ps0 e => ?_) (.inr nC) (J.hok.fresh (Nat.le_trans hge (Nat.le_of_lt hlt))) (Nat.ne_of_gt hlt) upd_same ?_
    · have e1 := hE b o e n
      exact (upd_ne (ne_of_none e1 nF)).trans e1
    · obtain ⟨ps1, e1⟩ := hB b ps0 e
      exact ⟨ps1, (upd_ne (ne_of_none e1 nF)).trans e1⟩
    · exact (upd_ne (ne_of_none e nF)).trans e
    · exact (upd_ne (Nat.ne_of_lt hlt)).trans upd_same
  | some cv =>
    obtain ⟨c', e, hco⟩ := ha pos cv hc
    subst e
    rw [hn] at hco
    refine PySem.W.kla_makeFunctionHit (mg := X.mg) (c := c) (P := M) (ps := ps) (closure_ok hfree) J.ok.glob (J.mod.glob.keeps J.bk) hcode (TB.code.keeps J.bk) hP' ht hc bP fun ctv h' tk hx hsz => ?_
    have J1 : Inv X pins σ H { s with heap := h', toks := tk } := J.kept hx
    have nF : H h'.objs.size = none := J1.hok.fresh (Nat.le_refl _)
    have J2 := inv_lam (L := ⟨X.env.qual ++ "<lambda>", params, body, scope, cloFrom X.env.cells scope.names [], c'⟩) (t' := tk) (pm := (X.mg "__name__").getD .none) (ctv := ctv) J1
    have gE : ∀ b o, G b = some o → upd G c' (CodeO c' (X.env.qual ++ "<lambda>")) b = some o := fun b o e => by
      by_cases z : b = c'
      · rw [z, upd_same, ← hco, ← z]; exact e
      · rw [upd_ne z]; exact e
    have hco2 := sub _ _ hco
    refine k h'.objs.size c' _ _ J2 (fun b o e n => ?_) (fun b ps0 e => ⟨ps0, (upd_ne (ne_of_none e nF)).trans e⟩) (fun b e => upd_none e) (hT.keep gE fun b ps0 e => (upd_ne (ne_of_none e nF)).trans e) (.inl hco) nF (fun z => by rw [z, hco2] at nF; cases nF) upd_same ?_
    · exact (upd_ne (ne_of_none e nF)).trans e
    · exact (upd_ne (ne_of_none hco2 nF)).trans hco2
end
end Py
end

section
set_option maxRecDepth 100000
/-! Side conditions that the written text settles. -/
namespace Py
open PySem PySem.Spec L2
def noStar : Expr → Bool
  | .Starred _ _ => false
  | _ => true
theorem starEach_cons {e : Expr} {es : List Expr} {env : Env} (h : noStar e = true) : starEach (e :: es) env = (false, eval e env) :: starEach es env := by
  cases e <;> first | rfl | (simp [noStar] at h)
theorem back_any {pos : Pos} {env : Env} : ∀ {es : List Expr}, es.all noStar = true → (backTo pos (starEach es env)).any (·.1) = false
  | [], _ => rfl
  | e :: es, h => by
    rw [List.all_cons, Bool.and_eq_true] at h
    rw [starEach_cons h.1]
    show (false || (backTo pos (starEach es env)).any (·.1)) = false
    rw [back_any h.2]
    rfl
theorem back_all {pos : Pos} {env : Env} : ∀ {es : List Expr}, es.all noStar = true → (backTo pos (starEach es env)).all (fun x => !x.1) = true
  | [], _ => rfl
  | e :: es, h => by
    rw [List.all_cons, Bool.and_eq_true] at h
    rw [starEach_cons h.1]
    show (true && (backTo pos (starEach es env)).all (fun x => !x.1)) = true
    rw [back_all h.2]
    rfl
theorem few {pos cpos : Pos} {env : Env} {es : List Expr} (h : es.all noStar = true) (hl : es.length < 30) : ((backTo cpos (starEach es env)).all (fun x => !x.1) && (backToKw cpos (keywordEach [] env)).all (fun x => x.1.isSome)
      && decide (es.length + ([] : List Keyword).length + (if ([] : List Keyword).isEmpty then 0 else 1) < 30)) = true := by
  rw [back_all h]
  simp [keywordEach, backToKw, hl]
def notComp : Expr → Bool
  | .ListComp _ _ _ _ => false
  | .SetComp _ _ _ _ => false
  | .DictComp _ _ _ _ _ => false
  | _ => true
theorem swaps_no {e : Expr} {t : Option Expr} {l : Nat} {env : Env} (h : notComp e = true) : swapsWith e t l env = pure false := by
  cases e <;> first | rfl | (simp [notComp] at h)
theorem swaps_sole {e : Expr} {t : Expr} {l : Nat} {env : Env} (h : notComp e = true) : swapsWithSole [t] e l env = pure false := swaps_no h
def notSlice : Expr → Bool
  | .Slice _ _ _ _ => false
  | _ => true
theorem plainIx {b : Expr} (h : notSlice b = true) : PlainIx b := by
  intro o i
  cases b <;> first | rfl | (simp [notSlice] at h)
def noSuper : Expr → Bool
  | .Call (.Name id _) [] [] _ => id != "super"
  | _ => true
theorem attr_base {o : Expr} {a : Str} {env : Env} {w : Sem Value} (h : noSuper o = true) : attributeBase o a env w = w := by
  unfold attributeBase
  split
  · rename_i id _ _
    have h : (id != ("super" : Str)) = true := h
    simp [h]
  · rfl
def plainTest : Expr → Bool
  | .UnaryOp _ _ _ => false
  | .BoolOp _ _ _ => false
  | .IfExp _ _ _ _ => false
  | .Compare _ _ _ _ => false
  | _ => true
theorem test_plain {e : Expr} {env : Env} (h : plainTest e = true) : ∀ whole, isTrue e env whole = (do let v ← whole; standAt e.pos; holding [v] (truthy v)) := by
  intro w
  cases e <;> first | rfl | (simp [plainTest] at h)
def notSet : Expr → Bool
  | .Set _ _ _ => false
  | _ => true
theorem set_no {e : Expr} {env : Env} (h : notSet e = true) : ∀ x, foldedSetIterable e env x = pure x := by
  intro x
  cases e <;> first | rfl | (simp [notSet] at h)
end Py
end

section
set_option maxRecDepth 100000
set_option maxHeartbeats 4000000
/-! enumerate of a tuple. -/
namespace Py
open PySem PySem.Spec PyProof.Rows L2
open AutoSeq1 (wpAny_loadPart')
def enumTIt (a : Addr) : Obj := { cls := .type "tuple_iterator", data := .fields #[.ref a, .int 0 0] }
def enumObj (it : Addr) : Obj := { cls := .type "enumerate", data := .fields #[.none, .bool false, .ref it, rawInt 0, .none, .none] }
theorem enum_newT (a : Addr) (vs : Array Value) (n : Nat) (dct : Option Addr) (sl : Array (Option Value)) :
    Meets (Builtin.«enumerate.__new__» ⟨[.type "enumerate", .ref a], []⟩) (fun _ R s => s.heap.get? a = some { cls := .type "tuple", dict := dct, data := .seq vs n, slots := sl } ∧
      R (.ok (.ret (.ref (s.heap.push (enumTIt a)).objs.size))) { s with heap := (s.heap.push (enumTIt a)).push (enumObj s.heap.objs.size) }) :=
  .of_wp fun prog w A R s z => by
    obtain ⟨hp, g, d, tk, os⟩ := s
    obtain ⟨ha, z⟩ := z
    have hsub := sub_enumerate
    have hT : Heap.IsTuple (Shared.heap ⟨hp, g, d, tk, os⟩) a vs := ⟨_, ha, rfl, n, rfl⟩
    wp_walk using wpAny_loadPart' ha
    refine wpAny_stack_any fun _ => wpAny_pure ?_
    split
    · rename_i c _ _ _ _ _
      cases (c == Value.type "enumerate")
      · wp_walk using wpAny_loadPart' ha, wpAny_pyIter_tuple hT
        exact ⟨_, rfl, z⟩
      · wp_walk using wpAny_loadPart' ha, wpAny_pyIter_tuple hT
        exact ⟨_, rfl, z⟩
    · wp_walk using wpAny_loadPart' ha, wpAny_pyIter_tuple hT
      exact ⟨_, rfl, z⟩
section
variable {prog : Program} {w : World} {A : Around} {E : Value → Shared → Prop} {s : Shared}
theorem call_enumT {a : Addr} {vs : Array Value} {Q : Value → Shared → Prop} (hT : s.heap.IsTuple a vs)
    (z : ∀ h', IsEnum h' (s.heap.objs.size + 1) s.heap.objs.size 0 .none → h'.IsTupleIter s.heap.objs.size a 0 → (∀ b o, s.heap.get? b = some o → h'.get? b = some o) → Q (.ref (s.heap.objs.size + 1)) { s with heap := h' }) :
    wpAny (model prog w) A (call (.type "enumerate") [.ref a]) Q E s := by
  obtain ⟨⟨c, dct, dt, sl⟩, ha, hc, n, hd⟩ := hT
  replace hc : c = .type "tuple" := hc
  replace hd : dt = .seq vs n := hd
  subst hc hd
  refine callType_new F.called_enumerate (by decide) (F.typeCall_enumerate_1 _) (F.newCall_enumerate_1 _) (fun obj => F.args_object_init_2 obj _) F.entry_enumerate_new (enum_newT a vs n dct sl) ⟨ha, ?_⟩
  have hz : (s.heap.push (enumTIt a)).objs.size = s.heap.objs.size + 1 := Heap.size_push ..
  show _ ∧ _
  rw [hz]
  have he : IsEnum ((s.heap.push (enumTIt a)).push (enumObj s.heap.objs.size)) (s.heap.objs.size + 1) s.heap.objs.size 0 .none := by
    have := Heap.get?_push_size (s.heap.push (enumTIt a)) (o := enumObj s.heap.objs.size) rfl
    rw [hz] at this
    exact this
  exact ⟨⟨_, he, rfl⟩, z _ he ⟨_, Heap.get?_push_of_some _ (Heap.get?_push_size _ rfl), rfl, rfl⟩ fun b o x => Heap.get?_push_of_some _ (Heap.get?_push_of_some _ x)⟩
end
theorem draws_tuple {prog : Program} {w : World} {A : Around} (hh : A.handled = none) (it a : Addr) (hne : a ≠ it) (vs : Array Value) :
    Draws prog w A it [it, a] vs.size (fun i v => vs[i]? = some v) (fun i h => h.IsTupleIter it a i ∧ h.IsTuple a vs) where
  live := fun _ _ st => let ⟨o, ho, _⟩ := st.1; ⟨o, ho⟩
  frame := fun _ _ _ st hk => ⟨st.1.at fun o e => hk it (by simp) o e, let ⟨o, e, r⟩ := st.2; ⟨o, hk a (by simp) o e, r⟩⟩
  item := fun i s Q E hi st hQ => by
    refine RZ.nextOf_tuple_item st.1 st.2 (x := vs[i]) (by simp [hi]) fun h' hit' hs' => ?_
    exact hQ _ h' s.toks (by simp [hi]) ⟨hit', let ⟨o, e, r⟩ := st.2; ⟨o, (hs'.2 a hne).trans e, r⟩⟩ hs'
  done := fun s Q E st hE => RZ.nextOf_tuple_end hh st.1 st.2 (by simp) hE
theorem enum_endT {prog : Program} {w : World} {A : Around} {E : Value → Shared → Prop} {s : Shared} {e it a : Addr} {i : Nat} {c : Int} {vs : Array Value} {old : Value} {Q : Option Value → Shared → Prop} (hh : A.handled = none)
    (he : IsEnum s.heap e it c old) (hit : s.heap.IsTupleIter it a i) (hl : s.heap.IsTuple a vs) (hx : vs[i]? = none)
    (z : ∀ h', Heap.ExtBut it s.heap h' → Q none { s with heap := h' }) : wpAny (model prog w) A (pyNext (.ref e)) Q E s := by
  have ty : s.TypeIs (.ref e) "enumerate" := ⟨_, he, rfl⟩
  unfold pyNext
  refine wpAny_bind (wpAny_attempt (wpAny_callSpecial?_slot (name := Str.ofString "__next__") ty F.slot_enumerate_next
    (wpAny_call_entry F.slot_enumerate_next ty F.entry_enumerate_next ?_ (F.args_enumerate_next_1 _))))
  show wpAny _ _ (field (.ref e) 2 >>= _) _ _ s
  refine wpAny_bind (wpAny_field he rfl (x := .ref it) rfl ?_)
  refine wpAny_bind (RZ.nextOf_tuple_end hh hit hl hx fun h' x q1 q2 => ?_)
  obtain ⟨o, ho, hc⟩ := q2
  refine wpAny_bind (wpAny_isInstance (T := "StopIteration") (b := true) ⟨o, ho, hc⟩ isSubtype_stop ?_)
  exact wpAny_pure (z _ q1)
/-- the tuple at a, each item in a new pair -/
def ItET (K : PySem.W.Frag) (a : Addr) : L2.It :=
  ⟨fun i H => ∃ (xs : List V) (x : V), SqT K H a xs ∧ xs[i]? = some x, fun i H v H' => ∃ p x, v = .ref p ∧ H p = none ∧ H' = upd H p (.tup [.int (i : Nat), x]) ∧ ∀ xs, SqT K H a xs → xs[i]? = some x, fun i H => ∃ xs : List V, SqT K H a xs ∧ xs.length ≤ i⟩
theorem turn_enumT {P : Program} {w : World} {K : PySem.W.Frag} {elts : List Expr} {kk : Nat} {tpos : Pos} (a e it : Addr) :
    Turn P w K (.Tuple elts kk tpos) (ItET K a) [e, it] e (fun i h => (∃ old, IsEnum h e it ((i : Nat) : Int) old) ∧ h.IsTupleIter it a i ∧ e ≠ it) where
  mem := List.mem_cons_self
  obj := fun i h st b hb => by
    obtain ⟨⟨old, he⟩, ⟨o, ho, hc, hd⟩, _⟩ := st
    rcases (by simpa using hb : b = e ∨ b = it) with z | z
    · rw [z]; exact ⟨_, he, fun v q => by cases q⟩
    · rw [z]; exact ⟨o, ho, fun v q => by rw [hd] at q; cases q⟩
  keep := fun i h h' st k => let ⟨⟨old, he⟩, hi, hne⟩ := st; ⟨⟨old, k e List.mem_cons_self _ he⟩, hi.at fun o q => k it (by simp) o q, hne⟩
  item := by
    intro X hP hw hK hc i pins s σ H E J hf st hg
    subst hP hw hK
    obtain ⟨⟨old, he⟩, hit, hne⟩ := st
    obtain ⟨xs, x, hq, hx⟩ := hg
    obtain ⟨its, rv, p, hz⟩ := J.tuple hq
    obtain ⟨u, hu, ru⟩ := rv.get hx
    have hel := Heap.lt_size he
    have hil : it < s.heap.objs.size := by obtain ⟨_, q, _⟩ := hit; exact Heap.lt_size q
    have hae : a ≠ e := by
      obtain ⟨o, h1, h2, _⟩ := p
      intro z
      rw [z, he] at h1
      cases h1
      exact absurd h2 (by simp)
    have hai : a ≠ it := by
      obtain ⟨o, h1, h2, _⟩ := p
      obtain ⟨o2, g1, g2, _⟩ := hit
      intro z
      rw [z, g1] at h1
      cases h1
      rw [h2] at g2
      exact absurd g2 (by simp)
    have hlt : i < its.toArray.size := by
      rw [List.size_toArray, ← rv.length]
      exact (List.getElem?_eq_some_iff.mp hx).1
    refine wpAny_pyNext_enum_itemD (draws_tuple (A := X.A.in1) (J.ok.hd hc) it a hai its.toArray) he ⟨hit, p⟩ hlt hne (by simp [hne, Ne.symm hae]) fun v h' tk hv ho hst hT hsz hk => ?_
    have hv' : v = u := by
      have : its[i]? = some v := by simpa using hv
      rw [hu] at this
      exact (Option.some.inj this).symm
    subst hv'
    refine ⟨_, rfl, wpAny_letOwnedTupleGo_enum (s := { s with heap := h', toks := tk + 1 }) ho fun h'' he' sb => ?_⟩
    have hT2 : h''.get? s.heap.objs.size = some { cls := .type "tuple", data := .seq #[.int i tk, v] } := (sb.2 _ (Nat.ne_of_gt hel)).trans hT
    have new : ObjOk X.prog X.w (upd H s.heap.objs.size (.tup [.int (i : Nat), x])) h'' s.heap.objs.size (.tup [.int (i : Nat), x]) :=
      ⟨by show 2 ≤ sizeLine; decide, [.int i tk, v], .cons ⟨_, rfl⟩ (.cons ru .nil), ⟨_, hT2, rfl, _, rfl⟩⟩
    have J1 : Inv X pins σ (upd H s.heap.objs.size (.tup [.int (i : Nat), x])) { s with heap := h'', toks := tk + 1 } :=
      J.turnedNew (ch := [e, it]) (fun b ob hb q => (sb.2 b (fun z => hb (by simp [z]))).trans (hk b ob (fun z => hb (by simp [z])) (fun z => hb (by simp [z])) q)) hf (Nat.le_refl _) new
    refine ⟨.ref s.heap.objs.size, _, J1, rfl, ⟨_, x, rfl, J.hok.fresh (Nat.le_refl _), rfl, fun ys hy => by rw [J.tuple_inj hy hq]; exact hx⟩, ⟨⟨v, ?_⟩, hst.1.at fun o q => (sb.2 it (Ne.symm hne)).trans q, hne⟩, fun b hb => ?_⟩
    · have e1 : ((i + 1 : Nat) : Int) = (i : Int) + 1 := by omega
      rw [e1]
      exact he'
    · have hb' : b < s.heap.objs.size := by
        rcases (by simpa using hb : b = e ∨ b = it) with z | z
        · rw [z]; exact hel
        · rw [z]; exact hil
      rw [upd_ne (Nat.ne_of_lt hb')]
      exact (hf b hb).1
  done := by
    intro X hP hw hK hc i pins s σ H E J hf st hg
    subst hP hw hK
    obtain ⟨⟨old, he⟩, hit, hne⟩ := st
    obtain ⟨xs, hq, hx⟩ := hg
    obtain ⟨its, rv, p, hz⟩ := J.tuple hq
    have hai : a ≠ it := by
      obtain ⟨o, h1, h2, _⟩ := p
      obtain ⟨o2, g1, g2, _⟩ := hit
      intro z
      rw [z, g1] at h1
      cases h1
      rw [h2] at g2
      exact absurd g2 (by simp)
    obtain ⟨f0, f1, f2, f3, f4, f5⟩ := hf it (by simp)
    have hl := rv.length
    exact enum_endT (J.ok.hd hc) he hit p (by simp; omega) fun h' eb => ⟨rfl, J.turned (t' := s.toks) (fun b o hb q => eb b o hb q) f0 f1 f3 f4 f5⟩
  self := fun A i s Q E st h => let ⟨⟨_, he⟩, _⟩ := st; wpAny_pyIter_enum he h
end Py
end

section
set_option maxRecDepth 100000
set_option maxHeartbeats 2000000
/-! Arguments meet parameters, any number of them. -/
namespace Py
open PySem PySem.Spec
def plainPar (p : Arguments) (ps : List Str) : Bool := p.posonlyargs.isEmpty && p.vararg.isNone && p.kwonlyargs.isEmpty && p.kwarg.isNone && decide (p.args.map (·.arg) = ps) && decide ps.Nodup
theorem plain_of {p : Arguments} {ps : List Str} (h : plainPar p ps = true) : p.posonlyargs = [] ∧ p.vararg = none ∧ p.kwonlyargs = [] ∧ p.kwarg = none ∧ p.args.map (·.arg) = ps ∧ ps.Nodup := by
  unfold plainPar at h
  simp only [Bool.and_eq_true, List.isEmpty_iff, Option.isNone_iff_eq_none, decide_eq_true_eq] at h
  obtain ⟨⟨⟨⟨⟨h1, h2⟩, h3⟩, h4⟩, h5⟩, h6⟩ := h
  exact ⟨h1, h2, h3, h4, h5, h6⟩
theorem zip_at : ∀ {ps : List Str} {us : List Value} {i : Nat} {x : Str}, ps.Nodup → ps[i]? = some x → us.length = ps.length → (ps.zip us).lookup x = us[i]?
  | [], _, i, x, _, h, _ => by simp at h
  | p :: ps, [], i, x, _, _, h => by simp at h
  | p :: ps, u :: us, 0, x, _, h, _ => by
    simp at h
    subst h
    simp [List.lookup]
  | p :: ps, u :: us, i + 1, x, nd, h, hl => by
    have hn : x ≠ p := fun z => (List.nodup_cons.mp nd).1 (z ▸ List.mem_of_getElem? (by simpa using h))
    have hb : (x == p) = false := by simpa using hn
    rw [List.zip_cons_cons, List.lookup_cons, hb]
    simpa using zip_at (i := i) (List.nodup_cons.mp nd).2 (by simpa using h) (by simpa using hl)
theorem zip_all {ps : List Str} {us : List Value} {f : Str → Option Value} : ∀ (qs : List Str) (ws : List Value), ws.length = qs.length → (∀ (i : Nat) (x : Str), qs[i]? = some x → f x = ws[i]?) → qs.filterMap (fun n => (f n).map (n, ·)) = qs.zip ws
  | [], ws, _, _ => by simp
  | q :: qs, [], h, _ => by simp at h
  | q :: qs, w :: ws, h, hf => by
    have h0 := hf 0 q rfl
    simp only [List.getElem?_cons_zero] at h0
    rw [List.filterMap_cons, h0]
    simp only [Option.map_some, List.zip_cons_cons, List.cons.injEq, true_and]
    exact zip_all (ps := ps) (us := us) qs ws (by simpa using h) fun i x e => by simpa using hf (i + 1) x (by simpa using e)
theorem no_miss {ps : List Str} {sl : List (Str × Value)} (h : ∀ x ∈ ps, (sl.lookup x).isNone = false) : (ps.filter fun n => (sl.lookup n).isNone) = [] := by
  rw [List.filter_eq_nil_iff]
  intro x hx
  rw [h x hx]
  exact Bool.false_ne_true
theorem bind_pos {fd : FuncData} {ps : List Str} {us : List Value} (h : plainPar fd.params ps = true) (hd : fd.defaults = .none) (hl : us.length = ps.length) : bindArgs fd ⟨us, []⟩ = pure (ps.zip us) := by
  obtain ⟨h1, h2, h3, h4, h5, h6⟩ := plain_of h
  have hm : (ps.filter fun n => ((ps.zip us).lookup n).isNone) = [] := no_miss fun x hx => by
    obtain ⟨i, hi⟩ := List.mem_iff_getElem?.mp hx
    rw [zip_at h6 hi hl]
    have : i < us.length := by rw [hl]; exact (List.getElem?_eq_some_iff.mp hi).1
    rw [List.getElem?_eq_getElem this]; rfl
  have hz : (ps.filterMap fun n => ((ps.zip us).lookup n).map (n, ·)) = ps.zip us := zip_all (ps := ps) (us := us) ps us hl fun i x e => zip_at h6 e hl
  unfold bindArgs
  simp [h1, h2, h3, h4, h5, hd, seqItems?, notAStandIn, hl, hm, hz]
/-- the places of the parameters among the names given -/
def kwPerm (ps ks : List Str) (perm : List Nat) : Bool := decide (perm.map (fun i => ks[i]?) = ps.map some) && decide ks.Nodup && ks.all (ps.contains ·) && decide (perm.length = ps.length)
theorem kw_loop {normal : List Str} {f : Str × Value → List (Str × Value) × List (Str × Value) → Sem (ForInStep (List (Str × Value) × List (Str × Value)))}
    (hf : ∀ k v e s, normal.contains k = true → (s.lookup k).isSome = false → f (k, v) (s, e) = pure (.yield (s ++ [(k, v)], e))) : ∀ (l : List (Str × Value)) (e s : List (Str × Value)), (∀ q ∈ l, normal.contains q.1 = true) → ((s ++ l).map fun q => q.1).Nodup → forIn l (s, e) f = pure (s ++ l, e)
  | [], e, s, _, _ => by simp
  | (k, v) :: l, e, s, hn, nd => by
    have hl : (s.lookup k).isSome = false := by
      cases q : s.lookup k with
      | none => rfl
      | some u =>
        have hm := PySem.mem_of_lookup q
        rw [List.map_append, List.map_cons, List.nodup_append] at nd
        exact absurd rfl (nd.2.2 k (List.mem_map.mpr ⟨_, hm, rfl⟩) k List.mem_cons_self)
    have := kw_loop hf l e (s ++ [(k, v)]) (fun q hq => hn q (List.mem_cons_of_mem _ hq)) (by simpa using nd)
    rw [List.forIn_cons, hf k v e s (hn _ List.mem_cons_self) hl, pure_bind]
    show forIn l (s ++ [(k, v)], e) f = _
    rw [this]
    simp
theorem kw_at {ks ps : List Str} {perm : List Nat} {us : List Value} (h : perm.map (fun i => ks[i]?) = ps.map some) (nd : ks.Nodup) (hl : us.length = ks.length) {i : Nat} {x : Str} (hx : ps[i]? = some x) : (ks.zip us).lookup x = (perm.map fun j => us.getD j .none)[i]? := by
  have e : (perm.map fun j => ks[j]?)[i]? = some (some x) := by rw [h, List.getElem?_map, hx]; rfl
  rw [List.getElem?_map, Option.map_eq_some_iff] at e
  obtain ⟨j, e1, e2⟩ := e
  rw [zip_at nd e2 hl, List.getElem?_map, e1]
  have : j < us.length := by rw [hl]; exact (List.getElem?_eq_some_iff.mp e2).1
  simp [List.getD, List.getElem?_eq_getElem this]
theorem bind_kws {fd : FuncData} {ps ks : List Str} {perm : List Nat} {us ws : List Value} (h : plainPar fd.params ps = true) (hd : fd.defaults = .none) (hk : kwPerm ps ks perm = true) (hl : us.length = ks.length) (hp : ws = perm.map fun i => us.getD i .none) : bindArgs fd ⟨[], ks.zip us⟩ = pure (ps.zip ws) := by
  obtain ⟨h1, h2, h3, h4, h5, h6⟩ := plain_of h
  unfold kwPerm at hk
  simp only [Bool.and_eq_true, decide_eq_true_eq] at hk
  obtain ⟨⟨⟨k1, k2⟩, k3⟩, _⟩ := hk
  have hlen : ws.length = ps.length := by
    have := congrArg List.length k1
    rw [hp]
    simpa using this
  have hat : ∀ (i : Nat) (x : Str), ps[i]? = some x → (ks.zip us).lookup x = ws[i]? := fun i x hx => by
    rw [hp]; exact kw_at k1 k2 hl hx
  have sub : ∀ q ∈ ks.zip us, ps.contains q.1 = true := fun q hq => by
    exact List.all_eq_true.mp k3 _ (List.of_mem_zip (show (q.1, q.2) ∈ ks.zip us from hq)).1
  have hm : (ps.filter fun n => ((ks.zip us).lookup n).isNone) = [] := no_miss fun x hx => by
    obtain ⟨i, hi⟩ := List.mem_iff_getElem?.mp hx
    rw [hat i x hi]
    have : i < ws.length := by rw [hlen]; exact (List.getElem?_eq_some_iff.mp hi).1
    rw [List.getElem?_eq_getElem this]; rfl
  have hz : (ps.filterMap fun n => ((ks.zip us).lookup n).map (n, ·)) = ps.zip ws := zip_all (ps := ps) (us := us) ps ws hlen hat
  unfold bindArgs
  simp only [h1, h2, h3, h4, h5, hd, seqItems?, notAStandIn, List.map_nil, List.nil_append, List.zip_nil_right]
  rw [kw_loop (normal := ps) (fun k v e s c1 c2 => by simp only [c1, Bool.true_or, if_true, c2, Bool.false_eq_true, if_false]) (ks.zip us) [] [] sub (by
    rw [List.nil_append]
    have : (ks.zip us).map (fun q => q.1) = ks := List.map_fst_zip (by rw [hl]; exact Nat.le_refl _)
    rw [this]
    exact k2)]
  simp [hm, hz]
end Py
end

section
/-! The evaluator: value trees, the small language, what it does. Plain Lean. -/
namespace Py
abbrev Sy := List Nat
/-- values as trees -/
inductive T where
  | non | bl (b : Bool) | int (i : Int) | str (s : Sy)
  | tup (l : List T) | lst (l : List T) | dct (ks vs : List T)
  | fn (f : Nat) (caps : List T)
  | ins (c : Nat) (fs : List T)
  | exn (c : Nat) (fs : List T)
deriving Inhabited
/-- what a local name holds: nothing; a value; a list, dict, instance that no one else holds -/
inductive Sl where
  | no | sh (t : T) | ow (t : T)
  /-- lent by the caller: changed in its place, never shared, never stored anew -/
  | bo (t : T)
deriving Inhabited
def Sl.val : Sl → Option T
  | .no => none
  | .sh t => some t
  | .ow t => some t
  | .bo t => some t
/-! ### equality, order -/
mutual
/-- Python's == of data, so deep at most; none: not told -/
def eqN : Nat → T → T → Option Bool
  | _, .non, .non => some true
  | _, .bl a, .bl b => some (a == b)
  | _, .int a, .int b => some (a == b)
  | _, .bl a, .int b => some ((if a then 1 else 0) == b)
  | _, .int a, .bl b => some (a == (if b then 1 else 0))
  | _, .str a, .str b => some (a == b)
  | n, .tup a, .tup b => match n with
    | 0 => none
    | m + 1 => eqTs m a b
  | n, .lst a, .lst b => match n with
    | 0 => none
    | m + 1 => eqTs m a b
  | _, .non, .bl _ | _, .non, .int _ | _, .non, .str _ | _, .bl _, .non | _, .int _, .non | _, .str _, .non => some false
  | _, .bl _, .str _ | _, .int _, .str _ | _, .str _, .bl _ | _, .str _, .int _ => some false
  | _, .non, .tup _ | _, .bl _, .tup _ | _, .int _, .tup _ | _, .str _, .tup _ | _, .tup _, .non | _, .tup _, .bl _ | _, .tup _, .int _ | _, .tup _, .str _ => some false
  | _, .non, .lst _ | _, .bl _, .lst _ | _, .int _, .lst _ | _, .str _, .lst _ | _, .lst _, .non | _, .lst _, .bl _ | _, .lst _, .int _ | _, .lst _, .str _ => some false
  | _, .lst _, .tup _ | _, .tup _, .lst _ => some false
  | _, _, _ => none
/-- item by item, as long as both go; then the lengths -/
def eqTs : Nat → List T → List T → Option Bool
  | _, [], [] => some true
  | _, [], _ :: _ => some false
  | _, _ :: _, [] => some false
  | n, a :: as, b :: bs => match eqN n a b, eqTs n as bs with
    | some x, some y => some (x && y)
    | _, _ => none
end
abbrev deepMost : Nat := 50
abbrev eqT : T → T → Option Bool := eqN deepMost
/-- which ones of a row are equal -/
def eqsTo (x : T) : List T → Option (List Bool)
  | [] => some []
  | y :: ys => match eqT y x, eqsTo x ys with
    | some b, some bs => some (b :: bs)
    | _, _ => none
def inTs (x : T) (l : List T) : Option Bool := (eqsTo x l).map (·.any id)
def ixTs (x : T) (l : List T) : Option Nat := (eqsTo x l).bind (·.idxOf? true)
def ltSy : Sy → Sy → Bool
  | [], [] => false
  | [], _ :: _ => true
  | _ :: _, [] => false
  | a :: as, b :: bs => if a = b then ltSy as bs else decide (a < b)
mutual
/-- Python's < -/
def ltN : Nat → T → T → Option Bool
  | _, .int a, .int b => some (decide (a < b))
  | _, .bl a, .bl b => some (decide ((if a then 1 else 0) < (if b then 1 else 0)))
  | _, .str a, .str b => some (ltSy a b)
  | n, .tup a, .tup b => match n with
    | 0 => none
    | m + 1 => ltTs m a b
  | _, _, _ => none
def ltTs : Nat → List T → List T → Option Bool
  | _, [], [] => some false
  | _, [], _ :: _ => some true
  | _, _ :: _, [] => some false
  | n, a :: as, b :: bs => match eqN n a b, ltTs n as bs with
    | some true, some k => some k
    | some false, some _ => ltN n a b
    | _, _ => none
end
abbrev ltT : T → T → Option Bool := ltN deepMost

/-! ### operations on values -/
abbrev sizeMost : Nat := 1048576
def fits {α : Type} (l : List α) : Bool := decide (l.length ≤ sizeMost)
inductive Bop | add | sub | mul | fdiv | mod | pow | band | bor | shl
deriving DecidableEq
inductive Cop | eq | ne | lt | le | gt | ge | in_ | nin | is_ | isn
deriving DecidableEq
/-- a sub in s, at any place -/
def subSy (s : Sy) : Sy → Bool
  | [] => s.isEmpty
  | c :: cs => s.isPrefixOf (c :: cs) || subSy s cs
def ipow (a : Int) (b : Int) : Int := a ^ b.toNat
def bopV : Bop → T → T → Option Sl
  | .add, .int a, .int b => some (.sh (.int (a + b)))
  | .add, .str a, .str b => if fits a && fits b then some (.sh (.str (a ++ b))) else none
  | .add, .tup a, .tup b => if fits a && fits b then some (.sh (.tup (a ++ b))) else none
  | .add, .lst a, .lst b => if fits a && fits b then some (.ow (.lst (a ++ b))) else none
  | .sub, .int a, .int b => some (.sh (.int (a - b)))
  | .mul, .int a, .int b => if decide (a.natAbs < 2 ^ 64) || decide (b.natAbs < 2 ^ 64) then some (.sh (.int (a * b))) else none
  | .fdiv, .int a, .int b => if decide (0 < b) && decide (b < 1073741824) then some (.sh (.int (a / b))) else none
  | .mod, .int a, .int b => if decide (0 < b) then some (.sh (.int (a % b))) else none
  | .pow, .int a, .int b => if decide (0 ≤ b) && decide (b ≤ 1000) && decide (a.natAbs < 1000) then some (.sh (.int (a ^ b.toNat))) else none
  | .band, .int a, .int b => if decide (0 ≤ a) && decide (0 ≤ b) then some (.sh (.int ((a.toNat &&& b.toNat : Nat) : Int))) else none
  | .bor, .int a, .int b => if decide (0 ≤ a) && decide (0 ≤ b) then some (.sh (.int ((a.toNat ||| b.toNat : Nat) : Int))) else none
  | .shl, .int a, .int b => if decide (0 ≤ b) && decide (b ≤ 1000) && decide (a.natAbs < 1000) then some (.sh (.int (a * 2 ^ b.toNat))) else none
  | _, _, _ => none
def isData0 : T → Bool
  | .non | .bl _ | .int _ | .str _ => true
  | _ => false
def cmpV : Cop → T → T → Option Bool
  | .eq, a, b => eqT a b
  | .ne, a, b => (eqT a b).map (!·)
  | .lt, a, b => ltT a b
  | .gt, .int a, .int b => some (decide (b < a))
  | .gt, .str a, .str b => some (ltSy b a)
  | .le, .int a, .int b => some (decide (a ≤ b))
  | .ge, .int a, .int b => some (decide (b ≤ a))
  | .in_, .str [c], .str b => some (b.contains c)
  | .nin, .str [c], .str b => some (!b.contains c)
  | .in_, a, .lst b => inTs a b
  | .nin, a, .lst b => (inTs a b).map (!·)
  | .in_, a, .tup b => inTs a b
  | .nin, a, .tup b => (inTs a b).map (!·)
  | .in_, a, .dct ks _ => inTs a ks
  | .nin, a, .dct ks _ => (inTs a ks).map (!·)
  | .is_, .bl a, .bl b => some (a == b)
  | .isn, .bl a, .bl b => some (a != b)
  | .is_, .non, .non => some true
  | .isn, .non, .non => some false
  | .is_, .bl _, .non | .is_, .int _, .non | .is_, .str _, .non | .is_, .tup _, .non | .is_, .lst _, .non | .is_, .dct _ _, .non | .is_, .ins _ _, .non | .is_, .exn _ _, .non => some false
  | .isn, .bl _, .non | .isn, .int _, .non | .isn, .str _, .non | .isn, .tup _, .non | .isn, .lst _, .non | .isn, .dct _ _, .non | .isn, .ins _ _, .non | .isn, .exn _ _, .non => some true
  | _, _, _ => none
/-- a place counted from the end too -/
def placeOf (n : Nat) (i : Int) : Option Nat :=
  if 0 ≤ i then (if i < n then some i.toNat else none) else if -(n : Int) ≤ i then some (i + n).toNat else none
def getK (k : T) : List T → List T → Option (Option T)
  | [], _ => some none
  | _ :: _, [] => none
  | x :: xs, v :: vs => match eqT x k with
    | some true => some (some v)
    | some false => getK k xs vs
    | none => none
def putK (k v : T) : List T → List T → Option (List T × List T)
  | [], _ => some ([k], [v])
  | _ :: _, [] => none
  | x :: xs, w :: ws => match eqT x k with
    | some true => some (x :: xs, v :: ws)
    | some false => (putK k v xs ws).map fun r => (x :: r.1, w :: r.2)
    | none => none
def subV : T → T → Option T
  | .lst l, .int i => (placeOf l.length i).bind fun k => l[k]?
  | .tup l, .int i => (placeOf l.length i).bind fun k => l[k]?
  | .str s, .int i => if fits s then (placeOf s.length i).bind fun k => (s[k]?).map fun c => .str [c] else none
  | .dct ks vs, k => (getK k ks vs).bind id
  | _, _ => none
/-- a slice's bound -/
def cutAt (n d : Nat) : Option Int → Nat
  | none => d
  | some v => if v < 0 then (v + n).toNat else min v.toNat n
def cut {α : Type} (l : List α) (lo hi : Option Int) : List α :=
  (l.drop (cutAt l.length 0 lo)).take (cutAt l.length l.length hi - cutAt l.length 0 lo)
def sliV (a : T) (lo hi : Option Int) : Option Sl :=
  match a with
  | .tup l => some (.sh (.tup (cut l lo hi)))
  | .lst l => some (.ow (.lst (cut l lo hi)))
  | _ => none
def digit (c : Nat) : Bool := decide (48 ≤ c) && decide (c ≤ 57)
def numOf (s : Sy) : Nat := s.foldl (fun n c => n * 10 + (c - 48)) 0
def figsAux : Nat → Nat → Sy → Sy
  | 0, _, acc => acc
  | f + 1, n, acc => if n < 10 then (n + 48) :: acc else figsAux f (n / 10) ((n % 10 + 48) :: acc)
def figs (n : Nat) : Sy := figsAux (n + 1) n []
def strOf (i : Int) : Sy := if i < 0 then 45 :: figs i.natAbs else figs i.natAbs
/-- every item told -/
def bools : List T → Option (List Bool)
  | [] => some []
  | .bl b :: r => (bools r).map (b :: ·)
  | _ => none
def sumI : List T → Option Int
  | [] => some 0
  | .int i :: r => (sumI r).map (i + ·)
  | _ => none
open PySem in
mutual
def toD : T → PyData
  | .bl b => .bool b
  | .int i => .int i
  | .str s => .str ⟨s.toArray⟩
  | .tup l => .tuple (toDs l)
  | .lst l => .list (toDs l)
  | _ => .none
def toDs : List T → List PyData
  | [] => []
  | x :: xs => toD x :: toDs xs
end
open PySem in
mutual
def ofD : PyData → T
  | .none => .non
  | .bool b => .bl b
  | .int i => .int i
  | .str s => .str s.cps.toList
  | .tuple l => .tup (ofDs l)
  | .list l => .lst (ofDs l)
  | .dict _ => .non
def ofDs : List PyData → List T
  | [] => []
  | x :: xs => ofD x :: ofDs xs
end
mutual
/-- data of known kinds, so deep at most -/
def isD : Nat → T → Bool
  | _, .bl _ => true
  | _, .int _ => true
  | _, .str _ => true
  | 0, _ => false
  | n + 1, .tup l => isDs n l
  | n + 1, .lst l => isDs n l
  | _, _ => false
def isDs : Nat → List T → Bool
  | _, [] => true
  | n, x :: xs => isD n x && isDs n xs
end
/-- data of one kind, so that any two are comparable -/
def okD (l : List T) : Bool := isDs deepMost l && l.all fun x => l.all fun y => PySem.W.alike (toD x) (toD y)
def tupD : T → Bool
  | .tup (_ :: _) => true
  | _ => false
def okSort (l : List T) : Bool := okD l && (l.all tupD || l.all fun x => match x with
  | .tup _ => false
  | _ => true)
def sortD (l : List T) : List T := l.mergeSort (PySem.W.dataLe false toD)
def maxT (a : T) (r : List T) : T := ofD (PySem.W.maxD (toD a) (toDs r))
def minT (a : T) (r : List T) : T := ofD (PySem.W.minD (toD a) (toDs r))
/-- what is walked -/
def itemsOf : T → Option (List T)
  | .lst l => some l
  | .tup l => some l
  | .str s => some (s.map fun c => .str [c])
  | .dct ks _ => some ks
  | _ => none
inductive Blt | len | int | str | abs | all | any | sum | max | min | max0 | min0 | list | tuple | sorted | divmod | gcd
deriving DecidableEq
def bltV : Blt → List T → Option Sl
  | .len, [.lst l] => some (.sh (.int l.length))
  | .len, [.tup l] => some (.sh (.int l.length))
  | .len, [.str l] => if fits l then some (.sh (.int l.length)) else none
  | .len, [.dct ks _] => some (.sh (.int ks.length))
  | .int, [.int i] => some (.sh (.int i))
  | .int, [.bl b] => some (.sh (.int (if b then 1 else 0)))
  | .str, [.int i] => if decide (i.natAbs < 10 ^ 600) then some (.sh (.str (strOf i))) else none
  | .str, [.str s] => some (.sh (.str s))
  | .abs, [.int i] => some (.sh (.int i.natAbs))
  | .all, [.lst l] => (bools l).map fun bs => .sh (.bl (bs.all id))
  | .any, [.lst l] => (bools l).map fun bs => .sh (.bl (bs.any id))
  | .sum, [.lst l] => (sumI l).map fun i => .sh (.int i)
  | .sum, [.tup l] => (sumI l).map fun i => .sh (.int i)
  | .max, [.int a, .int b] => some (.sh (.int (if a < b then b else a)))
  | .min, [.int a, .int b] => some (.sh (.int (if b < a then b else a)))
  | .max, [.lst (a :: r)] => if okD (a :: r) then some (.sh (maxT a r)) else none
  | .min, [.lst (a :: r)] => if okD (a :: r) then some (.sh (minT a r)) else none
  | .list, [.lst l] => some (.ow (.lst l))
  | .list, [.tup l] => some (.ow (.lst l))
  | .tuple, [.lst l] => some (.sh (.tup l))
  | .tuple, [.tup l] => some (.sh (.tup l))
  | .sorted, [.lst l] => if okSort l then some (.ow (.lst (sortD l))) else none
  | .divmod, [.int a, .int b] => if decide (0 < b) && decide (b < 1073741824) then some (.sh (.tup [.int (a / b), .int (a % b)])) else none
  | .gcd, [.int a, .int b] => some (.sh (.int (Int.gcd a b)))
  | _, _ => none
/-! texts -/
/-- s without sep ahead of it -/
def dropPre : Sy → Sy → Option Sy
  | [], s => some s
  | _ :: _, [] => none
  | a :: as, b :: bs => if a = b then dropPre as bs else none
def splitSy (sep : Sy) : Nat → Sy → Sy → List Sy
  | 0, acc, s => [acc.reverse ++ s]
  | f + 1, acc, s => match dropPre sep s with
    | some r => acc.reverse :: splitSy sep f [] r
    | none => match s with
      | [] => [acc.reverse]
      | c :: cs => splitSy sep f (c :: acc) cs
def joinSy (sep : Sy) : List Sy → Sy
  | [] => []
  | [a] => a
  | a :: r => a ++ sep ++ joinSy sep r
def replSy (a b : Sy) : Nat → Sy → Sy
  | 0, s => s
  | f + 1, s => match dropPre a s with
    | some r => b ++ replSy a b f r
    | none => match s with
      | [] => []
      | c :: cs => c :: replSy a b f cs
def upperC (c : Nat) : Nat := if 97 ≤ c ∧ c ≤ 122 then c - 32 else c
def strsOf : List T → Option (List Sy)
  | [] => some []
  | .str s :: r => (strsOf r).map (s :: ·)
  | _ => none
def countL (x : T) (l : List T) : Option Nat := (eqsTo x l).map (·.count true)
inductive Mth | index | count | upper | split | join | replace | get | get2
deriving DecidableEq
def mthV : Mth → List T → Option Sl
  | .index, [.lst l, x] => if isData0 x && l.all isData0 then (ixTs x l).map fun (k : Nat) => .sh (.int k) else none
  | .index, [.tup l, x] => if isData0 x && l.all isData0 then (ixTs x l).map fun (k : Nat) => .sh (.int k) else none
  | .count, [.lst l, x] => (countL x l).map fun (k : Nat) => .sh (.int k)
  | .count, [.tup l, x] => (countL x l).map fun (k : Nat) => .sh (.int k)
  | .upper, [.str s] => if s.all (fun c => decide (c < 128)) then some (.sh (.str (s.map upperC))) else none
  | .split, [.str s, .str sep] => if !sep.isEmpty && decide (s.length ≤ 100000) then some (.ow (.lst ((splitSy sep (s.length + 1) [] s).map .str))) else none
  | .join, [.str sep, .lst l] => (strsOf l).bind fun ss => if decide ((joinSy sep ss).length ≤ 1000000) then some (.sh (.str (joinSy sep ss))) else none
  | .join, [.str sep, .tup l] => (strsOf l).bind fun ss => if decide ((joinSy sep ss).length ≤ 1000000) then some (.sh (.str (joinSy sep ss))) else none
  | .replace, [.str s, .str a, .str b] => if !a.isEmpty && decide (s.length ≤ 10000) && decide (b.length ≤ 10000) then some (.sh (.str (replSy a b (s.length + 1) s))) else none
  | .get, [.dct ks vs, k] => (getK k ks vs).map fun o => .sh (o.getD .non)
  | .get2, [.dct ks vs, k, d] => (getK k ks vs).map fun o => .sh (o.getD d)
  | _, _ => none
/-- methods that change what the name holds: the answer, what is held then -/
inductive Mut | append | extend | pop | popAt | setd | setdApp
deriving DecidableEq
def mutV : Mut → T → List T → Option (T × T)
  | .append, .lst l, [x] => if decide (l.length < sizeMost) then some (.non, .lst (l ++ [x])) else none
  | .extend, .lst l, [.lst m] => if decide (l.length + m.length ≤ sizeMost) then some (.non, .lst (l ++ m)) else none
  | .pop, .lst l, [] => match l.getLast? with
    | some x => some (x, .lst l.dropLast)
    | none => none
  | .popAt, .lst l, [.int i] => (placeOf l.length i).bind fun k => (l[k]?).map fun x => (x, .lst (l.eraseIdx k))
  | .setd, .dct ks vs, [k, d] => (getK k ks vs).bind fun o => match o with
    | some v => some (v, .dct ks vs)
    | none => (putK k d ks vs).map fun r => (d, .dct r.1 r.2)
  | _, _, _ => none
def setV : T → T → T → Option T
  | .lst l, .int i, v => (placeOf l.length i).map fun k => .lst (l.set k v)
  | .dct ks vs, k, v => (putK k v ks vs).map fun r => .dct r.1 r.2
  | _, _, _ => none

/-! ### the language -/
inductive Cls | int | bool | str | tuple | list | dict | own (k : Nat) | valueError
deriving DecidableEq
mutual
inductive E where
  /-- a local name, its value from now on shared -/
  | nm (i : Nat)
  /-- a local name, only looked at -/
  | pk (i : Nat)
  /-- a local name, lent to a call -/
  | bw (i : Nat)
  | cst (t : T)
  /-- the module's constant of this number -/
  | glo (x : Nat)
  /-- the module's def of this number, as a value -/
  | gfn (f : Nat)
  | tup (es : Es)
  | lst (es : Es)
  | dct (ks vs : Es)
  | bin (o : Bop) (es : Es)
  | neg (a : E)
  | not (a : E)
  | and (a b : E)
  | or (a b : E)
  | cmp (o : Cop) (es : Es)
  | chain (o p : Cop) (a b c : E)
  | ife (c a b : E)
  /-- a def of the module, its arguments in their order, some of them lent -/
  | call (f : Nat) (es : Es)
  /-- .. with names; perm: for each parameter the place of its argument among the written ones -/
  | callk (f : Nat) (perm : List Nat) (es : Es)
  /-- .. of one argument, that is fresh and lent -/
  | cf (f : Nat) (e : E)
  /-- a local name that holds a function -/
  | cal (i : Nat) (es : Es)
  | blt (b : Blt) (es : Es)
  | blti (b : Blt) (it : It)
  | isi (a : E) (c : List Cls)
  | mth (m : Mth) (es : Es)
  | mut (m : Mut) (i : Nat) (es : Es)
  | sub (es : Es)
  | sli (a : E) (lo hi : Oe)
  | rev (a : E)
  | cmpr (elt : E) (own : List Nat) (gs : Gs)
  | dcmp (k v : E) (own : List Nat) (gs : Gs)
  | lam (f : Nat) (caps : List Nat)
  /-- the field k of an exception or instance of the class c -/
  | fld (a : E) (k : Nat)
inductive Oe where
  | no | ex (e : E)
inductive Es where
  | nil
  | cons (e : E) (r : Es)
  | star (e : E) (r : Es)
inductive It where
  | ex (e : E)
  | rng (es : Es)
  | enu (e : E)
  | zip (a b : E)
  | itm (e : E)
  | vls (e : E)
inductive Gs where
  | nil
  | cons (t : Tg) (it : It) (ifs : Es) (r : Gs)
inductive Tg where
  | nm (i : Nat)
  | tup (ts : List Nat)
  | sub (i : Nat) (k : E)
  | mix (ts : Tgs)
inductive Tgs where
  | nil
  | cons (t : Tg) (r : Tgs)
end
mutual
inductive St where
  | asg (t : Tg) (e : E)
  | par (ts : Tgs) (es : Es)
  | exp (e : E)
  | ret (e : E)
  | iff (c : E) (a b : Ss)
  | for_ (t : Tg) (it : It) (body : Ss) (fg : List Nat)
  | whl (c : E) (body : Ss) (fg : List Nat)
  | rai (c : Nat) (es : Es)
  | tryx (body : Ss) (c : Nat) (i : Nat) (h : Ss)
  | pss | cont | brk
inductive Ss where
  | nil
  | cons (s : St) (r : Ss)
end
structure Fn where
  np : Nat
  ns : Nat
  body : Ss
/-! ### what it does -/
abbrev S := List Sl
inductive Rx (α : Type) where
  | ok (a : α) (τ : S)
  | ex (c : Nat) (fs : List T) (τ : S)
  | bad
/-- a call's end: the answer, what lent arguments hold -/
inductive FR where
  | ok (r : Sl) (outs : List T)
  | ex (c : Nat) (fs : List T) (outs : List T)
  | bad
/-- a statement's end -/
inductive R where
  | nx (τ : S) | rt (r : Sl) (τ : S) | br (τ : S) | ct (τ : S) | ex (c : Nat) (fs : List T) (τ : S) | bad
def Rx.bind {α β : Type} (x : Rx α) (f : α → S → Rx β) : Rx β := match x with
  | .ok a τ => f a τ
  | .ex c fs τ => .ex c fs τ
  | .bad => .bad
def Rx.toR {α : Type} (x : Rx α) (f : α → S → R) : R := match x with
  | .ok a τ => f a τ
  | .ex c fs τ => .ex c fs τ
  | .bad => .bad
def lift {α : Type} (o : Option α) (τ : S) : Rx α := match o with
  | some a => .ok a τ
  | none => .bad
def slAt (τ : S) (i : Nat) : Sl := (τ[i]?).getD .no
/-- the name's value, shared from now on -/
def useAt (τ : S) (i : Nat) : Rx Sl := match slAt τ i with
  | .sh t => .ok (.sh t) τ
  | .ow t => .ok (.sh t) (τ.set i (.sh t))
  | .bo _ => .bad
  | .no => .bad
def truB : T → Option Bool
  | .bl b => some b
  | _ => none
def isOf (sub : Nat → Nat → Bool) : T → Cls → Option Bool
  | .fn _ _, _ => none
  | .exn _ _, _ => none
  | .ins _ _, _ => none
  | .dct _ _, _ => none
  | .int _, .int => some true
  | .bl _, .int => some true
  | .bl _, .bool => some true
  | .str _, .str => some true
  | .tup _, .tuple => some true
  | .lst _, .list => some true
  | _, .own _ => none
  | _, .valueError => none
  | _, _ => some false
def isAny (sub : Nat → Nat → Bool) (t : T) : List Cls → Option Bool
  | [] => some false
  | c :: r => match isOf sub t c with
    | some true => some true
    | some false => isAny sub t r
    | none => none
/-- no function within (at any depth that matters) -/
def permute {α : Type} (xs : List α) : List Nat → Option (List α)
  | [] => some []
  | i :: r => (xs[i]?).bind fun x => (permute xs r).map (x :: ·)
def rangeL (lo : Int) (n : Nat) (st : Int) : List T := (List.range n).map fun (k : Nat) => .int (lo + (k : Int) * st)
def rangeV : List T → Option (List T)
  | [.int a] => if decide (a.natAbs ≤ sizeMost) then some (rangeL 0 a.toNat 1) else none
  | [.int a, .int b] => if decide (a.natAbs ≤ sizeMost) && decide (b.natAbs ≤ sizeMost) then some (rangeL a (b - a).toNat 1) else none
  | [.int a, .int b, .int c] => if decide (a.natAbs ≤ sizeMost) && decide (b.natAbs ≤ sizeMost) && decide (0 < c) && decide (c ≤ sizeMost) then some (rangeL a (PySem.Builtin.Range.rangeSize a b c).toNat c) else none
  | _ => none
def enumL : Nat → List T → List T
  | _, [] => []
  | n, x :: xs => .tup [.int n, x] :: enumL (n + 1) xs
def zipL : List T → List T → List T
  | x :: xs, y :: ys => .tup [x, y] :: zipL xs ys
  | _, _ => []
def wipeS (τ : S) (own : List Nat) : S := own.foldl (fun τ i => τ.set i .no) τ
/-- the names of a block as they were ahead of it -/
def backS (τ0 : S) (own : List Nat) (τ : S) : S := own.foldl (fun τ i => τ.set i (slAt τ0 i)) τ
/-- nothing that no one else holds is there -/
def clear (τ : S) (own : List Nat) : Bool := own.all fun i => match slAt τ i with
  | .no => true
  | .sh _ => true
  | _ => false
def loopC {α : Type} (f : α → S → Rx (List T)) : List α → S → Rx (List T)
  | [], τ => .ok [] τ
  | x :: xs, τ => (f x τ).bind fun a τ => (loopC f xs τ).bind fun b τ => .ok (a ++ b) τ
def loopS {α : Type} (f : α → S → R) : List α → S → R
  | [], τ => .nx τ
  | x :: xs, τ => match f x τ with
    | .nx τ => loopS f xs τ
    | .ct τ => loopS f xs τ
    | .br τ => .nx τ
    | r => r
def loopW (c : S → Rx Bool) (f : S → R) : Nat → S → R
  | 0, _ => .bad
  | n + 1, τ => (c τ).toR fun b τ => if b then match f τ with
      | .nx τ => loopW c f n τ
      | .ct τ => loopW c f n τ
      | .br τ => .nx τ
      | r => r
    else .nx τ
/-- a name is stored -/
def setAt (τ : S) (i : Nat) (r : Sl) : Option S := match τ[i]? with
  | some (.bo _) => none
  | some _ => some (τ.set i r)
  | none => none
/-- what the name holds is changed in its place -/
def change (τ : S) (i : Nat) (t : T) : S := match slAt τ i with
  | .bo _ => τ.set i (.bo t)
  | _ => τ.set i (.ow t)
/-- what may be changed there -/
def ownAt (τ : S) (i : Nat) : Option T := match slAt τ i with
  | .ow t => some t
  | .bo t => some t
  | _ => none
def setAll (τ : S) : List Nat → List T → Option S
  | [], [] => some τ
  | i :: is, t :: ts => (setAt τ i (.sh t)).bind fun τ => setAll τ is ts
  | _, _ => none
structure Env where
  fn : Nat → Option Fn
  sub : Nat → Nat → Bool
  run : Nat → List Sl → FR
  most : Nat
  glo : Nat → Option T
/-- what a call is given: values; what a name holds, lent -/
def argS : Es → S → List T → Option (List Sl)
  | .nil, _, [] => some []
  | .cons (.bw i) r, τ, ts => (ownAt τ i).bind fun t => (argS r (τ.set i .no) ts).map (.bo t :: ·)
  | .cons _ r, τ, t :: ts => (argS r τ ts).map (.sh t :: ·)
  | _, _, _ => none
/-- what was lent comes back -/
def giveBack : Es → S → List T → Option S
  | .nil, τ, [] => some τ
  | .cons (.bw i) r, τ, t :: ts => giveBack r (change τ i t) ts
  | .cons (.bw _) _, _, [] => none
  | .cons _ r, τ, ts => giveBack r τ ts
  | _, _, _ => none
def FR.toRx (x : FR) (k : List T → Option S) : Rx Sl := match x with
  | .ok r outs => (match k outs with
    | some τ => .ok r τ
    | none => .bad)
  | .ex c fs outs => (match k outs with
    | some τ => .ex c fs τ
    | none => .bad)
  | .bad => .bad
/-- nothing lent -/
def noOuts (τ : S) : List T → Option S
  | [] => some τ
  | _ :: _ => none
def Tgs.len : Tgs → Nat
  | .nil => 0
  | .cons _ r => r.len + 1
mutual
def ev (Γ : Env) : E → S → Rx Sl
  | .nm i, τ => useAt τ i
  | .pk _, _ => .bad
  | .bw _, _ => .bad
  | .cst t, τ => .ok (.sh t) τ
  | .glo g, τ => (lift (Γ.glo g) τ).bind fun t τ => .ok (.sh t) τ
  | .gfn f, τ => .ok (.sh (.fn f [])) τ
  | .tup es, τ => (evs Γ es τ).bind fun ts τ => if fits ts then .ok (.sh (.tup ts)) τ else .bad
  | .lst es, τ => (evs Γ es τ).bind fun ts τ => if fits ts then .ok (.ow (.lst ts)) τ else .bad
  | .dct .nil .nil, τ => .ok (.ow (.dct [] [])) τ
  | .dct ks vs, τ => (evs Γ ks τ).bind fun ts τ => (evs Γ vs τ).bind fun us τ => .ok (.ow (.dct ts us)) τ
  | .bin o es, τ => (evs Γ es τ).bind fun ts τ => match ts with
    | [a, b] => lift (bopV o a b) τ
    | _ => .bad
  | .neg a, τ => (ev Γ a τ).bind fun r τ => match r.val with
    | some (.int i) => .ok (.sh (.int (-i))) τ
    | _ => .bad
  | .not a, τ => (evB Γ a τ).bind fun b τ => .ok (.sh (.bl (!b))) τ
  | .and a b, τ => (evB Γ a τ).bind fun x τ => if x then ev Γ b τ else .ok (.sh (.bl false)) τ
  | .or a b, τ => (evB Γ a τ).bind fun x τ => if x then .ok (.sh (.bl true)) τ else ev Γ b τ
  | .cmp o es, τ => (evs Γ es τ).bind fun ts τ => match ts with
    | [a, b] => (lift (cmpV o a b) τ).bind fun k τ => .ok (.sh (.bl k)) τ
    | _ => .bad
  | .chain o p a b c, τ => (evT Γ a τ).bind fun x τ => (evT Γ b τ).bind fun y τ => (lift (cmpV o x y) τ).bind fun k τ =>
      if k then (evT Γ c τ).bind fun z τ => (lift (cmpV p y z) τ).bind fun k τ => .ok (.sh (.bl k)) τ else .ok (.sh (.bl false)) τ
  | .ife c a b, τ => (evB Γ c τ).bind fun x τ => if x then ev Γ a τ else ev Γ b τ
  | .call f es, τ => (evs Γ es τ).bind fun ts τ => (lift (argS es τ ts) τ).bind fun as τ => (Γ.run f as).toRx (giveBack es τ)
  | .callk f perm es, τ => (evs Γ es τ).bind fun ts τ => (lift (permute ts perm) τ).bind fun as τ => (Γ.run f (as.map .sh)).toRx (noOuts τ)
  | .cf f e, τ => (ev Γ e τ).bind fun x τ => match x with
    | .ow t => (Γ.run f [.bo t]).toRx fun _ => some τ
    | _ => .bad
  | .cal i es, τ => match slAt τ i with
    | .sh (.fn f caps) => (evs Γ es τ).bind fun ts τ => (Γ.run f ((caps ++ ts).map .sh)).toRx (noOuts τ)
    | _ => .bad
  | .blt b es, τ => (evs Γ es τ).bind fun ts τ => lift (bltV b ts) τ
  | .blti b it, τ => (evI Γ it τ).bind fun ts τ => lift (bltV b [.lst ts]) τ
  | .isi a c, τ => (evT Γ a τ).bind fun t τ => (lift (isAny Γ.sub t c) τ).bind fun k τ => .ok (.sh (.bl k)) τ
  | .mth m es, τ => (evs Γ es τ).bind fun ts τ => lift (mthV m ts) τ
  | .mut m i es, τ => (lift (ownAt τ i) τ).bind fun _ τ => (evs Γ es τ).bind fun ts τ => (lift (ownAt τ i) τ).bind fun t τ => (lift (mutV m t ts) τ).bind fun p τ => .ok (.sh p.1) (change τ i p.2)
  | .sub es, τ => (evs Γ es τ).bind fun ts τ => match ts with
    | [a, b] => (lift (subV a b) τ).bind fun t τ => .ok (.sh t) τ
    | _ => .bad
  | .sli a lo hi, τ => (evT Γ a τ).bind fun t τ => (evO Γ lo τ).bind fun l τ => (evO Γ hi τ).bind fun h τ => lift (sliV t l h) τ
  | .rev a, τ => (evT Γ a τ).bind fun t τ => match t with
    | .tup l => .ok (.sh (.tup l.reverse)) τ
    | .lst l => .ok (.ow (.lst l.reverse)) τ
    | .str l => .ok (.sh (.str l.reverse)) τ
    | _ => .bad
  | .cmpr e own gs, τ => if clear τ own then (evG Γ gs (fun τ => (evT Γ e τ).bind fun t τ => .ok [t] τ) own τ).bind fun ts τ' =>
      if fits ts then .ok (.ow (.lst ts)) (backS τ own τ') else .bad else .bad
  | .dcmp _ _ _ _, _ => .bad
  | .lam f caps, τ => (lift (caps.mapM fun i => match slAt τ i with
      | .sh t => some t
      | _ => none) τ).bind fun cs τ => .ok (.sh (.fn f cs)) τ
  | .fld a k, τ => (evT Γ a τ).bind fun t τ => match t with
    | .exn _ fs => (lift fs[k]? τ).bind fun t τ => .ok (.sh t) τ
    | .ins _ fs => (lift fs[k]? τ).bind fun t τ => .ok (.sh t) τ
    | _ => .bad
/-- its value alone -/
def evT (Γ : Env) (e : E) (τ : S) : Rx T := (ev Γ e τ).bind fun r τ => lift r.val τ
def evB (Γ : Env) (e : E) (τ : S) : Rx Bool := (ev Γ e τ).bind fun r τ => lift (r.val.bind truB) τ
def evO (Γ : Env) : Oe → S → Rx (Option Int)
  | .no, τ => .ok none τ
  | .ex e, τ => (ev Γ e τ).bind fun r τ => match r.val with
    | some (.int i) => .ok (some i) τ
    | _ => .bad
/-- values from the left; names that are only looked at are read at the end; lent ones left out -/
def evs (Γ : Env) : Es → S → Rx (List T)
  | .nil, τ => .ok [] τ
  | .cons (.pk i) r, τ => (lift (slAt τ i).val τ).bind fun _ τ => (evs Γ r τ).bind fun ts τ => (lift (slAt τ i).val τ).bind fun t τ => .ok (t :: ts) τ
  | .cons (.bw i) r, τ => (lift (slAt τ i).val τ).bind fun _ τ => evs Γ r τ
  | .cons e r, τ => (evT Γ e τ).bind fun t τ => (evs Γ r τ).bind fun ts τ => .ok (t :: ts) τ
  | .star e r, τ => (evT Γ e τ).bind fun t τ => (evs Γ r τ).bind fun ts τ => match t with
    | .tup l => .ok (l ++ ts) τ
    | .lst l => .ok (l ++ ts) τ
    | _ => .bad
def evI (Γ : Env) : It → S → Rx (List T)
  | .ex e, τ => (evT Γ e τ).bind fun t τ => lift (itemsOf t) τ
  | .rng es, τ => (evs Γ es τ).bind fun ts τ => lift (rangeV ts) τ
  | .enu e, τ => (evT Γ e τ).bind fun t τ => match t with
    | .tup l => .ok (enumL 0 l) τ
    | .lst l => .ok (enumL 0 l) τ
    | _ => .bad
  | .zip a b, τ => (evT Γ a τ).bind fun t τ => (evT Γ b τ).bind fun u τ => match itemsOf t, itemsOf u with
    | some l, some m => .ok (zipL l m) τ
    | _, _ => .bad
  | .itm e, τ => (evT Γ e τ).bind fun t τ => match t with
    | .dct ks vs => .ok (zipL ks vs) τ
    | _ => .bad
  | .vls e, τ => (evT Γ e τ).bind fun t τ => match t with
    | .dct _ vs => .ok vs τ
    | _ => .bad
/-- tests, all of them -/
def evC (Γ : Env) : Es → S → Rx Bool
  | .nil, τ => .ok true τ
  | .cons e r, τ => (evB Γ e τ).bind fun b τ => if b then evC Γ r τ else .ok false τ
  | .star _ _, _ => .bad
/-- a comprehension's clauses, the first one's things told ahead of the block -/
def evG (Γ : Env) : Gs → (S → Rx (List T)) → List Nat → S → Rx (List T)
  | .nil, k, _, τ => k τ
  | .cons t it ifs r, k, wipe, τ => (evI Γ it τ).bind fun items τ => loopC (fun x τ => (asg Γ t (.sh x) (wipeS τ wipe)).bind fun _ τ => (evC Γ ifs τ).bind fun b τ => if b then evG Γ r k [] τ else .ok [] τ) items τ
/-- a target gets a value -/
def asg (Γ : Env) : Tg → Sl → S → Rx Unit
  | .nm i, r, τ => (lift (setAt τ i r) τ).bind fun τ' _ => .ok () τ'
  | .tup is, r, τ => match r.val with
    | some (.tup l) => (lift (setAll τ is l) τ).bind fun τ' _ => .ok () τ'
    | _ => .bad
  | .sub i k, r, τ => (lift (ownAt τ i) τ).bind fun _ τ => (evT Γ k τ).bind fun k τ => (lift (ownAt τ i) τ).bind fun t τ => (lift r.val τ).bind fun v τ => (lift (setV t k v) τ).bind fun t τ => .ok () (change τ i t)
  | .mix ts, r, τ => match r.val with
    | some (.tup l) => if l.length = ts.len then asgs Γ ts (l.map .sh) τ else .bad
    | _ => .bad
def asgs (Γ : Env) : Tgs → List Sl → S → Rx Unit
  | .nil, [], τ => .ok () τ
  | .cons t r, x :: xs, τ => (asg Γ t x τ).bind fun _ τ => asgs Γ r xs τ
  | _, _, _ => .bad
end

def forget (fg : List Nat) : R → R
  | .nx τ => .nx (wipeS τ fg)
  | .ct τ => .ct (wipeS τ fg)
  | .br τ => .br (wipeS τ fg)
  | r => r
mutual
def exS (Γ : Env) : St → S → R
  | .asg t e, τ => (ev Γ e τ).toR fun r τ => (asg Γ t r τ).toR fun _ τ => .nx τ
  | .par ts es, τ => (evP Γ es τ).toR fun rs τ => (asgs Γ ts rs τ).toR fun _ τ => .nx τ
  | .exp e, τ => (ev Γ e τ).toR fun _ τ => .nx τ
  | .ret (.nm i), τ => match slAt τ i with
    | .sh t => .rt (.sh t) τ
    | .ow t => .rt (.ow t) (τ.set i .no)
    | _ => .bad
  | .ret e, τ => (ev Γ e τ).toR fun r τ => .rt r τ
  | .iff c a b, τ => (evB Γ c τ).toR fun k τ => if k then exSs Γ a τ else exSs Γ b τ
  | .for_ t it body fg, τ => (evI Γ it τ).toR fun items τ => forget fg (loopS (fun x τ => (asg Γ t (.sh x) τ).toR fun _ τ => forget fg (exSs Γ body τ)) items τ)
  | .whl c body fg, τ => forget fg (loopW (evB Γ c) (fun τ => forget fg (exSs Γ body τ)) Γ.most τ)
  | .rai c es, τ => (evs Γ es τ).toR fun ts τ => .ex c ts τ
  | .tryx body c i h, τ => match exSs Γ body τ with
    | .ex c' fs τ => if Γ.sub c' c then (match setAt τ i (.sh (.exn c' fs)) with
      | some τ => (match exSs Γ h τ with
        | .nx τ => .nx (τ.set i .no)
        | r => r)
      | none => .bad) else .ex c' fs τ
    | r => r
  | .pss, τ => .nx τ
  | .cont, τ => .ct τ
  | .brk, τ => .br τ
def exSs (Γ : Env) : Ss → S → R
  | .nil, τ => .nx τ
  | .cons s r, τ => match exS Γ s τ with
    | .nx τ => exSs Γ r τ
    | e => e
/-- values of a row on the right side, fresh ones still owned -/
def evP (Γ : Env) : Es → S → Rx (List Sl)
  | .nil, τ => .ok [] τ
  | .cons e r, τ => (ev Γ e τ).bind fun x τ => (evP Γ r τ).bind fun xs τ => .ok (x :: xs) τ
  | .star _ _, _ => .bad
end
/-- what lent parameters hold at the end -/
def outsOf : List Sl → S → Option (List T)
  | .bo _ :: as, .bo t :: τ => (outsOf as τ).map (t :: ·)
  | .sh _ :: as, _ :: τ => outsOf as τ
  | [], _ => some []
  | _, _ => none
def R.toFR (as : List Sl) : R → FR
  | .nx τ => match outsOf as τ with
    | some o => .ok (.sh .non) o
    | none => .bad
  | .rt r τ => match outsOf as τ with
    | some o => .ok r o
    | none => .bad
  | .ex c fs τ => match outsOf as τ with
    | some o => .ex c fs o
    | none => .bad
  | _ => .bad
/-- a function at work -/
def runFn (Γ : Env) (d : Fn) (as : List Sl) : FR :=
  if as.length = d.np then (exSs Γ d.body (as ++ List.replicate (d.ns - d.np) .no)).toFR as else .bad
structure Prog where
  fn : Nat → Option Fn
  sub : Nat → Nat → Bool
  most : Nat
  glo : Nat → Option T
def run (p : Prog) : Nat → Nat → List Sl → FR
  | 0, _, _ => .bad
  | n + 1, f, as => match p.fn f with
    | some d => runFn ⟨p.fn, p.sub, run p n, p.most, p.glo⟩ d as
    | none => .bad
end Py
end

section
set_option maxRecDepth 100000
/-! Runs of the evaluator, by rules. -/
namespace Py
theorem Rx.bind_ok {α β : Type} {a : α} {τ : S} {f : α → S → Rx β} : (Rx.ok a τ).bind f = f a τ := rfl
theorem Rx.toR_ok {α : Type} {a : α} {τ : S} {f : α → S → R} : (Rx.ok a τ).toR f = f a τ := rfl
theorem lift_some {α : Type} {a : α} {τ : S} : lift (some a) τ = .ok a τ := rfl
theorem loopC_nil {α : Type} {f : α → S → Rx (List T)} {τ : S} : loopC f [] τ = .ok [] τ := rfl
theorem set_same {τ : S} {i : Nat} {x : Sl} (h : τ[i]? = some x) : τ.set i x = τ := by
  apply List.ext_getElem?
  intro j
  by_cases hj : i = j
  · subst hj
    rw [List.getElem?_set_self (List.getElem?_eq_some_iff.mp h).1, h]
  · rw [List.getElem?_set_ne hj]
/-- a comprehension of one name, with a test; τ1: behind the row's own reading -/
theorem cmpr_run1 {Γ : Env} {e : E} {i : Nat} {it : It} {ifs : Es} {τ τ1 : S} {α : Type} {l : List α} {g : α → T} {b : α → Bool} {h : α → T} (s0 : Sl) (hs0 : τ[i]? = some s0) (hs : τ1[i]? = some s0) (hc : s0 = .no ∨ ∃ t, s0 = .sh t) (hit : evI Γ it τ = .ok (l.map g) τ1)
    (hif : ∀ x ∈ l, evC Γ ifs (τ1.set i (.sh (g x))) = .ok (b x) (τ1.set i (.sh (g x)))) (hb : ∀ x ∈ l, b x = true → evT Γ e (τ1.set i (.sh (g x))) = .ok (h x) (τ1.set i (.sh (g x)))) (hf : l.length ≤ sizeMost) :
    ev Γ (.cmpr e [i] (.cons (.nm i) it ifs .nil)) τ = .ok (.ow (.lst ((l.filter b).map h))) τ1 := by
  have hlt : i < τ1.length := (List.getElem?_eq_some_iff.mp hs).1
  have key : ∀ (m : List α) (s : Sl), (∀ x ∈ m, x ∈ l) → ∃ s', loopC (fun x τ => (asg Γ (.nm i) (.sh x) (wipeS τ [i])).bind fun _ τ => (evC Γ ifs τ).bind fun b τ => if b then evG Γ .nil (fun τ => (evT Γ e τ).bind fun t τ => .ok [t] τ) [] τ else .ok [] τ) (m.map g) (τ1.set i s) = .ok ((m.filter b).map h) (τ1.set i s') := by
    intro m
    induction m with
    | nil => intro s _; exact ⟨s, rfl⟩
    | cons x m ih =>
      intro s hm
      obtain ⟨s', ih⟩ := ih (.sh (g x)) fun y hy => hm y (List.mem_cons_of_mem _ hy)
      refine ⟨s', ?_⟩
      have hx := hm x List.mem_cons_self
      have e1 : asg Γ (.nm i) (.sh (g x)) (wipeS (τ1.set i s) [i]) = .ok () (τ1.set i (.sh (g x))) := by
        rw [asg]
        have : setAt (wipeS (τ1.set i s) [i]) i (.sh (g x)) = some (τ1.set i (.sh (g x))) := by
          unfold setAt wipeS
          simp [List.getElem?_set_self, hlt]
        rw [this]
        rfl
      rw [List.map_cons, loopC, e1, Rx.bind_ok, hif x hx, Rx.bind_ok]
      cases hbx : b x with
      | true =>
        rw [if_pos rfl, evG, hb x hx hbx, Rx.bind_ok, Rx.bind_ok, ih, Rx.bind_ok]
        simp [hbx]
      | false =>
        rw [if_neg Bool.false_ne_true, Rx.bind_ok, ih, Rx.bind_ok]
        simp [hbx]
  obtain ⟨s', hk⟩ := key l s0 fun _ h => h
  rw [set_same hs] at hk
  have hcl : clear τ [i] = true := by
    unfold clear slAt
    rw [List.all_cons, List.all_nil, hs0]
    rcases hc with rfl | ⟨t, rfl⟩ <;> rfl
  rw [ev, if_pos hcl, evG, hit, Rx.bind_ok, hk, Rx.bind_ok]
  have hfit : fits ((l.filter b).map h) = true := by
    unfold fits
    rw [decide_eq_true_eq, List.length_map]
    exact Nat.le_trans (List.length_filter_le _ _) hf
  rw [if_pos hfit]
  have hbk : backS τ [i] (τ1.set i s') = τ1 := by
    unfold backS slAt
    simp only [List.foldl_cons, List.foldl_nil, hs0, Option.getD_some, List.set_set]
    exact set_same hs
  rw [hbk]
theorem cmpr_run {Γ : Env} {e : E} {i : Nat} {it : It} {ifs : Es} {τ : S} {α : Type} {l : List α} {g : α → T} {b : α → Bool} {h : α → T} (s0 : Sl) (hs : τ[i]? = some s0) (hc : s0 = .no ∨ ∃ t, s0 = .sh t) (hit : evI Γ it τ = .ok (l.map g) τ)
    (hif : ∀ x ∈ l, evC Γ ifs (τ.set i (.sh (g x))) = .ok (b x) (τ.set i (.sh (g x)))) (hb : ∀ x ∈ l, b x = true → evT Γ e (τ.set i (.sh (g x))) = .ok (h x) (τ.set i (.sh (g x)))) (hf : l.length ≤ sizeMost) :
    ev Γ (.cmpr e [i] (.cons (.nm i) it ifs .nil)) τ = .ok (.ow (.lst ((l.filter b).map h))) τ := cmpr_run1 s0 hs hs hc hit hif hb hf
theorem evC_nil {Γ : Env} {τ : S} : evC Γ .nil τ = .ok true τ := by rw [evC]
theorem evC_one {Γ : Env} {e : E} {τ τ' : S} {b : Bool} (h : evB Γ e τ = .ok b τ') : evC Γ (.cons e .nil) τ = .ok b τ' := by
  rw [evC, h, Rx.bind_ok]
  cases b
  · rfl
  · rw [if_pos rfl, evC_nil]
theorem evs_c1 {Γ : Env} {e : E} {r : Es} {τ : S} (h1 : ∀ i, e ≠ .pk i) (h2 : ∀ i, e ≠ .bw i) : evs Γ (.cons e r) τ = (evT Γ e τ).bind fun t τ => (evs Γ r τ).bind fun ts τ => .ok (t :: ts) τ := by
  cases e <;> first | (simp only [evs]; done) | exact absurd rfl (h1 _) | exact absurd rfl (h2 _)
/-- .. without a test -/
theorem cmpr_run0 {Γ : Env} {e : E} {i : Nat} {it : It} {τ : S} {α : Type} {l : List α} {g h : α → T} (s0 : Sl) (hs : τ[i]? = some s0) (hc : s0 = .no ∨ ∃ t, s0 = .sh t) (hit : evI Γ it τ = .ok (l.map g) τ)
    (hb : ∀ x ∈ l, evT Γ e (τ.set i (.sh (g x))) = .ok (h x) (τ.set i (.sh (g x)))) (hf : l.length ≤ sizeMost) : ev Γ (.cmpr e [i] (.cons (.nm i) it .nil .nil)) τ = .ok (.ow (.lst (l.map h))) τ := by
  have := cmpr_run (ifs := .nil) (b := fun _ => true) (e := e) s0 hs hc hit (fun x _ => evC_nil) (fun x hx _ => hb x hx) hf
  rw [this, List.filter_eq_self.mpr (fun _ _ => rfl)]
/-- a loop over what is walked, by an invariant -/
theorem loop_inv {α : Type} {f : α → S → R} {P : List α → S → Prop} : ∀ (l done : List α) (τ : S), P done τ → (∀ d x τ, P d τ → x ∈ l → ∃ τ', (f x τ = .nx τ' ∨ f x τ = .ct τ') ∧ P (d ++ [x]) τ') → ∃ τ', loopS f l τ = .nx τ' ∧ P (done ++ l) τ'
  | [], done, τ, h, _ => ⟨τ, rfl, by simpa using h⟩
  | x :: l, done, τ, h, k => by
    obtain ⟨τ1, h1, h2⟩ := k done x τ h List.mem_cons_self
    obtain ⟨τ2, h3, h4⟩ := loop_inv l (done ++ [x]) τ1 h2 fun d y τ hp hy => k d y τ hp (List.mem_cons_of_mem _ hy)
    refine ⟨τ2, ?_, by simpa using h4⟩
    rw [loopS]
    rcases h1 with h1 | h1 <;> rw [h1] <;> exact h3
/-- .. that knows where it stands -/
theorem loop_inv2 {α : Type} {f : α → S → R} {P : List α → S → Prop} (items : List α) (τ : S) (h : P [] τ) (k : ∀ d x r τ, items = d ++ x :: r → P d τ → ∃ τ', (f x τ = .nx τ' ∨ f x τ = .ct τ') ∧ P (d ++ [x]) τ') : ∃ τ', loopS f items τ = .nx τ' ∧ P items τ' := by
  have key : ∀ (l d : List α) (τ : S), items = d ++ l → P d τ → ∃ τ', loopS f l τ = .nx τ' ∧ P items τ' := by
    intro l
    induction l with
    | nil =>
      intro d τ e hp
      rw [List.append_nil] at e
      subst e
      exact ⟨τ, rfl, hp⟩
    | cons x l ih =>
      intro d τ e hp
      obtain ⟨τ1, h1, h2⟩ := k d x l τ e hp
      obtain ⟨τ2, h3, h4⟩ := ih (d ++ [x]) τ1 (by rw [e]; simp) h2
      refine ⟨τ2, ?_, h4⟩
      rw [loopS]
      rcases h1 with h1 | h1 <;> rw [h1] <;> exact h3
  exact key items [] τ rfl h
/-- a for statement, by an invariant -/
theorem for_inv1 {Γ : Env} {t : Tg} {it : It} {body : Ss} {fg : List Nat} {τ0 τ : S} {items : List T} {P : List T → S → Prop} (hit : evI Γ it τ0 = .ok items τ) (h0 : P [] τ)
    (k : ∀ d x r τ, items = d ++ x :: r → P d τ → ∃ τ1 τ2, asg Γ t (.sh x) τ = .ok () τ1 ∧ (exSs Γ body τ1 = .nx τ2 ∨ exSs Γ body τ1 = .ct τ2) ∧ P (d ++ [x]) (wipeS τ2 fg)) : ∃ τ', exS Γ (.for_ t it body fg) τ0 = .nx (wipeS τ' fg) ∧ P items τ' := by
  obtain ⟨τ', h1, h2⟩ := loop_inv2 (f := fun x τ => (asg Γ t (.sh x) τ).toR fun _ τ => forget fg (exSs Γ body τ)) (P := P) items τ h0 fun d x r τ e hp => by
    obtain ⟨τ1, τ2, e1, e2, e3⟩ := k d x r τ e hp
    refine ⟨wipeS τ2 fg, ?_, e3⟩
    rcases e2 with e2 | e2
    · left
      show (asg Γ t (.sh x) τ).toR _ = _
      rw [e1]
      show forget fg (exSs Γ body τ1) = _
      rw [e2]
      rfl
    · right
      show (asg Γ t (.sh x) τ).toR _ = _
      rw [e1]
      show forget fg (exSs Γ body τ1) = _
      rw [e2]
      rfl
  refine ⟨τ', ?_, h2⟩
  rw [exS, hit]
  show forget fg (loopS _ items τ) = _
  rw [h1]
  rfl
theorem for_inv {Γ : Env} {t : Tg} {it : It} {body : Ss} {fg : List Nat} {τ : S} {items : List T} {P : List T → S → Prop} (hit : evI Γ it τ = .ok items τ) (h0 : P [] τ)
    (k : ∀ d x r τ, items = d ++ x :: r → P d τ → ∃ τ1 τ2, asg Γ t (.sh x) τ = .ok () τ1 ∧ (exSs Γ body τ1 = .nx τ2 ∨ exSs Γ body τ1 = .ct τ2) ∧ P (d ++ [x]) (wipeS τ2 fg)) : ∃ τ', exS Γ (.for_ t it body fg) τ = .nx (wipeS τ' fg) ∧ P items τ' := for_inv1 hit h0 k
theorem ss_nx {Γ : Env} {s : St} {r : Ss} {τ τ' : S} (h : exS Γ s τ = .nx τ') : exSs Γ (.cons s r) τ = exSs Γ r τ' := by
  rw [exSs, h]
theorem asg_nm {Γ : Env} {i : Nat} {x : Sl} {τ τ' : S} (h : setAt τ i x = some τ') : asg Γ (.nm i) x τ = .ok () τ' := by
  rw [asg, h]
  rfl
end Py
end

section
set_option maxRecDepth 100000
namespace K43
open Py
def g_CARDS : T := (.tup [(.str [99, 49]), (.str [99, 50]), (.str [99, 51]), (.str [100, 49]), (.str [100, 50]), (.str [100, 51]), (.str [104, 49]), (.str [104, 50]), (.str [104, 51]), (.str [115, 49]), (.str [115, 50]), (.str [115, 51])])
def g_SEATS : T := (.tup [(.str [110, 111, 114, 116, 104]), (.str [101, 97, 115, 116]), (.str [115, 111, 117, 116, 104]), (.str [119, 101, 115, 116])])
def g_THREE : T := (.int 3)
def g_FOUR : T := (.int 4)
def g_STRAINS : T := (.tup [(.str [99]), (.str [100]), (.str [104]), (.str [115]), (.str [110])])
def g_MOST_LEVEL : T := (.int 2)
def g_MOST_CARDS : T := (.int 12)
/-- 0 is_whole: value -/
def d_is_whole : Fn := ⟨1, 1, (.cons (.ret (.and (.isi (.nm 0) [.int]) (.not (.isi (.nm 0) [.bool])))) .nil)⟩
/-- 1 is_between: value least most -/
def d_is_between : Fn := ⟨3, 3, (.cons (.ret (.and (.call 0 (.cons (.nm 0) .nil)) (.chain .le .le (.nm 1) (.nm 0) (.nm 2)))) .nil)⟩
/-- 2 is_one_of: value words -/
def d_is_one_of : Fn := ⟨2, 2, (.cons (.ret (.and (.isi (.nm 0) [.str]) (.cmp .in_ (.cons (.nm 0) (.cons (.nm 1) .nil))))) .nil)⟩
/-- 3 is_tuple_of: value many -/
def d_is_tuple_of : Fn := ⟨2, 2, (.cons (.ret (.and (.isi (.nm 0) [.tuple]) (.cmp .eq (.cons (.blt .len (.cons (.nm 0) .nil)) (.cons (.nm 1) .nil))))) .nil)⟩
/-- 4 wrong_in: value least most is_right index each -/
def d_wrong_in : Fn := ⟨4, 6, (.cons (.iff (.or (.not (.isi (.nm 0) [.tuple])) (.cmp .lt (.cons (.blt .len (.cons (.nm 0) .nil)) (.cons (.nm 1) .nil)))) (.cons (.ret (.lst (.cons (.cst .non) .nil))) .nil) .nil) (.cons (.for_ (.tup [4, 5]) (.enu (.nm 0)) (.cons (.iff (.or (.cmp .eq (.cons (.nm 4) (.cons (.nm 2) .nil))) (.not (.cal 3 (.cons (.sli (.nm 0) .no (.ex (.nm 4))) (.cons (.nm 5) .nil))))) (.cons (.ret (.lst (.cons (.nm 4) .nil))) .nil) .nil) .nil) [4, 5]) (.cons (.ret (.lst .nil)) .nil)))⟩
/-- 5 is_card: value -/
def d_is_card : Fn := ⟨1, 1, (.cons (.ret (.call 2 (.cons (.nm 0) (.cons (.blt .list (.cons (.glo 0) .nil)) .nil)))) .nil)⟩
/-- 6 is_seat: value -/
def d_is_seat : Fn := ⟨1, 1, (.cons (.ret (.call 2 (.cons (.nm 0) (.cons (.blt .list (.cons (.glo 1) .nil)) .nil)))) .nil)⟩
/-- 7 is_hand_by: value each -/
def d_is_hand_by : Fn := ⟨1, 2, (.cons (.iff (.or (.not (.call 3 (.cons (.nm 0) (.cons (.glo 2) .nil)))) (.not (.blt .all (.cons (.cmpr (.call 5 (.cons (.nm 1) .nil)) [1] (.cons (.nm 1) (.ex (.nm 0)) .nil .nil)) .nil)))) (.cons (.ret (.cst (.bl false))) .nil) .nil) (.cons (.ret (.chain .lt .lt (.sub (.cons (.nm 0) (.cons (.cst (.int 0)) .nil))) (.sub (.cons (.nm 0) (.cons (.cst (.int 1)) .nil))) (.sub (.cons (.nm 0) (.cons (.cst (.int 2)) .nil))))) .nil))⟩
/-- 8 is_apart: hand other card -/
def d_is_apart : Fn := ⟨2, 3, (.cons (.ret (.not (.blt .any (.cons (.cmpr (.cmp .in_ (.cons (.nm 2) (.cons (.nm 1) .nil))) [2] (.cons (.nm 2) (.ex (.nm 0)) .nil .nil)) .nil)))) .nil)⟩
/-- 9 wrong_in_deal: value -/
def d_wrong_in_deal : Fn := ⟨1, 1, (.cons (.ret (.call 4 (.cons (.nm 0) (.cons (.glo 3) (.cons (.glo 3) (.cons (.lam 41 []) .nil)))))) .nil)⟩
/-- 10 is_contract: value -/
def d_is_contract : Fn := ⟨1, 1, (.cons (.iff (.or (.not (.call 3 (.cons (.nm 0) (.cons (.glo 2) .nil)))) (.not (.call 1 (.cons (.sub (.cons (.nm 0) (.cons (.cst (.int 0)) .nil))) (.cons (.cst (.int 1)) (.cons (.glo 5) .nil)))))) (.cons (.ret (.cst (.bl false))) .nil) .nil) (.cons (.ret (.and (.call 2 (.cons (.sub (.cons (.nm 0) (.cons (.cst (.int 1)) .nil))) (.cons (.blt .list (.cons (.glo 4) .nil)) .nil))) (.call 6 (.cons (.sub (.cons (.nm 0) (.cons (.cst (.int 2)) .nil))) .nil)))) .nil))⟩
/-- 11 check_contract: contract -/
def d_check_contract : Fn := ⟨1, 1, (.cons (.iff (.not (.call 10 (.cons (.nm 0) .nil))) (.cons (.rai 1 (.cons (.nm 0) .nil)) .nil) .nil) .nil)⟩
/-- 12 check_deal: deal index -/
def d_check_deal : Fn := ⟨1, 2, (.cons (.for_ (.nm 1) (.ex (.call 9 (.cons (.nm 0) .nil))) (.cons (.rai 2 (.cons (.nm 1) .nil)) .nil) [1]) .nil)⟩
/-- 13 first_turn: contract -/
def d_first_turn : Fn := ⟨1, 1, (.cons (.ret (.bin .mod (.cons (.bin .add (.cons (.mth .index (.cons (.glo 1) (.cons (.sub (.cons (.nm 0) (.cons (.cst (.int 2)) .nil))) .nil))) (.cons (.cst (.int 1)) .nil))) (.cons (.glo 3) .nil)))) .nil)⟩
/-- 14 winner_in: contract leader trick suit card best -/
def d_winner_in : Fn := ⟨3, 6, (.cons (.asg (.nm 3) (.ife (.blt .any (.cons (.cmpr (.cmp .eq (.cons (.sub (.cons (.nm 4) (.cons (.cst (.int 0)) .nil))) (.cons (.sub (.cons (.nm 0) (.cons (.cst (.int 1)) .nil))) .nil))) [4] (.cons (.nm 4) (.ex (.nm 2)) .nil .nil)) .nil)) (.sub (.cons (.nm 0) (.cons (.cst (.int 1)) .nil))) (.sub (.cons (.sub (.cons (.nm 2) (.cons (.cst (.int 0)) .nil))) (.cons (.cst (.int 0)) .nil))))) (.cons (.asg (.nm 5) (.blt .max (.cons (.cmpr (.nm 4) [4] (.cons (.nm 4) (.ex (.nm 2)) (.cons (.cmp .eq (.cons (.sub (.cons (.nm 4) (.cons (.cst (.int 0)) .nil))) (.cons (.nm 3) .nil))) .nil) .nil)) .nil))) (.cons (.ret (.bin .mod (.cons (.bin .add (.cons (.nm 1) (.cons (.mth .index (.cons (.nm 2) (.cons (.nm 5) .nil))) .nil))) (.cons (.glo 3) .nil)))) .nil)))⟩
/-- 15 winners_by: contract play found leader at -/
def d_winners_by : Fn := ⟨2, 5, (.cons (.par (.cons (.nm 2) (.cons (.nm 3) .nil)) (.cons (.lst .nil) (.cons (.call 13 (.cons (.nm 0) .nil)) .nil))) (.cons (.for_ (.nm 4) (.rng (.cons (.cst (.int 0)) (.cons (.bin .add (.cons (.bin .sub (.cons (.blt .len (.cons (.nm 1) .nil)) (.cons (.glo 3) .nil))) (.cons (.cst (.int 1)) .nil))) (.cons (.glo 3) .nil)))) (.cons (.asg (.nm 3) (.call 14 (.cons (.nm 0) (.cons (.nm 3) (.cons (.sli (.nm 1) (.ex (.nm 4)) (.ex (.bin .add (.cons (.nm 4) (.cons (.glo 3) .nil))))) .nil))))) (.cons (.exp (.mut .append 2 (.cons (.nm 3) .nil))) .nil)) [4]) (.cons (.ret (.nm 2)) .nil)))⟩
/-- 16 turn_at: contract play won -/
def d_turn_at : Fn := ⟨2, 3, (.cons (.asg (.nm 2) (.call 15 (.cons (.nm 0) (.cons (.nm 1) .nil)))) (.cons (.ret (.bin .mod (.cons (.bin .add (.cons (.ife (.cmp .ne (.cons (.nm 2) (.cons (.lst .nil) .nil))) (.sub (.cons (.nm 2) (.cons (.neg (.cst (.int 1))) .nil))) (.call 13 (.cons (.nm 0) .nil))) (.cons (.bin .mod (.cons (.blt .len (.cons (.nm 1) .nil)) (.cons (.glo 3) .nil))) .nil))) (.cons (.glo 3) .nil)))) .nil))⟩
/-- 17 let_by: deal contract play left card trick same -/
def d_let_by : Fn := ⟨3, 7, (.cons (.iff (.cmp .eq (.cons (.blt .len (.cons (.nm 2) .nil)) (.cons (.glo 6) .nil))) (.cons (.ret (.lst .nil)) .nil) .nil) (.cons (.asg (.nm 3) (.cmpr (.nm 4) [4] (.cons (.nm 4) (.ex (.sub (.cons (.nm 0) (.cons (.call 16 (.cons (.nm 1) (.cons (.nm 2) .nil))) .nil)))) (.cons (.cmp .nin (.cons (.nm 4) (.cons (.nm 2) .nil))) .nil) .nil))) (.cons (.asg (.nm 5) (.sli (.nm 2) (.ex (.bin .sub (.cons (.blt .len (.cons (.nm 2) .nil)) (.cons (.bin .mod (.cons (.blt .len (.cons (.nm 2) .nil)) (.cons (.glo 3) .nil))) .nil)))) .no)) (.cons (.asg (.nm 6) (.cmpr (.nm 4) [4] (.cons (.nm 4) (.ex (.nm 3)) (.cons (.and (.cmp .ne (.cons (.nm 5) (.cons (.tup .nil) .nil))) (.cmp .eq (.cons (.sub (.cons (.nm 4) (.cons (.cst (.int 0)) .nil))) (.cons (.sub (.cons (.sub (.cons (.nm 5) (.cons (.cst (.int 0)) .nil))) (.cons (.cst (.int 0)) .nil))) .nil)))) .nil) .nil))) (.cons (.ret (.ife (.cmp .ne (.cons (.nm 6) (.cons (.lst .nil) .nil))) (.nm 6) (.nm 3))) .nil)))))⟩
/-- 18 cards_in: deal contract value found card -/
def d_cards_in : Fn := ⟨3, 5, (.cons (.asg (.nm 3) (.tup .nil)) (.cons (.for_ (.nm 4) (.ex (.nm 2)) (.cons (.iff (.not (.call 2 (.cons (.nm 4) (.cons (.call 17 (.cons (.nm 0) (.cons (.nm 1) (.cons (.nm 3) .nil)))) .nil)))) (.cons (.ret (.nm 3)) .nil) .nil) (.cons (.asg (.nm 3) (.tup (.star (.nm 3) (.cons (.nm 4) .nil)))) .nil)) [4]) (.cons (.ret (.nm 3)) .nil)))⟩
/-- 19 wrong_in_play: deal contract value many -/
def d_wrong_in_play : Fn := ⟨3, 4, (.cons (.iff (.not (.isi (.nm 2) [.tuple])) (.cons (.ret (.lst (.cons (.cst .non) .nil))) .nil) .nil) (.cons (.asg (.nm 3) (.blt .len (.cons (.call 18 (.cons (.nm 0) (.cons (.nm 1) (.cons (.nm 2) .nil)))) .nil))) (.cons (.ret (.ife (.cmp .lt (.cons (.nm 3) (.cons (.blt .len (.cons (.nm 2) .nil)) .nil))) (.lst (.cons (.nm 3) .nil)) (.lst .nil))) .nil)))⟩
/-- 20 check_game: deal contract -/
def d_check_game : Fn := ⟨2, 2, (.cons (.exp (.call 12 (.cons (.nm 0) .nil))) (.cons (.exp (.call 11 (.cons (.nm 1) .nil))) .nil))⟩
/-- 21 check_play: deal contract play index -/
def d_check_play : Fn := ⟨3, 4, (.cons (.exp (.call 20 (.cons (.nm 0) (.cons (.nm 1) .nil)))) (.cons (.for_ (.nm 3) (.ex (.call 19 (.cons (.nm 0) (.cons (.nm 1) (.cons (.nm 2) .nil))))) (.cons (.rai 3 (.cons (.nm 3) .nil)) .nil) [3]) .nil))⟩
/-- 22 let_cards: deal contract play -/
def d_let_cards : Fn := ⟨3, 3, (.cons (.exp (.call 21 (.cons (.nm 0) (.cons (.nm 1) (.cons (.nm 2) .nil))))) (.cons (.ret (.blt .tuple (.cons (.call 17 (.cons (.nm 0) (.cons (.nm 1) (.cons (.nm 2) .nil)))) .nil))) .nil))⟩
/-- 23 turn_to_play: deal contract play -/
def d_turn_to_play : Fn := ⟨3, 3, (.cons (.exp (.call 21 (.cons (.nm 0) (.cons (.nm 1) (.cons (.nm 2) .nil))))) (.cons (.iff (.cmp .eq (.cons (.blt .len (.cons (.nm 2) .nil)) (.cons (.glo 6) .nil))) (.cons (.rai 4 .nil) .nil) .nil) (.cons (.ret (.sub (.cons (.glo 1) (.cons (.call 16 (.cons (.nm 1) (.cons (.nm 2) .nil))) .nil)))) .nil)))⟩
/-- 24 winners: deal contract play seat -/
def d_winners : Fn := ⟨3, 4, (.cons (.exp (.call 21 (.cons (.nm 0) (.cons (.nm 1) (.cons (.nm 2) .nil))))) (.cons (.ret (.blt .tuple (.cons (.cmpr (.sub (.cons (.glo 1) (.cons (.nm 3) .nil))) [3] (.cons (.nm 3) (.ex (.call 15 (.cons (.nm 1) (.cons (.nm 2) .nil)))) .nil .nil)) .nil))) .nil))⟩
/-- 25 _law_well: script lap stirred cell own -/
def d__law_well : Fn := ⟨2, 5, (.cons (.asg (.nm 2) (.bin .add (.cons (.cst (.int 709217)) (.cons (.bin .mul (.cons (.cst (.int 6389)) (.cons (.nm 1) .nil))) .nil)))) (.cons (.for_ (.nm 3) (.ex (.sli (.nm 0) .no (.ex (.cst (.int 16))))) (.cons (.asg (.nm 2) (.bin .mod (.cons (.blt .int (.cons (.bin .add (.cons (.bin .add (.cons (.bin .mul (.cons (.nm 2) (.cons (.cst (.int 48271)) .nil))) (.cons (.bin .mod (.cons (.blt .int (.cons (.nm 3) .nil)) (.cons (.cst (.int 2147483549)) .nil))) .nil))) (.cons (.cst (.int 23)) .nil))) .nil)) (.cons (.cst (.int 2147483587)) .nil)))) .nil) [3]) (.cons (.asg (.nm 4) (.ife (.cmp .lt (.cons (.nm 1) (.cons (.blt .len (.cons (.nm 0) .nil)) .nil))) (.blt .int (.cons (.sub (.cons (.nm 0) (.cons (.nm 1) .nil))) .nil)) (.cst (.int 0)))) (.cons (.asg (.nm 2) (.bin .mod (.cons (.blt .int (.cons (.bin .add (.cons (.bin .add (.cons (.bin .mul (.cons (.nm 2) (.cons (.cst (.int 53)) .nil))) (.cons (.bin .mul (.cons (.bin .mod (.cons (.blt .int (.cons (.nm 4) .nil)) (.cons (.cst (.int 2147483549)) .nil))) (.cons (.cst (.int 15013)) .nil))) .nil))) (.cons (.cst (.int 11)) .nil))) .nil)) (.cons (.cst (.int 2147483587)) .nil)))) (.cons (.ret (.lst (.cons (.ife (.or (.cmp .lt (.cons (.nm 4) (.cons (.cst (.int 0)) .nil))) (.cmp .ge (.cons (.nm 4) (.cons (.bin .pow (.cons (.cst (.int 10)) (.cons (.cst (.int 15)) .nil))) .nil)))) (.bin .mod (.cons (.blt .abs (.cons (.nm 4) .nil)) (.cons (.bin .pow (.cons (.cst (.int 10)) (.cons (.cst (.int 60)) .nil))) .nil))) (.cst (.int 0))) (.cons (.nm 2) (.cons (.cst (.int 0)) .nil))))) .nil)))))⟩
/-- 26 _law_draw: well limit figure mixed -/
def d__law_draw : Fn := ⟨2, 4, (.cons (.iff (.cmp .gt (.cons (.sub (.cons (.pk 0) (.cons (.cst (.int 0)) .nil))) (.cons (.cst (.int 0)) .nil))) (.cons (.asg (.mix (.cons (.sub 0 (.cst (.int 0))) (.cons (.nm 2) .nil))) (.blt .divmod (.cons (.sub (.cons (.pk 0) (.cons (.cst (.int 0)) .nil))) (.cons (.nm 1) .nil)))) (.cons (.ret (.nm 2)) .nil)) .nil) (.cons (.asg (.sub 0 (.cst (.int 2))) (.bin .add (.cons (.sub (.cons (.pk 0) (.cons (.cst (.int 2)) .nil))) (.cons (.cst (.int 1)) .nil)))) (.cons (.asg (.nm 3) (.bin .mod (.cons (.blt .int (.cons (.bin .add (.cons (.bin .add (.cons (.bin .mul (.cons (.sub (.cons (.pk 0) (.cons (.cst (.int 1)) .nil))) (.cons (.cst (.int 40009)) .nil))) (.cons (.bin .mul (.cons (.cst (.int 15013)) (.cons (.sub (.cons (.pk 0) (.cons (.cst (.int 2)) .nil))) .nil))) .nil))) (.cons (.cst (.int 3)) .nil))) .nil)) (.cons (.cst (.int 2147483587)) .nil)))) (.cons (.asg (.sub 0 (.cst (.int 1))) (.bin .mod (.cons (.blt .int (.cons (.bin .add (.cons (.bin .mul (.cons (.nm 3) (.cons (.bin .add (.cons (.bin .mod (.cons (.blt .int (.cons (.nm 3) .nil)) (.cons (.cst (.int 5003)) .nil))) (.cons (.cst (.int 20011)) .nil))) .nil))) (.cons (.sub (.cons (.pk 0) (.cons (.cst (.int 2)) .nil))) .nil))) .nil)) (.cons (.cst (.int 2147483587)) .nil)))) (.cons (.ret (.bin .mod (.cons (.blt .int (.cons (.bin .fdiv (.cons (.sub (.cons (.pk 0) (.cons (.cst (.int 1)) .nil))) (.cons (.cst (.int 1069)) .nil))) .nil)) (.cons (.nm 1) .nil)))) .nil)))))⟩
/-- 27 _law_of: well some -/
def d__law_of : Fn := ⟨2, 2, (.cons (.ret (.sub (.cons (.nm 1) (.cons (.call 26 (.cons (.bw 0) (.cons (.blt .len (.cons (.nm 1) .nil)) .nil))) .nil)))) .nil)⟩
/-- 28 _law_shuffled: well some left found k -/
def d__law_shuffled : Fn := ⟨2, 5, (.cons (.par (.cons (.nm 2) (.cons (.nm 3) .nil)) (.cons (.blt .list (.cons (.nm 1) .nil)) (.cons (.lst .nil) .nil))) (.cons (.for_ (.nm 4) (.rng (.cons (.blt .len (.cons (.pk 2) .nil)) .nil)) (.cons (.exp (.mut .append 3 (.cons (.mut .popAt 2 (.cons (.call 26 (.cons (.bw 0) (.cons (.blt .len (.cons (.pk 2) .nil)) .nil))) .nil)) .nil))) .nil) [4]) (.cons (.ret (.nm 3)) .nil)))⟩
/-- 29 _law_same: one two k alike -/
def d__law_same : Fn := ⟨2, 4, (.cons (.iff (.isi (.nm 1) [.tuple]) (.cons (.iff (.or (.not (.isi (.nm 0) [.tuple])) (.cmp .ne (.cons (.blt .len (.cons (.nm 0) .nil)) (.cons (.blt .len (.cons (.nm 1) .nil)) .nil)))) (.cons (.ret (.cst (.bl false))) .nil) .nil) (.cons (.ret (.blt .all (.cons (.cmpr (.call 29 (.cons (.sub (.cons (.nm 0) (.cons (.nm 2) .nil))) (.cons (.sub (.cons (.nm 1) (.cons (.nm 2) .nil))) .nil))) [2] (.cons (.nm 2) (.rng (.cons (.blt .len (.cons (.nm 1) .nil)) .nil)) .nil .nil)) .nil))) .nil)) .nil) (.cons (.iff (.isi (.nm 1) [.bool]) (.cons (.ret (.and (.isi (.nm 0) [.bool]) (.cmp .eq (.cons (.nm 0) (.cons (.nm 1) .nil))))) .nil) .nil) (.cons (.iff (.isi (.nm 1) [.int]) (.cons (.ret (.and (.isi (.nm 0) [.int]) (.and (.not (.isi (.nm 0) [.bool])) (.cmp .eq (.cons (.nm 0) (.cons (.nm 1) .nil)))))) .nil) .nil) (.cons (.iff (.isi (.nm 1) [.str]) (.cons (.ret (.and (.isi (.nm 0) [.str]) (.cmp .eq (.cons (.nm 0) (.cons (.nm 1) .nil))))) .nil) .nil) (.cons (.iff (.cmp .is_ (.cons (.nm 1) (.cons (.cst .non) .nil))) (.cons (.ret (.cmp .is_ (.cons (.nm 0) (.cons (.cst .non) .nil)))) .nil) .nil) (.cons (.asg (.nm 3) (.and (.cmp .eq (.cons (.isi (.nm 0) [.list]) (.cons (.isi (.nm 1) [.list]) .nil))) (.cmp .eq (.cons (.isi (.nm 0) [.dict]) (.cons (.isi (.nm 1) [.dict]) .nil))))) (.cons (.ret (.and (.nm 3) (.and (.not (.isi (.nm 0) [.tuple])) (.cmp .is_ (.cons (.cmp .eq (.cons (.nm 0) (.cons (.nm 1) .nil))) (.cons (.cst (.bl true)) .nil)))))) .nil)))))))⟩
/-- 30 _law_cards: found suit rank -/
def d__law_cards : Fn := ⟨0, 3, (.cons (.asg (.nm 0) (.lst .nil)) (.cons (.for_ (.nm 1) (.ex (.cst (.str [99, 100, 104, 115]))) (.cons (.asg (.nm 0) (.bin .add (.cons (.nm 0) (.cons (.cmpr (.bin .add (.cons (.nm 1) (.cons (.nm 2) .nil))) [2] (.cons (.nm 2) (.ex (.cst (.str [49, 50, 51]))) .nil .nil)) .nil)))) .nil) [1]) (.cons (.ret (.blt .tuple (.cons (.nm 0) .nil))) .nil)))⟩
/-- 31 _law_deal: well cards k -/
def d__law_deal : Fn := ⟨1, 3, (.cons (.asg (.nm 1) (.call 28 (.cons (.bw 0) (.cons (.call 30 .nil) .nil)))) (.cons (.ret (.blt .tuple (.cons (.cmpr (.blt .tuple (.cons (.blt .sorted (.cons (.sli (.nm 1) (.ex (.nm 2)) (.ex (.bin .add (.cons (.nm 2) (.cons (.cst (.int 3)) .nil))))) .nil)) .nil)) [2] (.cons (.nm 2) (.ex (.tup (.cons (.cst (.int 0)) (.cons (.cst (.int 3)) (.cons (.cst (.int 6)) (.cons (.cst (.int 9)) .nil)))))) .nil .nil)) .nil))) .nil))⟩
/-- 32 _law_seats:  -/
def d__law_seats : Fn := ⟨0, 0, (.cons (.ret (.tup (.cons (.cst (.str [110, 111, 114, 116, 104])) (.cons (.cst (.str [101, 97, 115, 116])) (.cons (.cst (.str [115, 111, 117, 116, 104])) (.cons (.cst (.str [119, 101, 115, 116])) .nil)))))) .nil)⟩
/-- 33 _law_state: deal contract play hands trick taken turn card each won -/
def d__law_state : Fn := ⟨3, 10, (.cons (.par (.cons (.nm 3) (.cons (.nm 4) (.cons (.nm 5) .nil))) (.cons (.blt .list (.cons (.nm 0) .nil)) (.cons (.tup .nil) (.cons (.tup .nil) .nil)))) (.cons (.asg (.nm 6) (.bin .mod (.cons (.blt .int (.cons (.bin .add (.cons (.mth .index (.cons (.call 32 .nil) (.cons (.sub (.cons (.nm 1) (.cons (.cst (.int 2)) .nil))) .nil))) (.cons (.cst (.int 1)) .nil))) .nil)) (.cons (.cst (.int 4)) .nil)))) (.cons (.for_ (.nm 7) (.ex (.nm 2)) (.cons (.asg (.sub 3 (.nm 6)) (.blt .tuple (.cons (.cmpr (.nm 8) [8] (.cons (.nm 8) (.ex (.sub (.cons (.pk 3) (.cons (.nm 6) .nil)))) (.cons (.cmp .ne (.cons (.nm 8) (.cons (.nm 7) .nil))) .nil) .nil)) .nil))) (.cons (.par (.cons (.nm 4) (.cons (.nm 6) .nil)) (.cons (.bin .add (.cons (.nm 4) (.cons (.tup (.cons (.nm 7) .nil)) .nil))) (.cons (.bin .mod (.cons (.blt .int (.cons (.bin .add (.cons (.nm 6) (.cons (.cst (.int 1)) .nil))) .nil)) (.cons (.cst (.int 4)) .nil))) .nil))) (.cons (.iff (.cmp .eq (.cons (.blt .len (.cons (.nm 4) .nil)) (.cons (.cst (.int 4)) .nil))) (.cons (.asg (.nm 9) (.call 34 (.cons (.nm 4) (.cons (.sub (.cons (.nm 1) (.cons (.cst (.int 1)) .nil))) .nil)))) (.cons (.par (.cons (.nm 6) (.cons (.nm 4) .nil)) (.cons (.bin .mod (.cons (.blt .int (.cons (.bin .add (.cons (.nm 6) (.cons (.nm 9) .nil))) .nil)) (.cons (.cst (.int 4)) .nil))) (.cons (.tup .nil) .nil))) (.cons (.asg (.nm 5) (.bin .add (.cons (.nm 5) (.cons (.tup (.cons (.nm 6) .nil)) .nil)))) .nil))) .nil) .nil))) [7, 9]) (.cons (.ret (.tup (.cons (.blt .tuple (.cons (.pk 3) .nil)) (.cons (.nm 4) (.cons (.nm 6) (.cons (.nm 5) .nil)))))) .nil))))⟩
/-- 34 _law_winner: trick strain ranked k suit -/
def d__law_winner : Fn := ⟨2, 5, (.cons (.asg (.nm 2) (.lst .nil)) (.cons (.for_ (.nm 3) (.rng (.cons (.cst (.int 4)) .nil)) (.cons (.asg (.nm 4) (.sub (.cons (.sub (.cons (.nm 0) (.cons (.nm 3) .nil))) (.cons (.cst (.int 0)) .nil)))) (.cons (.exp (.mut .append 2 (.cons (.tup (.cons (.ife (.cmp .eq (.cons (.nm 4) (.cons (.nm 1) .nil))) (.cst (.int 2)) (.ife (.cmp .eq (.cons (.nm 4) (.cons (.sub (.cons (.sub (.cons (.nm 0) (.cons (.cst (.int 0)) .nil))) (.cons (.cst (.int 0)) .nil))) .nil))) (.cst (.int 1)) (.cst (.int 0)))) (.cons (.sub (.cons (.sub (.cons (.nm 0) (.cons (.nm 3) .nil))) (.cons (.cst (.int 1)) .nil))) (.cons (.nm 3) .nil)))) .nil))) .nil)) [3, 4]) (.cons (.ret (.sub (.cons (.blt .max (.cons (.pk 2) .nil)) (.cons (.cst (.int 2)) .nil)))) .nil)))⟩
/-- 35 _law_let: hand trick some card -/
def d__law_let : Fn := ⟨2, 4, (.cons (.asg (.nm 2) (.blt .tuple (.cons (.cmpr (.nm 3) [3] (.cons (.nm 3) (.ex (.nm 0)) (.cons (.and (.cmp .ne (.cons (.nm 1) (.cons (.tup .nil) .nil))) (.cmp .eq (.cons (.sub (.cons (.nm 3) (.cons (.cst (.int 0)) .nil))) (.cons (.sub (.cons (.sub (.cons (.nm 1) (.cons (.cst (.int 0)) .nil))) (.cons (.cst (.int 0)) .nil))) .nil)))) .nil) .nil)) .nil))) (.cons (.ret (.ife (.cmp .ne (.cons (.nm 2) (.cons (.tup .nil) .nil))) (.nm 2) (.nm 0))) .nil))⟩
/-- 36 _law_next: deal contract play hands trick turn taken -/
def d__law_next : Fn := ⟨3, 7, (.cons (.asg (.tup [3, 4, 5, 6]) (.call 33 (.cons (.nm 0) (.cons (.nm 1) (.cons (.nm 2) .nil))))) (.cons (.ret (.ife (.cmp .lt (.cons (.blt .len (.cons (.nm 2) .nil)) (.cons (.cst (.int 12)) .nil))) (.call 35 (.cons (.sub (.cons (.nm 3) (.cons (.nm 5) .nil))) (.cons (.nm 4) .nil))) (.tup .nil))) .nil))⟩
/-- 37 _law_drawn_contract: well -/
def d__law_drawn_contract : Fn := ⟨1, 1, (.cons (.ret (.tup (.cons (.bin .add (.cons (.cst (.int 1)) (.cons (.call 26 (.cons (.bw 0) (.cons (.cst (.int 2)) .nil))) .nil))) (.cons (.call 27 (.cons (.bw 0) (.cons (.cst (.str [99, 100, 104, 115, 110])) .nil))) (.cons (.call 27 (.cons (.bw 0) (.cons (.call 32 .nil) .nil))) .nil))))) .nil)⟩
/-- 38 _law_drawn_play: well deal contract most play lap -/
def d__law_drawn_play : Fn := ⟨4, 6, (.cons (.asg (.nm 4) (.tup .nil)) (.cons (.for_ (.nm 5) (.rng (.cons (.call 26 (.cons (.bw 0) (.cons (.bin .add (.cons (.nm 3) (.cons (.cst (.int 1)) .nil))) .nil))) .nil)) (.cons (.asg (.nm 4) (.bin .add (.cons (.nm 4) (.cons (.tup (.cons (.call 27 (.cons (.bw 0) (.cons (.call 36 (.cons (.nm 1) (.cons (.nm 2) (.cons (.nm 4) .nil)))) .nil))) .nil)) .nil)))) .nil) [5]) (.cons (.ret (.nm 4)) .nil)))⟩
/-- 39 _law_right: well lap deal turn contract play hands trick seat won due names k name first -/
def d__law_right : Fn := ⟨1, 15, (.cons (.for_ (.nm 1) (.rng (.cons (.cst (.int 4)) .nil)) (.cons (.asg (.nm 2) (.call 31 (.cons (.bw 0) .nil))) (.cons (.for_ (.nm 3) (.rng (.cons (.cst (.int 4)) .nil)) (.cons (.asg (.nm 4) (.call 37 (.cons (.bw 0) .nil))) (.cons (.asg (.nm 5) (.call 38 (.cons (.bw 0) (.cons (.nm 2) (.cons (.nm 4) (.cons (.cst (.int 12)) .nil)))))) (.cons (.asg (.tup [6, 7, 8, 9]) (.call 33 (.cons (.nm 2) (.cons (.nm 4) (.cons (.nm 5) .nil))))) (.cons (.par (.cons (.nm 10) (.cons (.nm 11) .nil)) (.cons (.call 36 (.cons (.nm 2) (.cons (.nm 4) (.cons (.nm 5) .nil)))) (.cons (.blt .tuple (.cons (.cmpr (.sub (.cons (.call 32 .nil) (.cons (.nm 12) .nil))) [12] (.cons (.nm 12) (.ex (.nm 9)) .nil .nil)) .nil)) .nil))) (.cons (.iff (.not (.call 29 (.cons (.tup (.cons (.call 22 (.cons (.nm 2) (.cons (.nm 4) (.cons (.nm 5) .nil)))) (.cons (.callk 22 [2, 1, 0] (.cons (.nm 5) (.cons (.nm 4) (.cons (.nm 2) .nil)))) .nil))) (.cons (.tup (.cons (.nm 10) (.cons (.nm 10) .nil))) .nil)))) (.cons (.ret (.cst (.bl false))) .nil) .nil) (.cons (.iff (.not (.call 29 (.cons (.tup (.cons (.call 24 (.cons (.nm 2) (.cons (.nm 4) (.cons (.nm 5) .nil)))) (.cons (.callk 24 [2, 1, 0] (.cons (.nm 5) (.cons (.nm 4) (.cons (.nm 2) .nil)))) .nil))) (.cons (.tup (.cons (.nm 11) (.cons (.nm 11) .nil))) .nil)))) (.cons (.ret (.cst (.bl false))) .nil) .nil) (.cons (.iff (.cmp .lt (.cons (.blt .len (.cons (.nm 5) .nil)) (.cons (.cst (.int 12)) .nil))) (.cons (.asg (.nm 13) (.sub (.cons (.call 32 .nil) (.cons (.nm 8) .nil)))) (.cons (.iff (.not (.call 29 (.cons (.tup (.cons (.call 23 (.cons (.nm 2) (.cons (.nm 4) (.cons (.nm 5) .nil)))) (.cons (.callk 23 [2, 1, 0] (.cons (.nm 5) (.cons (.nm 4) (.cons (.nm 2) .nil)))) .nil))) (.cons (.tup (.cons (.nm 13) (.cons (.nm 13) .nil))) .nil)))) (.cons (.ret (.cst (.bl false))) .nil) .nil) .nil)) .nil) (.cons (.asg (.nm 14) (.sub (.cons (.call 32 .nil) (.cons (.bin .mod (.cons (.blt .int (.cons (.bin .add (.cons (.mth .index (.cons (.call 32 .nil) (.cons (.sub (.cons (.nm 4) (.cons (.cst (.int 2)) .nil))) .nil))) (.cons (.cst (.int 1)) .nil))) .nil)) (.cons (.cst (.int 4)) .nil))) .nil)))) (.cons (.iff (.not (.call 29 (.cons (.tup (.cons (.call 23 (.cons (.nm 2) (.cons (.nm 4) (.cons (.tup .nil) .nil)))) (.cons (.call 22 (.cons (.nm 2) (.cons (.nm 4) (.cons (.tup .nil) .nil)))) (.cons (.call 24 (.cons (.nm 2) (.cons (.nm 4) (.cons (.tup .nil) .nil)))) .nil)))) (.cons (.tup (.cons (.nm 14) (.cons (.sub (.cons (.nm 2) (.cons (.mth .index (.cons (.call 32 .nil) (.cons (.nm 14) .nil))) .nil))) (.cons (.tup .nil) .nil)))) .nil)))) (.cons (.ret (.cst (.bl false))) .nil) .nil) .nil))))))))) [3, 4, 5, 6, 7, 8, 9, 10, 11, 13, 14]) .nil)) [1, 2, 3, 4, 5, 6, 7, 8, 9, 10, 11, 13, 14]) (.cons (.ret (.cst (.bl true))) .nil))⟩
/-- 40 law: script -/
def d_law : Fn := ⟨1, 1, (.cons (.ret (.cf 39 (.call 25 (.cons (.nm 0) (.cons (.cst (.int 0)) .nil))))) .nil)⟩
/-- 41 wrong_in_deal_lam0: ahead each other -/
def d_wrong_in_deal_lam0 : Fn := ⟨2, 3, (.cons (.ret (.and (.call 7 (.cons (.nm 1) .nil)) (.blt .all (.cons (.cmpr (.call 8 (.cons (.nm 1) (.cons (.nm 2) .nil))) [2] (.cons (.nm 2) (.ex (.nm 0)) .nil .nil)) .nil)))) .nil)⟩
def fns : List Fn := [d_is_whole, d_is_between, d_is_one_of, d_is_tuple_of, d_wrong_in, d_is_card, d_is_seat, d_is_hand_by, d_is_apart, d_wrong_in_deal, d_is_contract, d_check_contract, d_check_deal, d_first_turn, d_winner_in, d_winners_by, d_turn_at, d_let_by, d_cards_in, d_wrong_in_play, d_check_game, d_check_play, d_let_cards, d_turn_to_play, d_winners, d__law_well, d__law_draw, d__law_of, d__law_shuffled, d__law_same, d__law_cards, d__law_deal, d__law_seats, d__law_state, d__law_winner, d__law_let, d__law_next, d__law_drawn_contract, d__law_drawn_play, d__law_right, d_law, d_wrong_in_deal_lam0]
def anc : List (List Nat) := [[0], [1, 0], [2, 0], [3, 0], [4, 0]]
def glos : List T := [g_CARDS, g_SEATS, g_THREE, g_FOUR, g_STRAINS, g_MOST_LEVEL, g_MOST_CARDS]
def prog : Prog := ⟨fun f => fns[f]?, fun c k => ((anc[c]?).getD []).contains k, 10000, fun g => glos[g]?⟩
def s_fn : List PySem.Str := (["is_whole", "is_between", "is_one_of", "is_tuple_of", "wrong_in", "is_card", "is_seat", "is_hand_by", "is_apart", "wrong_in_deal", "is_contract", "check_contract", "check_deal", "first_turn", "winner_in", "winners_by", "turn_at", "let_by", "cards_in", "wrong_in_play", "check_game", "check_play", "let_cards", "turn_to_play", "winners", "_law_well", "_law_draw", "_law_of", "_law_shuffled", "_law_same"] : List PySem.Str) ++ (["_law_cards", "_law_deal", "_law_seats", "_law_state", "_law_winner", "_law_let", "_law_next", "_law_drawn_contract", "_law_drawn_play", "_law_right", "law"] : List PySem.Str)
def s_glo : List PySem.Str := (["CARDS", "SEATS", "THREE", "FOUR", "STRAINS", "MOST_LEVEL", "MOST_CARDS"] : List PySem.Str)
def s_kws : List (Nat × List PySem.Str × List Nat) := [(22, ["play", "contract", "deal"], [2, 1, 0]), (24, ["play", "contract", "deal"], [2, 1, 0]), (23, ["play", "contract", "deal"], [2, 1, 0])]
def n_is_whole : List PySem.Str := ["value"]
def n_is_between : List PySem.Str := ["value", "least", "most"]
def n_is_one_of : List PySem.Str := ["value", "words"]
def n_is_tuple_of : List PySem.Str := ["value", "many"]
def n_wrong_in : List PySem.Str := ["value", "least", "most", "is_right", "index", "each"]
def n_is_card : List PySem.Str := ["value"]
def n_is_seat : List PySem.Str := ["value"]
def n_is_hand_by : List PySem.Str := ["value", "each"]
def n_is_apart : List PySem.Str := ["hand", "other", "card"]
def n_wrong_in_deal : List PySem.Str := ["value"]
def n_is_contract : List PySem.Str := ["value"]
def n_check_contract : List PySem.Str := ["contract"]
def n_check_deal : List PySem.Str := ["deal", "index"]
def n_first_turn : List PySem.Str := ["contract"]
def n_winner_in : List PySem.Str := ["contract", "leader", "trick", "suit", "card", "best"]
def n_winners_by : List PySem.Str := ["contract", "play", "found", "leader", "at"]
def n_turn_at : List PySem.Str := ["contract", "play", "won"]
def n_let_by : List PySem.Str := ["deal", "contract", "play", "left", "card", "trick", "same"]
def n_cards_in : List PySem.Str := ["deal", "contract", "value", "found", "card"]
def n_wrong_in_play : List PySem.Str := ["deal", "contract", "value", "many"]
def n_check_game : List PySem.Str := ["deal", "contract"]
def n_check_play : List PySem.Str := ["deal", "contract", "play", "index"]
def n_let_cards : List PySem.Str := ["deal", "contract", "play"]
def n_turn_to_play : List PySem.Str := ["deal", "contract", "play"]
def n_winners : List PySem.Str := ["deal", "contract", "play", "seat"]
def n__law_well : List PySem.Str := ["script", "lap", "stirred", "cell", "own"]
def n__law_draw : List PySem.Str := ["well", "limit", "figure", "mixed"]
def n__law_of : List PySem.Str := ["well", "some"]
def n__law_shuffled : List PySem.Str := ["well", "some", "left", "found", "k"]
def n__law_same : List PySem.Str := ["one", "two", "k", "alike"]
def n__law_cards : List PySem.Str := ["found", "suit", "rank"]
def n__law_deal : List PySem.Str := ["well", "cards", "k"]
def n__law_seats : List PySem.Str := []
def n__law_state : List PySem.Str := ["deal", "contract", "play", "hands", "trick", "taken", "turn", "card", "each", "won"]
def n__law_winner : List PySem.Str := ["trick", "strain", "ranked", "k", "suit"]
def n__law_let : List PySem.Str := ["hand", "trick", "some", "card"]
def n__law_next : List PySem.Str := ["deal", "contract", "play", "hands", "trick", "turn", "taken"]
def n__law_drawn_contract : List PySem.Str := ["well"]
def n__law_drawn_play : List PySem.Str := ["well", "deal", "contract", "most", "play", "lap"]
def n__law_right : List PySem.Str := ["well", "lap", "deal", "turn", "contract", "play", "hands", "trick", "seat", "won", "due", "names", "k", "name", "first"]
def n_law : List PySem.Str := ["script"]
def n_wrong_in_deal_lam0 : List PySem.Str := ["ahead", "each", "other"]
def nms : List (List PySem.Str) := [n_is_whole, n_is_between, n_is_one_of, n_is_tuple_of, n_wrong_in, n_is_card, n_is_seat, n_is_hand_by, n_is_apart, n_wrong_in_deal, n_is_contract, n_check_contract, n_check_deal, n_first_turn, n_winner_in, n_winners_by, n_turn_at, n_let_by, n_cards_in, n_wrong_in_play, n_check_game, n_check_play, n_let_cards, n_turn_to_play, n_winners, n__law_well, n__law_draw, n__law_of, n__law_shuffled, n__law_same, n__law_cards, n__law_deal, n__law_seats, n__law_state, n__law_winner, n__law_let, n__law_next, n__law_drawn_contract, n__law_drawn_play, n__law_right, n_law, n_wrong_in_deal_lam0]
def nm (f : Nat) : Option (List PySem.Str) := nms[f]?
def s_mk : List PySem.Str := (["wrong_in_deal"] : List PySem.Str)
abbrev f_is_whole : Nat := 0
abbrev f_is_between : Nat := 1
abbrev f_is_one_of : Nat := 2
abbrev f_is_tuple_of : Nat := 3
abbrev f_wrong_in : Nat := 4
abbrev f_is_card : Nat := 5
abbrev f_is_seat : Nat := 6
abbrev f_is_hand_by : Nat := 7
abbrev f_is_apart : Nat := 8
abbrev f_wrong_in_deal : Nat := 9
abbrev f_is_contract : Nat := 10
abbrev f_check_contract : Nat := 11
abbrev f_check_deal : Nat := 12
abbrev f_first_turn : Nat := 13
abbrev f_winner_in : Nat := 14
abbrev f_winners_by : Nat := 15
abbrev f_turn_at : Nat := 16
abbrev f_let_by : Nat := 17
abbrev f_cards_in : Nat := 18
abbrev f_wrong_in_play : Nat := 19
abbrev f_check_game : Nat := 20
abbrev f_check_play : Nat := 21
abbrev f_let_cards : Nat := 22
abbrev f_turn_to_play : Nat := 23
abbrev f_winners : Nat := 24
abbrev f__law_well : Nat := 25
abbrev f__law_draw : Nat := 26
abbrev f__law_of : Nat := 27
abbrev f__law_shuffled : Nat := 28
abbrev f__law_same : Nat := 29
abbrev f__law_cards : Nat := 30
abbrev f__law_deal : Nat := 31
abbrev f__law_seats : Nat := 32
abbrev f__law_state : Nat := 33
abbrev f__law_winner : Nat := 34
abbrev f__law_let : Nat := 35
abbrev f__law_next : Nat := 36
abbrev f__law_drawn_contract : Nat := 37
abbrev f__law_drawn_play : Nat := 38
abbrev f__law_right : Nat := 39
abbrev f_law : Nat := 40
end K43
end

section
set_option maxRecDepth 100000
set_option maxHeartbeats 2000000
/-! Law k43: cards, hands, deals, contracts. -/
namespace K43
open Py
abbrev Γ (n : Nat) : Env := ⟨prog.fn, prog.sub, run prog n, prog.most, prog.glo⟩
def sc (c : Nat) : Nat := [99, 100, 104, 115].getD (c / 3) 0
def card (c : Nat) : T := .str [sc c, 49 + c % 3]
def seat (k : Nat) : T := [T.str [110, 111, 114, 116, 104], .str [101, 97, 115, 116], .str [115, 111, 117, 116, 104], .str [119, 101, 115, 116]].getD k .non
def strn (s : Nat) : T := .str [[99, 100, 104, 115, 110].getD s 0]
def hand (l : List Nat) : T := .tup (l.map card)
def deal (D : List (List Nat)) : T := .tup (D.map hand)
def con (lv s k : Nat) : T := .tup [.int lv, strn s, seat k]
def Low (l : List Nat) : Prop := ∀ x ∈ l, x < 12
theorem eq_card : ∀ a, a < 12 → ∀ b, b < 12 → eqT (card a) (card b) = some (decide (a = b)) := by decide +kernel
theorem lt_card : ∀ a, a < 12 → ∀ b, b < 12 → ltT (card a) (card b) = some (decide (a < b)) := by decide +kernel
theorem eq_seat : ∀ a, a < 4 → ∀ b, b < 4 → eqT (seat a) (seat b) = some (decide (a = b)) := by decide +kernel
theorem r_one (n : Nat) (as : List Sl) : run prog (n + 1) 2 as = runFn (Γ n) d_is_one_of as := rfl
theorem r_card (n : Nat) (as : List Sl) : run prog (n + 1) 5 as = runFn (Γ n) d_is_card as := rfl
theorem r_seat (n : Nat) (as : List Sl) : run prog (n + 1) 6 as = runFn (Γ n) d_is_seat as := rfl
theorem r_whole (n : Nat) (as : List Sl) : run prog (n + 1) 0 as = runFn (Γ n) d_is_whole as := rfl
theorem r_betw (n : Nat) (as : List Sl) : run prog (n + 1) 1 as = runFn (Γ n) d_is_between as := rfl
theorem r_tupof (n : Nat) (as : List Sl) : run prog (n + 1) 3 as = runFn (Γ n) d_is_tuple_of as := rfl
theorem r_wrong (n : Nat) (as : List Sl) : run prog (n + 1) 4 as = runFn (Γ n) d_wrong_in as := rfl
theorem r_hand (n : Nat) (as : List Sl) : run prog (n + 1) 7 as = runFn (Γ n) d_is_hand_by as := rfl
theorem r_apart (n : Nat) (as : List Sl) : run prog (n + 1) 8 as = runFn (Γ n) d_is_apart as := rfl
theorem r_wdeal (n : Nat) (as : List Sl) : run prog (n + 1) 9 as = runFn (Γ n) d_wrong_in_deal as := rfl
theorem r_contract (n : Nat) (as : List Sl) : run prog (n + 1) 10 as = runFn (Γ n) d_is_contract as := rfl
theorem r_chcon (n : Nat) (as : List Sl) : run prog (n + 1) 11 as = runFn (Γ n) d_check_contract as := rfl
theorem r_chdeal (n : Nat) (as : List Sl) : run prog (n + 1) 12 as = runFn (Γ n) d_check_deal as := rfl
theorem r_first (n : Nat) (as : List Sl) : run prog (n + 1) 13 as = runFn (Γ n) d_first_turn as := rfl
theorem r_chgame (n : Nat) (as : List Sl) : run prog (n + 1) 20 as = runFn (Γ n) d_check_game as := rfl
theorem r_lam (n : Nat) (as : List Sl) : run prog (n + 1) 41 as = runFn (Γ n) d_wrong_in_deal_lam0 as := rfl
theorem g0 : prog.glo 0 = some (.tup ((List.range 12).map card)) := by kernel_rfl
theorem g1 : prog.glo 1 = some (.tup ((List.range 4).map seat)) := by kernel_rfl
theorem g2 : prog.glo 2 = some (.int 3) := by rfl
theorem g3 : prog.glo 3 = some (.int 4) := by rfl
theorem g4 : prog.glo 4 = some (.tup ((List.range 5).map strn)) := by kernel_rfl
theorem g5 : prog.glo 5 = some (.int 2) := by rfl
theorem g6 : prog.glo 6 = some (.int 12) := by rfl
theorem eqs_map {m : Nat} {g : Nat → T} (hg : ∀ a, a < m → ∀ b, b < m → eqT (g a) (g b) = some (decide (a = b))) {c : Nat} (hc : c < m) : ∀ {l : List Nat}, (∀ x ∈ l, x < m) → eqsTo (g c) (l.map g) = some (l.map fun x => decide (x = c))
  | [], _ => rfl
  | x :: l, h => by
    rw [List.map_cons, eqsTo, hg x (h x List.mem_cons_self) c hc, eqs_map hg hc fun y hy => h y (List.mem_cons_of_mem _ hy)]
    rfl
theorem in_map {m : Nat} {g : Nat → T} (hg : ∀ a, a < m → ∀ b, b < m → eqT (g a) (g b) = some (decide (a = b))) {c : Nat} (hc : c < m) {l : List Nat} (h : ∀ x ∈ l, x < m) : inTs (g c) (l.map g) = some (l.contains c) := by
  unfold inTs
  rw [eqs_map hg hc h]
  simp only [Option.map_some, List.any_map]
  congr 1
  induction l with
  | nil => rfl
  | cons x l ih =>
    rw [List.any_cons, ih fun y hy => h y (List.mem_cons_of_mem _ hy), List.contains_cons]
    simp only [Function.comp, id]
    congr 1
    by_cases e : x = c
    · simp [e]
    · simp [e, Ne.symm e]
theorem ix_map {m : Nat} {g : Nat → T} (hg : ∀ a, a < m → ∀ b, b < m → eqT (g a) (g b) = some (decide (a = b))) {c : Nat} (hc : c < m) {l : List Nat} (h : ∀ x ∈ l, x < m) (hm : c ∈ l) : ixTs (g c) (l.map g) = some (l.idxOf c) := by
  unfold ixTs
  rw [eqs_map hg hc h, Option.bind_some]
  induction l with
  | nil => cases hm
  | cons x l ih =>
    rw [List.map_cons, List.idxOf?_cons, List.idxOf_cons]
    by_cases e : x = c
    · simp [e]
    · have hm' : c ∈ l := by
        rcases List.mem_cons.mp hm with z | z
        · exact absurd z.symm e
        · exact z
      have hb : (x == c) = false := by simpa using e
      simp only [e, decide_false, beq_iff_eq, Bool.false_eq_true, if_false, hb, cond_false]
      rw [ih (fun y hy => h y (List.mem_cons_of_mem _ hy)) hm']
      rfl
theorem in_card {c : Nat} (hc : c < 12) {l : List Nat} (h : Low l) : inTs (card c) (l.map card) = some (l.contains c) := in_map eq_card hc h
theorem bools_map {α : Type} {f : α → Bool} : ∀ {l : List α}, bools (l.map fun x => .bl (f x)) = some (l.map f)
  | [] => rfl
  | x :: l => by rw [List.map_cons, bools, bools_map]; rfl
theorem fits_of {α : Type} {l : List α} (h : l.length ≤ 1000) : fits l = true := by
  unfold fits
  rw [decide_eq_true_eq]
  exact Nat.le_trans h (by decide)
theorem low_range : Low (List.range 12) := fun x h => List.mem_range.mp h
theorem card_str (c : Nat) : card c = .str [sc c, 49 + c % 3] := rfl
theorem is_card_ok (n c : Nat) (h : c < 12) : run prog (n + 2) 5 [.sh (card c)] = .ok (.sh (.bl true)) [] := by
  have hi := in_card h low_range
  have hc : (List.range 12).contains c = true := by simpa using h
  rw [hc, card_str] at hi
  rw [r_card, card_str]
  simp [runFn, exSs, exS, ev, evB, evs, evT, evI, evO, evC, evP, asg, asgs, Rx.bind, Rx.toR, lift, Sl.val, useAt, slAt, R.toFR, outsOf, truB, setAt, argS, giveBack, FR.toRx, noOuts, ownAt, change, setAll, permute, forget, wipeS, isAny, isOf, bopV, cmpV, subV, placeOf, bltV, itemsOf, d_is_card, d_is_one_of, r_one, g0, hi]
theorem is_seat_ok (n k : Nat) (h : k < 4) : run prog (n + 2) 6 [.sh (seat k)] = .ok (.sh (.bl true)) [] := by
  have hi := in_map eq_seat h (l := List.range 4) fun x h => List.mem_range.mp h
  have hc : (List.range 4).contains k = true := by simpa using h
  rw [hc] at hi
  obtain ⟨z, hz⟩ : ∃ z, seat k = .str z := by
    match k, h with
    | 0, _ => exact ⟨_, rfl⟩
    | 1, _ => exact ⟨_, rfl⟩
    | 2, _ => exact ⟨_, rfl⟩
    | 3, _ => exact ⟨_, rfl⟩
  rw [hz] at hi
  rw [r_seat, hz]
  simp [runFn, exSs, exS, ev, evB, evs, evT, evI, evO, evC, evP, asg, asgs, Rx.bind, Rx.toR, lift, Sl.val, useAt, slAt, R.toFR, outsOf, truB, setAt, argS, giveBack, FR.toRx, noOuts, ownAt, change, setAll, permute, forget, wipeS, isAny, isOf, bopV, cmpV, subV, placeOf, bltV, itemsOf, d_is_seat, d_is_one_of, r_one, g1, hi]
theorem apart_ok (n : Nat) {a b : List Nat} (ha : Low a) (hb : Low b) (hl : a.length ≤ 12) : run prog (n + 1) 8 [.sh (hand a), .sh (hand b)] = .ok (.sh (.bl (!(a.any fun c => b.contains c)))) [] := by
  rw [r_apart]
  have hc : ev (Γ n) (.cmpr (.cmp .in_ (.cons (.nm 2) (.cons (.nm 1) .nil))) [2] (.cons (.nm 2) (.ex (.nm 0)) .nil .nil)) [.sh (hand a), .sh (hand b), .no] = .ok (.ow (.lst (a.map fun c => .bl (b.contains c)))) [.sh (hand a), .sh (hand b), .no] := by
    refine cmpr_run0 (g := card) .no rfl (.inl rfl) ?_ (fun x hx => ?_) ?_
    · simp [runFn, exSs, exS, ev, evB, evs, evT, evI, evO, evC, evP, asg, asgs, Rx.bind, Rx.toR, lift, Sl.val, useAt, slAt, R.toFR, outsOf, truB, setAt, argS, giveBack, FR.toRx, noOuts, ownAt, change, setAll, permute, forget, wipeS, isAny, isOf, bopV, cmpV, subV, placeOf, bltV, itemsOf, hand]
    · have := in_card (ha x hx) hb
      rw [card_str] at this
      simp [runFn, exSs, exS, ev, evB, evs, evT, evI, evO, evC, evP, asg, asgs, Rx.bind, Rx.toR, lift, Sl.val, useAt, slAt, R.toFR, outsOf, truB, setAt, argS, giveBack, FR.toRx, noOuts, ownAt, change, setAll, permute, forget, wipeS, isAny, isOf, bopV, cmpV, subV, placeOf, bltV, itemsOf, hand, this, card_str x]
    · exact Nat.le_trans hl (by decide)
  simp [runFn, exSs, exS, ev, evB, evs, evT, evI, evO, evC, evP, asg, asgs, Rx.bind, Rx.toR, lift, Sl.val, useAt, slAt, R.toFR, outsOf, truB, setAt, argS, giveBack, FR.toRx, noOuts, ownAt, change, setAll, permute, forget, wipeS, isAny, isOf, bopV, cmpV, subV, placeOf, bltV, itemsOf, d_is_apart, hc, bools_map, Function.comp_def]
theorem hand_ok (n a b c : Nat) (h1 : a < b) (h2 : b < c) (h3 : c < 12) : run prog (n + 3) 7 [.sh (hand [a, b, c])] = .ok (.sh (.bl true)) [] := by
  rw [r_hand]
  have hlow : Low [a, b, c] := by intro x hx; simp at hx; omega
  have hc : ev (Γ (n + 2)) (.cmpr (.call 5 (.cons (.nm 1) .nil)) [1] (.cons (.nm 1) (.ex (.nm 0)) .nil .nil)) [.sh (hand [a, b, c]), .no] = .ok (.ow (.lst ([a, b, c].map fun _ => .bl true))) [.sh (hand [a, b, c]), .no] := by
    refine cmpr_run0 (g := card) .no rfl (.inl rfl) ?_ (fun x hx => ?_) (Nat.le_trans (Nat.le_refl 3) (by decide))
    · simp [runFn, exSs, exS, ev, evB, evs, evT, evI, evO, evC, evP, asg, asgs, Rx.bind, Rx.toR, lift, Sl.val, useAt, slAt, R.toFR, outsOf, truB, setAt, argS, giveBack, FR.toRx, noOuts, ownAt, change, setAll, permute, forget, wipeS, isAny, isOf, bopV, cmpV, subV, placeOf, bltV, itemsOf, hand]
    · simp [runFn, exSs, exS, ev, evB, evs, evT, evI, evO, evC, evP, asg, asgs, Rx.bind, Rx.toR, lift, Sl.val, useAt, slAt, R.toFR, outsOf, truB, setAt, argS, giveBack, FR.toRx, noOuts, ownAt, change, setAll, permute, forget, wipeS, isAny, isOf, bopV, cmpV, subV, placeOf, bltV, itemsOf, is_card_ok n x (hlow x hx)]
  have e1 := lt_card a (by omega) b (by omega)
  have e2 := lt_card b (by omega) c (by omega)
  simp only [h1, h2, decide_true] at e1 e2
  simp only [hand, List.map_cons, List.map_nil] at hc ⊢
  simp [runFn, exSs, exS, ev, evB, evs, evT, evI, evO, evC, evP, asg, asgs, Rx.bind, Rx.toR, lift, Sl.val, useAt, slAt, R.toFR, outsOf, truB, setAt, argS, giveBack, FR.toRx, noOuts, ownAt, change, setAll, permute, forget, wipeS, isAny, isOf, bopV, cmpV, subV, placeOf, bltV, itemsOf, d_is_hand_by, hc, bools, g2, r_tupof, d_is_tuple_of, hand, eqT, eqN, e1, e2]
/-- a hand: three cards that ascend -/
def Hand (l : List Nat) : Prop := ∃ a b c, l = [a, b, c] ∧ a < b ∧ b < c ∧ c < 12
theorem Hand.low {l : List Nat} (h : Hand l) : Low l := by
  obtain ⟨a, b, c, rfl, h1, h2, h3⟩ := h
  intro x hx
  simp at hx
  omega
theorem Hand.len {l : List Nat} (h : Hand l) : l.length = 3 := by
  obtain ⟨a, b, c, rfl, h1, h2, h3⟩ := h
  rfl
/-- no card twice among two hands -/
def Apart (a b : List Nat) : Prop := ∀ x ∈ a, x ∉ b
theorem apart_true (n : Nat) {a b : List Nat} (ha : Hand a) (hb : Hand b) (h : Apart a b) : run prog (n + 1) 8 [.sh (hand a), .sh (hand b)] = .ok (.sh (.bl true)) [] := by
  have e : (a.any fun c => b.contains c) = false := by
    rw [List.any_eq_false]
    intro x hx
    simpa using h x hx
  have := apart_ok n ha.low hb.low (by rw [ha.len]; decide)
  rw [e] at this
  exact this
theorem hand_true (n : Nat) {l : List Nat} (h : Hand l) : run prog (n + 3) 7 [.sh (hand l)] = .ok (.sh (.bl true)) [] := by
  obtain ⟨a, b, c, rfl, h1, h2, h3⟩ := h
  exact hand_ok n a b c h1 h2 h3
theorem all_true {l : List (List Nat)} : (l.map fun _ => true).all id = true := by simp
theorem lam_ok (n : Nat) {hs : List (List Nat)} {h : List Nat} (hl : hs.length ≤ 4) (hh : Hand h) (ha : ∀ o ∈ hs, Hand o ∧ Apart h o) : run prog (n + 4) 41 [.sh (.tup (hs.map hand)), .sh (hand h)] = .ok (.sh (.bl true)) [] := by
  rw [r_lam]
  have hc : ev (Γ (n + 3)) (.cmpr (.call 8 (.cons (.nm 1) (.cons (.nm 2) .nil))) [2] (.cons (.nm 2) (.ex (.nm 0)) .nil .nil)) [.sh (.tup (hs.map hand)), .sh (hand h), .no] = .ok (.ow (.lst (hs.map fun _ => .bl true))) [.sh (.tup (hs.map hand)), .sh (hand h), .no] := by
    refine cmpr_run0 (g := hand) .no rfl (.inl rfl) ?_ (fun x hx => ?_) (Nat.le_trans hl (by decide))
    · simp [runFn, exSs, exS, ev, evB, evs, evT, evI, evO, evC, evP, asg, asgs, Rx.bind, Rx.toR, lift, Sl.val, useAt, slAt, R.toFR, outsOf, truB, setAt, argS, giveBack, FR.toRx, noOuts, ownAt, change, setAll, permute, forget, wipeS, isAny, isOf, bopV, cmpV, subV, placeOf, bltV, itemsOf]
    · have := apart_true (n + 2) hh (ha x hx).1 (ha x hx).2
      simp [runFn, exSs, exS, ev, evB, evs, evT, evI, evO, evC, evP, asg, asgs, Rx.bind, Rx.toR, lift, Sl.val, useAt, slAt, R.toFR, outsOf, truB, setAt, argS, giveBack, FR.toRx, noOuts, ownAt, change, setAll, permute, forget, wipeS, isAny, isOf, bopV, cmpV, subV, placeOf, bltV, itemsOf, this]
  have hb : bools (hs.map fun _ => T.bl true) = some (hs.map fun _ => true) := bools_map (f := fun _ => true)
  simp [runFn, exSs, exS, ev, evB, evs, evT, evI, evO, evC, evP, asg, asgs, Rx.bind, Rx.toR, lift, Sl.val, useAt, slAt, R.toFR, outsOf, truB, setAt, argS, giveBack, FR.toRx, noOuts, ownAt, change, setAll, permute, forget, wipeS, isAny, isOf, bopV, cmpV, subV, placeOf, bltV, itemsOf, d_wrong_in_deal_lam0, hc, hand_true n hh, hb]
structure Deal (D : List (List Nat)) : Prop where
  ex : ∃ a b c d, D = [a, b, c, d] ∧ Hand a ∧ Hand b ∧ Hand c ∧ Hand d ∧ Apart a b ∧ Apart a c ∧ Apart a d ∧ Apart b c ∧ Apart b d ∧ Apart c d
theorem Apart.symm {a b : List Nat} (h : Apart a b) : Apart b a := fun x hx z => h x z hx
theorem wdeal_ok (n : Nat) {D : List (List Nat)} (h : Deal D) : run prog (n + 6) 9 [.sh (deal D)] = .ok (.ow (.lst [])) [] := by
  obtain ⟨a, b, c, d, rfl, ha, hb, hc, hd, h1, h2, h3, h4, h5, h6⟩ := h.ex
  have l0 := lam_ok n (hs := []) (h := a) (by decide) ha (by simp)
  have l1 := lam_ok n (hs := [a]) (h := b) (by simp) hb (by intro o ho; simp at ho; subst ho; exact ⟨ha, h1.symm⟩)
  have l2 := lam_ok n (hs := [a, b]) (h := c) (by simp) hc (by intro o ho; simp at ho; rcases ho with rfl | rfl; exact ⟨ha, h2.symm⟩; exact ⟨hb, h4.symm⟩)
  have l3 := lam_ok n (hs := [a, b, c]) (h := d) (by simp) hd (by intro o ho; simp at ho; rcases ho with rfl | rfl | rfl; exact ⟨ha, h3.symm⟩; exact ⟨hb, h5.symm⟩; exact ⟨hc, h6.symm⟩)
  simp only [List.map_cons, List.map_nil] at l0 l1 l2 l3
  rw [r_wdeal]
  simp [runFn, exSs, exS, ev, evB, evs, evT, evI, evO, evC, evP, asg, asgs, Rx.bind, Rx.toR, lift, Sl.val, useAt, slAt, R.toFR, outsOf, truB, setAt, argS, giveBack, FR.toRx, noOuts, ownAt, change, setAll, permute, forget, wipeS, isAny, isOf, bopV, cmpV, subV, placeOf, bltV, itemsOf, d_wrong_in_deal, g3, r_wrong, d_wrong_in, deal, enumL, loopS, sliV, cut, cutAt, l0, l1, l2, l3, eqT, eqN, ltT, ltN, fits]
theorem chdeal_ok (n : Nat) {D : List (List Nat)} (h : Deal D) : run prog (n + 7) 12 [.sh (deal D)] = .ok (.sh .non) [] := by
  rw [r_chdeal]
  simp [runFn, exSs, exS, ev, evB, evs, evT, evI, evO, evC, evP, asg, asgs, Rx.bind, Rx.toR, lift, Sl.val, useAt, slAt, R.toFR, outsOf, truB, setAt, argS, giveBack, FR.toRx, noOuts, ownAt, change, setAll, permute, forget, wipeS, isAny, isOf, bopV, cmpV, subV, placeOf, bltV, itemsOf, d_check_deal, wdeal_ok n h, loopS]
theorem strn_str (s : Nat) : strn s = .str [[99, 100, 104, 115, 110].getD s 0] := rfl
theorem eq_strn : ∀ a, a < 5 → ∀ b, b < 5 → eqT (strn a) (strn b) = some (decide (a = b)) := by decide +kernel
theorem contract_ok (n : Nat) {lv s k : Nat} (h1 : 1 ≤ lv) (h2 : lv ≤ 2) (h3 : s < 5) (h4 : k < 4) : run prog (n + 3) 10 [.sh (con lv s k)] = .ok (.sh (.bl true)) [] := by
  have hi := in_map eq_strn h3 (l := List.range 5) fun x h => List.mem_range.mp h
  have hc : (List.range 5).contains s = true := by simpa using h3
  obtain ⟨z, hz⟩ : ∃ z, strn s = .str z := ⟨_, rfl⟩
  rw [hc, hz] at hi
  have hs := is_seat_ok n k h4
  rw [r_contract]
  have e1 : (1 : Int) ≤ (lv : Int) := by omega
  have e2 : (lv : Int) ≤ 2 := by omega
  simp only [con, hz]
  simp [runFn, exSs, exS, ev, evB, evs, evT, evI, evO, evC, evP, asg, asgs, Rx.bind, Rx.toR, lift, Sl.val, useAt, slAt, R.toFR, outsOf, truB, setAt, argS, giveBack, FR.toRx, noOuts, ownAt, change, setAll, permute, forget, wipeS, isAny, isOf, bopV, cmpV, subV, placeOf, bltV, itemsOf, d_is_contract, g2, g5, g4, r_tupof, d_is_tuple_of, r_betw, d_is_between, r_whole, d_is_whole, r_one, d_is_one_of, hi, hs, eqT, eqN, e1, e2]
theorem chcon_ok (n : Nat) {lv s k : Nat} (h1 : 1 ≤ lv) (h2 : lv ≤ 2) (h3 : s < 5) (h4 : k < 4) : run prog (n + 4) 11 [.sh (con lv s k)] = .ok (.sh .non) [] := by
  rw [r_chcon]
  simp [runFn, exSs, exS, ev, evB, evs, evT, evI, evO, evC, evP, asg, asgs, Rx.bind, Rx.toR, lift, Sl.val, useAt, slAt, R.toFR, outsOf, truB, setAt, argS, giveBack, FR.toRx, noOuts, ownAt, change, setAll, permute, forget, wipeS, isAny, isOf, bopV, cmpV, subV, placeOf, bltV, itemsOf, d_check_contract, contract_ok n h1 h2 h3 h4]
theorem chgame_ok (n : Nat) {D : List (List Nat)} (h : Deal D) {lv s k : Nat} (h1 : 1 ≤ lv) (h2 : lv ≤ 2) (h3 : s < 5) (h4 : k < 4) : run prog (n + 8) 20 [.sh (deal D), .sh (con lv s k)] = .ok (.sh .non) [] := by
  rw [r_chgame]
  simp [runFn, exSs, exS, ev, evB, evs, evT, evI, evO, evC, evP, asg, asgs, Rx.bind, Rx.toR, lift, Sl.val, useAt, slAt, R.toFR, outsOf, truB, setAt, argS, giveBack, FR.toRx, noOuts, ownAt, change, setAll, permute, forget, wipeS, isAny, isOf, bopV, cmpV, subV, placeOf, bltV, itemsOf, d_check_game, chdeal_ok n h, chcon_ok (n + 3) h1 h2 h3 h4]
theorem seat_data (k : Nat) (h : k < 4) : isData0 (seat k) = true := by
  match k, h with
  | 0, _ => rfl
  | 1, _ => rfl
  | 2, _ => rfl
  | 3, _ => rfl
theorem first_ok (n : Nat) {lv s k : Nat} (h4 : k < 4) : run prog (n + 1) 13 [.sh (con lv s k)] = .ok (.sh (.int (((k + 1) % 4 : Nat) : Int))) [] := by
  have hi := ix_map eq_seat h4 (l := List.range 4) (fun x h => List.mem_range.mp h) (List.mem_range.mpr h4)
  have hx : (List.range 4).idxOf k = k := by
    match k, h4 with
    | 0, _ => rfl
    | 1, _ => rfl
    | 2, _ => rfl
    | 3, _ => rfl
  rw [hx] at hi
  have hd : ((List.range 4).map seat).all isData0 = true := by decide +kernel
  rw [r_first]
  simp [runFn, exSs, exS, ev, evB, evs, evT, evI, evO, evC, evP, asg, asgs, Rx.bind, Rx.toR, lift, Sl.val, useAt, slAt, R.toFR, outsOf, truB, setAt, argS, giveBack, FR.toRx, noOuts, ownAt, change, setAll, permute, forget, wipeS, isAny, isOf, bopV, cmpV, subV, placeOf, bltV, itemsOf, d_first_turn, g1, g3, con, mthV, seat_data k h4, hd, hi]
end K43
end

section
set_option maxRecDepth 100000
set_option maxHeartbeats 4000000
/-! Who wins a trick, by the program and by the law. -/
namespace K43
/-- the suit that wins: trumps, if there are any -/
def sl (s : Nat) (tr : List Nat) : Nat := if tr.any (fun c => decide (c / 3 = s)) then s else tr.headD 0 / 3
def best (s : Nat) (tr : List Nat) : Nat := (tr.filter fun c => decide (c / 3 = sl s tr)).foldl max 0
def wi (s : Nat) (tr : List Nat) : Nat := tr.idxOf (best s tr)
def cls (s h c : Nat) : Nat := if c / 3 = s then 2 else if c / 3 = h / 3 then 1 else 0
def rk (s h k c : Nat) : Nat := cls s h c * 12 + (c % 3) * 4 + k
def wl (s a b c d : Nat) : Nat := (max (max (max (rk s a 0 a) (rk s a 1 b)) (rk s a 2 c)) (rk s a 3 d)) % 4
theorem fold_max : ∀ (l : List Nat) (m : Nat), m ≤ l.foldl max m ∧ (∀ x ∈ l, x ≤ l.foldl max m) ∧ (l.foldl max m = m ∨ l.foldl max m ∈ l)
  | [], m => ⟨Nat.le_refl _, by simp, .inl rfl⟩
  | x :: l, m => by
    obtain ⟨h1, h2, h3⟩ := fold_max l (max m x)
    rw [List.foldl_cons]
    refine ⟨by omega, fun y hy => ?_, ?_⟩
    · rcases List.mem_cons.mp hy with rfl | hy
      · omega
      · exact h2 y hy
    · rcases h3 with h3 | h3
      · by_cases e : m ≤ x
        · exact .inr (by rw [h3, Nat.max_eq_right e]; exact List.mem_cons_self)
        · exact .inl (by rw [h3, Nat.max_eq_left (by omega)])
      · exact .inr (List.mem_cons_of_mem _ h3)
/-- there is a card of that suit -/
theorem sl_mem {s a : Nat} {r : List Nat} : ∃ x ∈ a :: r, x / 3 = sl s (a :: r) := by
  unfold sl
  by_cases h : (a :: r).any (fun c => decide (c / 3 = s)) = true
  · rw [if_pos h]
    obtain ⟨x, hx, e⟩ := List.any_eq_true.mp h
    exact ⟨x, hx, by simpa using e⟩
  · rw [if_neg h]
    exact ⟨a, List.mem_cons_self, rfl⟩
theorem best_ok {s a : Nat} {r : List Nat} : best s (a :: r) ∈ a :: r ∧ best s (a :: r) / 3 = sl s (a :: r) ∧ ∀ x ∈ a :: r, x / 3 = sl s (a :: r) → x ≤ best s (a :: r) := by
  obtain ⟨x0, hx0, e0⟩ := sl_mem (s := s) (a := a) (r := r)
  have m0 : x0 ∈ (a :: r).filter fun c => decide (c / 3 = sl s (a :: r)) := List.mem_filter.mpr ⟨hx0, by simpa using e0⟩
  obtain ⟨_, h2, h3⟩ := fold_max ((a :: r).filter fun c => decide (c / 3 = sl s (a :: r))) 0
  have hm : best s (a :: r) ∈ (a :: r).filter fun c => decide (c / 3 = sl s (a :: r)) := by
    rcases h3 with h3 | h3
    · have h4 := h2 _ m0
      have : x0 = 0 := by omega
      unfold best
      rw [h3, ← this]
      exact m0
    · exact h3
  obtain ⟨hm1, hm2⟩ := List.mem_filter.mp hm
  exact ⟨hm1, by simpa using hm2, fun x hx e => h2 x (List.mem_filter.mpr ⟨hx, by simpa using e⟩)⟩
theorem key_lt {s a x M : Nat} {r : List Nat} (hx : x ∈ a :: r) (hM : M ∈ a :: r) (hne : x ≠ M) (h1 : M / 3 = sl s (a :: r)) (h2 : x / 3 = sl s (a :: r) → x ≤ M) : cls s a x * 3 + x % 3 < cls s a M * 3 + M % 3 := by
  unfold sl at h1 h2
  unfold cls
  by_cases h : (a :: r).any (fun c => decide (c / 3 = s)) = true
  · rw [if_pos h] at h1 h2
    rw [if_pos h1]
    split
    · rename_i e
      have := h2 e
      omega
    · split <;> omega
  · rw [if_neg h] at h1 h2
    have nx : ∀ y ∈ a :: r, y / 3 ≠ s := fun y hy e => h (List.any_eq_true.mpr ⟨y, hy, by simpa using e⟩)
    rw [if_neg (nx x hx), if_neg (nx M hM)]
    have h1 : M / 3 = a / 3 := h1
    rw [if_pos h1]
    split
    · rename_i e
      have := h2 e
      omega
    · omega
theorem idx_ne {x y : Nat} {l : List Nat} (h : x ≠ y) : (x :: l).idxOf y = l.idxOf y + 1 := by
  rw [List.idxOf_cons, show (x == y) = false by simpa using h]
  rfl
theorem wl_wi {s a b c d : Nat} (nd : [a, b, c, d].Nodup) : wl s a b c d = wi s [a, b, c, d] := by
  obtain ⟨hm, h1, h2⟩ := best_ok (s := s) (a := a) (r := [b, c, d])
  have key : ∀ x ∈ [a, b, c, d], x ≠ best s [a, b, c, d] → cls s a x * 3 + x % 3 < cls s a (best s [a, b, c, d]) * 3 + best s [a, b, c, d] % 3 := fun x hx hne => key_lt hx hm hne h1 (h2 x hx)
  unfold wi
  generalize best s [a, b, c, d] = M at *
  have ka := key a (by simp)
  have kb := key b (by simp)
  have kc := key c (by simp)
  have kd := key d (by simp)
  simp only [List.nodup_cons, List.mem_cons, List.not_mem_nil, or_false, not_or] at nd
  obtain ⟨⟨n1, n2, n3⟩, ⟨n4, n5⟩, n6, _⟩ := nd
  simp only [List.mem_cons, List.not_mem_nil, or_false] at hm
  unfold wl rk
  rcases hm with rfl | rfl | rfl | rfl
  · rw [List.idxOf_cons_self]
    have := kb (Ne.symm n1); have := kc (Ne.symm n2); have := kd (Ne.symm n3)
    omega
  · rw [idx_ne n1, List.idxOf_cons_self]
    have := ka n1; have := kc (Ne.symm n4); have := kd (Ne.symm n5)
    omega
  · rw [idx_ne n2, idx_ne n4, List.idxOf_cons_self]
    have := ka n2; have := kb n4; have := kd (Ne.symm n6)
    omega
  · rw [idx_ne n3, idx_ne n5, idx_ne n6, List.idxOf_cons_self]
    have := ka n3; have := kb n5; have := kc n6
    omega
end K43
end

section
set_option maxRecDepth 100000
set_option maxHeartbeats 2000000
/-! Law k43: tricks, who wins them. -/
namespace K43
open Py
theorem r_winner (n : Nat) (as : List Sl) : run prog (n + 1) 14 as = runFn (Γ n) d_winner_in as := rfl
theorem r_lwin (n : Nat) (as : List Sl) : run prog (n + 1) 34 as = runFn (Γ n) d__law_winner as := rfl
theorem eq_suit : ∀ a, a < 12 → ∀ s, s < 5 → eqT (.str [sc a]) (strn s) = some (decide (a / 3 = s)) := by decide +kernel
theorem suit_strn : ∀ a, a < 12 → T.str [sc a] = strn (a / 3) := by
  intro a h
  match a, h with
  | 0, _ => rfl
  | 1, _ => rfl
  | 2, _ => rfl
  | 3, _ => rfl
  | 4, _ => rfl
  | 5, _ => rfl
  | 6, _ => rfl
  | 7, _ => rfl
  | 8, _ => rfl
  | 9, _ => rfl
  | 10, _ => rfl
  | 11, _ => rfl
theorem lt_cardD : ∀ a, a < 12 → ∀ b, b < 12 → PySem.W.dataLt (toD (card a)) (toD (card b)) = decide (a < b) := by decide +kernel
theorem ofTo : ∀ t : T, (∃ s, t = .str s) → ofD (toD t) = t := by
  rintro t ⟨s, rfl⟩
  simp [toD, ofD]
theorem ofTos (m : Nat) (g : Nat → T) (h : ∀ a, a < m → ofD (toD (g a)) = g a) (hlt : ∀ a, a < m → ∀ b, b < m → PySem.W.dataLt (toD (g a)) (toD (g b)) = decide (a < b)) : ∀ (l : List Nat) (x : Nat), x < m → (∀ y ∈ l, y < m) → maxT (g x) (l.map g) = g (l.foldl max x) := by
  intro l
  unfold maxT PySem.W.maxD
  have key : ∀ (l : List Nat) (x : Nat), x < m → (∀ y ∈ l, y < m) → List.foldl (fun a y => if PySem.W.dataLt a y then y else a) (toD (g x)) (toDs (l.map g)) = toD (g (l.foldl max x)) ∧ l.foldl max x < m := by
    intro l
    induction l with
    | nil => intro x hx _; exact ⟨rfl, hx⟩
    | cons y l ih =>
      intro x hx hl
      have hy := hl y List.mem_cons_self
      rw [List.map_cons, toDs, List.foldl_cons, hlt x hx y hy, List.foldl_cons]
      have e : (if decide (x < y) = true then toD (g y) else toD (g x)) = toD (g (max x y)) := by
        by_cases h : x < y
        · rw [if_pos (by simpa using h), Nat.max_eq_right (by omega)]
        · rw [if_neg (by simpa using h), Nat.max_eq_left (by omega)]
      rw [e]
      exact ih (max x y) (by omega) fun z hz => hl z (List.mem_cons_of_mem _ hz)
  intro x hx hl
  obtain ⟨h1, h2⟩ := key l x hx hl
  rw [h1, h _ h2]
theorem isDs_map {g : Nat → T} : ∀ {l : List Nat}, (∀ x ∈ l, isD deepMost (g x) = true) → isDs deepMost (l.map g) = true
  | [], _ => rfl
  | x :: l, h => by
    rw [List.map_cons, isDs, h x List.mem_cons_self, isDs_map fun y hy => h y (List.mem_cons_of_mem _ hy)]
    rfl
theorem okD_map {g : Nat → T} {l : List Nat} (h1 : ∀ x ∈ l, isD deepMost (g x) = true) (h2 : ∀ x ∈ l, ∀ y ∈ l, PySem.W.alike (toD (g x)) (toD (g y)) = true) : okD (l.map g) = true := by
  unfold okD
  rw [isDs_map h1, Bool.true_and, List.all_map, List.all_eq_true]
  intro x hx
  simp only [Function.comp, List.all_map, List.all_eq_true]
  intro y hy
  exact h2 x hx y hy
theorem max_cards {x : Nat} {l : List Nat} (h : Low (x :: l)) : bltV .max [.lst ((x :: l).map card)] = some (.sh (card ((x :: l).foldl max 0))) := by
  have hok := okD_map (g := card) (l := x :: l) (fun y _ => rfl) (fun y _ z _ => rfl)
  have := ofTos 12 card (fun a _ => ofTo _ ⟨_, rfl⟩) lt_cardD l x (h x List.mem_cons_self) fun y hy => h y (List.mem_cons_of_mem _ hy)
  rw [List.map_cons] at hok ⊢
  show (if okD (card x :: l.map card) = true then some (Sl.sh (maxT (card x) (l.map card))) else none) = _
  rw [if_pos hok, this, List.foldl_cons, Nat.zero_max]
theorem max_cards' {l : List Nat} (hne : l ≠ []) (h : Low l) : bltV .max [.lst (l.map card)] = some (.sh (card (l.foldl max 0))) := by
  cases l with
  | nil => exact absurd rfl hne
  | cons x l => exact max_cards h
theorem ix_card {c : Nat} (hc : c < 12) {l : List Nat} (h : Low l) (hm : c ∈ l) : ixTs (card c) (l.map card) = some (l.idxOf c) := ix_map eq_card hc h hm
theorem mth_ix {c : Nat} {l : List Nat} (h : Low l) (hm : c ∈ l) : mthV .index [hand l, card c] = some (.sh (.int (l.idxOf c : Nat))) := by
  have hd : (l.map card).all isData0 = true := by
    rw [List.all_map, List.all_eq_true]
    intro x _
    rfl
  have hix := ix_card (h _ hm) h hm
  unfold hand
  show (if (isData0 (card c) && (l.map card).all isData0) = true then (ixTs (card c) (l.map card)).map (fun (k : Nat) => Sl.sh (.int k)) else none) = _
  rw [hd, hix]
  rfl
theorem data_cards (l : List Nat) : (l.map card).all isData0 = true := by
  rw [List.all_map, List.all_eq_true]
  intro x _
  rfl
/-- who wins, by the program -/
theorem winner_ok (n : Nat) {lv s k ld a b c d : Nat} (hs : s < 5) (h : Low [a, b, c, d]) : run prog (n + 1) 14 [.sh (con lv s k), .sh (.int ld), .sh (hand [a, b, c, d])] = .ok (.sh (.int (((ld + wi s [a, b, c, d]) % 4 : Nat) : Int))) [] := by
  rw [r_winner]
  have hA : ∀ q : Sl, ev (Γ n) (.cmpr (.cmp .eq (.cons (.sub (.cons (.nm 4) (.cons (.cst (.int 0)) .nil))) (.cons (.sub (.cons (.nm 0) (.cons (.cst (.int 1)) .nil))) .nil))) [4] (.cons (.nm 4) (.ex (.nm 2)) .nil .nil)) [.sh (con lv s k), .sh (.int ld), .sh (hand [a, b, c, d]), .no, .no, .no] = .ok (.ow (.lst ([a, b, c, d].map fun x => .bl (decide (x / 3 = s))))) [.sh (con lv s k), .sh (.int ld), .sh (hand [a, b, c, d]), .no, .no, .no] := fun q => by
    refine cmpr_run0 (g := card) .no rfl (.inl rfl) ?_ (fun x hx => ?_) (Nat.le_trans (Nat.le_refl 4) (by decide))
    · simp [runFn, exSs, exS, ev, evB, evs, evT, evI, evO, evC, evP, asg, asgs, Rx.bind, Rx.toR, lift, Sl.val, useAt, slAt, R.toFR, outsOf, truB, setAt, argS, giveBack, FR.toRx, noOuts, ownAt, change, setAll, permute, forget, wipeS, isAny, isOf, bopV, cmpV, subV, placeOf, bltV, itemsOf, hand]
    · have := eq_suit x (h x hx) s hs
      simp [runFn, exSs, exS, ev, evB, evs, evT, evI, evO, evC, evP, asg, asgs, Rx.bind, Rx.toR, lift, Sl.val, useAt, slAt, R.toFR, outsOf, truB, setAt, argS, giveBack, FR.toRx, noOuts, ownAt, change, setAll, permute, forget, wipeS, isAny, isOf, bopV, cmpV, subV, placeOf, bltV, itemsOf, fits, sizeMost, con, card_str, this]
  have hB : ∀ u, u < 5 → ev (Γ n) (.cmpr (.nm 4) [4] (.cons (.nm 4) (.ex (.nm 2)) (.cons (.cmp .eq (.cons (.sub (.cons (.nm 4) (.cons (.cst (.int 0)) .nil))) (.cons (.nm 3) .nil))) .nil) .nil)) [.sh (con lv s k), .sh (.int ld), .sh (hand [a, b, c, d]), .sh (strn u), .no, .no] = .ok (.ow (.lst (([a, b, c, d].filter fun x => decide (x / 3 = u)).map card))) [.sh (con lv s k), .sh (.int ld), .sh (hand [a, b, c, d]), .sh (strn u), .no, .no] := fun u hu => by
    refine cmpr_run (g := card) .no rfl (.inl rfl) ?_ (fun x hx => ?_) (fun x hx _ => ?_) (Nat.le_trans (Nat.le_refl 4) (by decide))
    · simp [runFn, exSs, exS, ev, evB, evs, evT, evI, evO, evC, evP, asg, asgs, Rx.bind, Rx.toR, lift, Sl.val, useAt, slAt, R.toFR, outsOf, truB, setAt, argS, giveBack, FR.toRx, noOuts, ownAt, change, setAll, permute, forget, wipeS, isAny, isOf, bopV, cmpV, subV, placeOf, bltV, itemsOf, hand]
    · have := eq_suit x (h x hx) u hu
      refine evC_one ?_
      simp [runFn, exSs, exS, ev, evB, evs, evT, evI, evO, evC, evP, asg, asgs, Rx.bind, Rx.toR, lift, Sl.val, useAt, slAt, R.toFR, outsOf, truB, setAt, argS, giveBack, FR.toRx, noOuts, ownAt, change, setAll, permute, forget, wipeS, isAny, isOf, bopV, cmpV, subV, placeOf, bltV, itemsOf, fits, sizeMost, card_str, this]
    · simp [runFn, exSs, exS, ev, evB, evs, evT, evI, evO, evC, evP, asg, asgs, Rx.bind, Rx.toR, lift, Sl.val, useAt, slAt, R.toFR, outsOf, truB, setAt, argS, giveBack, FR.toRx, noOuts, ownAt, change, setAll, permute, forget, wipeS, isAny, isOf, bopV, cmpV, subV, placeOf, bltV, itemsOf]
  have hu : sl s [a, b, c, d] < 5 := by
    unfold sl
    split
    · exact hs
    · have := h a List.mem_cons_self
      show a / 3 < 5
      omega
  obtain ⟨b1, b2, b3⟩ := best_ok (s := s) (a := a) (r := [b, c, d])
  have hne : ([a, b, c, d].filter fun x => decide (x / 3 = sl s [a, b, c, d])) ≠ [] := fun z => by
    have : best s [a, b, c, d] ∈ [a, b, c, d].filter fun x => decide (x / 3 = sl s [a, b, c, d]) := List.mem_filter.mpr ⟨b1, by simpa using b2⟩
    rw [z] at this
    cases this
  have hmx := max_cards' hne fun x hx => h x (List.mem_filter.mp hx).1
  have hix := ix_card (h _ b1) h b1
  have hsuit : (if [a, b, c, d].any (fun x => decide (x / 3 = s)) = true then strn s else T.str [sc a]) = strn (sl s [a, b, c, d]) := by
    unfold sl
    split
    · rfl
    · exact suit_strn a (h a List.mem_cons_self)
  have hA := hA .no
  have hB := hB _ hu
  have hany : ev (Γ n) (.blt .any (.cons (.cmpr (.cmp .eq (.cons (.sub (.cons (.nm 4) (.cons (.cst (.int 0)) .nil))) (.cons (.sub (.cons (.nm 0) (.cons (.cst (.int 1)) .nil))) .nil))) [4] (.cons (.nm 4) (.ex (.nm 2)) .nil .nil)) .nil)) [.sh (con lv s k), .sh (.int ld), .sh (hand [a, b, c, d]), .no, .no, .no] = .ok (.sh (.bl ([a, b, c, d].any fun x => decide (x / 3 = s)))) [.sh (con lv s k), .sh (.int ld), .sh (hand [a, b, c, d]), .no, .no, .no] := by
    rw [ev, evs_c1 (by simp) (by simp), evT, hA]
    simp only [Rx.bind_ok, lift_some, Sl.val, evs, bltV, bools_map, Option.map_some, List.any_map]
    rfl
  have hife : ev (Γ n) (.ife (.blt .any (.cons (.cmpr (.cmp .eq (.cons (.sub (.cons (.nm 4) (.cons (.cst (.int 0)) .nil))) (.cons (.sub (.cons (.nm 0) (.cons (.cst (.int 1)) .nil))) .nil))) [4] (.cons (.nm 4) (.ex (.nm 2)) .nil .nil)) .nil)) (.sub (.cons (.nm 0) (.cons (.cst (.int 1)) .nil))) (.sub (.cons (.sub (.cons (.nm 2) (.cons (.cst (.int 0)) .nil))) (.cons (.cst (.int 0)) .nil)))) [.sh (con lv s k), .sh (.int ld), .sh (hand [a, b, c, d]), .no, .no, .no] = .ok (.sh (strn (sl s [a, b, c, d]))) [.sh (con lv s k), .sh (.int ld), .sh (hand [a, b, c, d]), .no, .no, .no] := by
    rw [← hsuit, ev, evB, hany]
    generalize ([a, b, c, d].any fun x => decide (x / 3 = s)) = e
    cases e <;> simp [runFn, exSs, exS, ev, evB, evs, evT, evI, evO, evC, evP, asg, asgs, Rx.bind, Rx.toR, lift, Sl.val, useAt, slAt, R.toFR, outsOf, truB, setAt, argS, giveBack, FR.toRx, noOuts, ownAt, change, setAll, permute, forget, wipeS, isAny, isOf, bopV, cmpV, subV, placeOf, bltV, itemsOf, con, hand, card_str, fits, sizeMost]
  have hmi := mth_ix h b1
  have hmx : bltV .max [.lst (([a, b, c, d].filter fun x => decide (x / 3 = sl s [a, b, c, d])).map card)] = some (.sh (card (best s [a, b, c, d]))) := hmx
  have hw : [a, b, c, d].idxOf (best s [a, b, c, d]) = wi s [a, b, c, d] := rfl
  rw [hw] at hmi
  generalize wi s [a, b, c, d] = W at *
  generalize best s [a, b, c, d] = B at *
  generalize ([a, b, c, d].filter fun x => decide (x / 3 = sl s [a, b, c, d])) = Fl at *
  generalize strn (sl s [a, b, c, d]) = U at *
  generalize hand [a, b, c, d] = HD at *
  simp [runFn, exSs, exS, ev, evB, evs, evT, evI, evO, evC, evP, asg, asgs, Rx.bind, Rx.toR, lift, Sl.val, useAt, slAt, R.toFR, outsOf, truB, setAt, argS, giveBack, FR.toRx, noOuts, ownAt, change, setAll, permute, forget, wipeS, isAny, isOf, bopV, cmpV, subV, placeOf, itemsOf, d_winner_in, ↓hife, ↓hB, hmx, hmi, g3]
end K43
end

section
set_option maxRecDepth 100000
set_option maxHeartbeats 2000000
/-! Law k43: who wins, by the law; what is drawn. -/
namespace K43
open Py
def trip (i : Nat) : T := .tup [.int ((i / 12 : Nat) : Int), .str [49 + i / 4 % 3], .int ((i % 4 : Nat) : Int)]
theorem lt_trip : ∀ a, a < 36 → ∀ b, b < 36 → PySem.W.dataLt (toD (trip a)) (toD (trip b)) = decide (a < b) := by decide +kernel
theorem of_trip (a : Nat) : ofD (toD (trip a)) = trip a := by
  simp [trip, toD, toDs, ofD, ofDs]
theorem max_trips {x : Nat} {l : List Nat} (hx : x < 36) (h : ∀ y ∈ l, y < 36) : bltV .max [.lst (trip x :: l.map trip)] = some (.sh (trip (l.foldl max x))) := by
  have hok := okD_map (g := trip) (l := x :: l) (fun y _ => rfl) (fun y _ z _ => rfl)
  have := ofTos 36 trip (fun a _ => of_trip a) lt_trip l x hx h
  rw [List.map_cons] at hok
  show (if okD (trip x :: l.map trip) = true then some (Sl.sh (maxT (trip x) (l.map trip))) else none) = _
  rw [if_pos hok, this]
theorem cls_le {s h c : Nat} : cls s h c ≤ 2 := by
  unfold cls
  split
  · omega
  · split <;> omega
theorem rk_lt {s h k c : Nat} (hk : k < 4) : rk s h k c < 36 := by
  have := cls_le (s := s) (h := h) (c := c)
  unfold rk
  omega
theorem trip_rk {s h k c : Nat} (hk : k < 4) : trip (rk s h k c) = .tup [.int ((cls s h c : Nat) : Int), .str [49 + c % 3], .int ((k : Nat) : Int)] := by
  unfold trip rk
  have e1 : (cls s h c * 12 + c % 3 * 4 + k) / 12 = cls s h c := by omega
  have e2 : (cls s h c * 12 + c % 3 * 4 + k) / 4 % 3 = c % 3 := by omega
  have e3 : (cls s h c * 12 + c % 3 * 4 + k) % 4 = k := by omega
  rw [e1, e2, e3]
def lwBody : Ss := (.cons (.asg (.nm 4) (.sub (.cons (.sub (.cons (.nm 0) (.cons (.nm 3) .nil))) (.cons (.cst (.int 0)) .nil)))) (.cons (.exp (.mut .append 2 (.cons (.tup (.cons (.ife (.cmp .eq (.cons (.nm 4) (.cons (.nm 1) .nil))) (.cst (.int 2)) (.ife (.cmp .eq (.cons (.nm 4) (.cons (.sub (.cons (.sub (.cons (.nm 0) (.cons (.cst (.int 0)) .nil))) (.cons (.cst (.int 0)) .nil))) .nil))) (.cst (.int 1)) (.cst (.int 0)))) (.cons (.sub (.cons (.sub (.cons (.nm 0) (.cons (.nm 3) .nil))) (.cons (.cst (.int 1)) .nil))) (.cons (.nm 3) .nil)))) .nil))) .nil))
theorem lwBody_ok (n : Nat) {s k x a : Nat} {tr acc : List T} (hs : s < 5) (hx : x < 12) (ha : a < 12) (hk : k < 4) (h1 : subV (.tup tr) (.int ((k : Nat) : Int)) = some (card x)) (h0 : subV (.tup tr) (.int 0) = some (card a)) (hl : acc.length < 10) :
    exSs (Γ n) lwBody [.sh (.tup tr), .sh (strn s), .ow (.lst acc), .sh (.int ((k : Nat) : Int)), .no] = .nx [.sh (.tup tr), .sh (strn s), .ow (.lst (acc ++ [trip (rk s a k x)])), .sh (.int ((k : Nat) : Int)), .sh (.str [sc x])] := by
  rw [trip_rk hk]
  have e1 := eq_suit x hx s hs
  have e2 := eq_suit x hx (a / 3) (by omega)
  rw [← suit_strn a ha] at e2
  have c0 : ∀ c, subV (card c) (.int 0) = some (.str [sc c]) := fun c => by simp [card_str, subV, placeOf, fits, sizeMost]
  have c1 : ∀ c, subV (card c) (.int 1) = some (.str [49 + c % 3]) := fun c => by simp [card_str, subV, placeOf, fits, sizeMost]
  have hl2 : acc.length < sizeMost := Nat.lt_trans hl (by decide)
  unfold cls
  by_cases q1 : x / 3 = s
  · rw [if_pos q1]
    rw [decide_eq_true q1] at e1
    simp [runFn, exSs, exS, ev, evB, evs, evT, evI, evO, evC, evP, asg, asgs, Rx.bind, Rx.toR, lift, Sl.val, useAt, slAt, R.toFR, outsOf, truB, setAt, argS, giveBack, FR.toRx, noOuts, ownAt, change, setAll, permute, forget, wipeS, isAny, isOf, bopV, cmpV, bltV, itemsOf, lwBody, h1, h0, c0, c1, e1, mutV, hl2, fits, sizeMost]
  · rw [if_neg q1]
    rw [decide_eq_false q1] at e1
    by_cases q2 : x / 3 = a / 3
    · rw [if_pos q2]
      rw [decide_eq_true q2] at e2
      simp [runFn, exSs, exS, ev, evB, evs, evT, evI, evO, evC, evP, asg, asgs, Rx.bind, Rx.toR, lift, Sl.val, useAt, slAt, R.toFR, outsOf, truB, setAt, argS, giveBack, FR.toRx, noOuts, ownAt, change, setAll, permute, forget, wipeS, isAny, isOf, bopV, cmpV, bltV, itemsOf, lwBody, h1, h0, c0, c1, e1, e2, mutV, hl2, fits, sizeMost]
    · rw [if_neg q2]
      rw [decide_eq_false q2] at e2
      simp [runFn, exSs, exS, ev, evB, evs, evT, evI, evO, evC, evP, asg, asgs, Rx.bind, Rx.toR, lift, Sl.val, useAt, slAt, R.toFR, outsOf, truB, setAt, argS, giveBack, FR.toRx, noOuts, ownAt, change, setAll, permute, forget, wipeS, isAny, isOf, bopV, cmpV, bltV, itemsOf, lwBody, h1, h0, c0, c1, e1, e2, mutV, hl2, fits, sizeMost]
theorem lwin_ok (n : Nat) {s a b c d : Nat} (hs : s < 5) (h : Low [a, b, c, d]) : run prog (n + 1) 34 [.sh (hand [a, b, c, d]), .sh (strn s)] = .ok (.sh (.int ((wl s a b c d : Nat) : Int))) [] := by
  rw [r_lwin]
  have ha := h a (by simp)
  have hb := h b (by simp)
  have hc := h c (by simp)
  have hd := h d (by simp)
  have b0 := lwBody_ok n (acc := []) (tr := [card a, card b, card c, card d]) (k := 0) hs ha ha (by decide) (by simp [subV, placeOf]) (by simp [subV, placeOf]) (by simp)
  have b1 := lwBody_ok n (acc := [trip (rk s a 0 a)]) (tr := [card a, card b, card c, card d]) (k := 1) hs hb ha (by decide) (by simp [subV, placeOf]) (by simp [subV, placeOf]) (by simp)
  have b2 := lwBody_ok n (acc := [trip (rk s a 0 a), trip (rk s a 1 b)]) (tr := [card a, card b, card c, card d]) (k := 2) hs hc ha (by decide) (by simp [subV, placeOf]) (by simp [subV, placeOf]) (by simp)
  have b3 := lwBody_ok n (acc := [trip (rk s a 0 a), trip (rk s a 1 b), trip (rk s a 2 c)]) (tr := [card a, card b, card c, card d]) (k := 3) hs hd ha (by decide) (by simp [subV, placeOf]) (by simp [subV, placeOf]) (by simp)
  have hm := max_trips (x := rk s a 0 a) (l := [rk s a 1 b, rk s a 2 c, rk s a 3 d]) (rk_lt (by decide)) (by intro y hy; simp at hy; rcases hy with rfl | rfl | rfl <;> exact rk_lt (by decide))
  simp only [List.map_cons, List.map_nil, List.foldl_cons, List.foldl_nil, List.cons_append, List.nil_append] at hm b0 b1 b2 b3
  have hr : rangeV [.int 4] = some [.int ((0 : Nat) : Int), .int ((1 : Nat) : Int), .int ((2 : Nat) : Int), .int ((3 : Nat) : Int)] := by rfl
  have hw : subV (trip (max (max (max (rk s a 0 a) (rk s a 1 b)) (rk s a 2 c)) (rk s a 3 d))) (.int 2) = some (.int ((wl s a b c d : Nat) : Int)) := by
    unfold trip wl
    simp [subV, placeOf]
  have hh : hand [a, b, c, d] = .tup [card a, card b, card c, card d] := rfl
  rw [hh]
  have hbd : d__law_winner = ⟨2, 5, (.cons (.asg (.nm 2) (.lst .nil)) (.cons (.for_ (.nm 3) (.rng (.cons (.cst (.int 4)) .nil)) lwBody [3, 4]) (.cons (.ret (.sub (.cons (.blt .max (.cons (.pk 2) .nil)) (.cons (.cst (.int 2)) .nil)))) .nil)))⟩ := rfl
  rw [hbd]
  push_cast at b0 b1 b2 b3 hr
  generalize max (max (max (rk s a 0 a) (rk s a 1 b)) (rk s a 2 c)) (rk s a 3 d) = M at hm hw
  simp [runFn, exSs, exS, ev, evB, evs, evT, evI, evO, evC, evP, asg, asgs, Rx.bind, Rx.toR, lift, Sl.val, useAt, slAt, R.toFR, outsOf, truB, setAt, argS, giveBack, FR.toRx, noOuts, ownAt, change, setAll, permute, forget, wipeS, isAny, isOf, bopV, cmpV, itemsOf, hr, loopS, ↓b0, ↓b1, ↓b2, ↓b3, hm, hw, fits, sizeMost]
end K43
end

section
set_option maxRecDepth 100000
set_option maxHeartbeats 4000000
/-! Law k43: what is drawn. -/
namespace K43
open Py
theorem r_draw (n : Nat) (as : List Sl) : run prog (n + 1) 26 as = runFn (Γ n) d__law_draw as := rfl
theorem r_of (n : Nat) (as : List Sl) : run prog (n + 1) 27 as = runFn (Γ n) d__law_of as := rfl
theorem r_shuf (n : Nat) (as : List Sl) : run prog (n + 1) 28 as = runFn (Γ n) d__law_shuffled as := rfl
theorem r_cards (n : Nat) (as : List Sl) : run prog (n + 1) 30 as = runFn (Γ n) d__law_cards as := rfl
theorem r_deal (n : Nat) (as : List Sl) : run prog (n + 1) 31 as = runFn (Γ n) d__law_deal as := rfl
theorem r_seats (n : Nat) (as : List Sl) : run prog (n + 1) 32 as = runFn (Γ n) d__law_seats as := rfl
theorem r_dcon (n : Nat) (as : List Sl) : run prog (n + 1) 37 as = runFn (Γ n) d__law_drawn_contract as := rfl
theorem r_well (n : Nat) (as : List Sl) : run prog (n + 1) 25 as = runFn (Γ n) d__law_well as := rfl
/-- a well -/
def Well (t : T) : Prop := ∃ a b c : Int, t = .lst [.int a, .int b, .int c]
theorem mod_abs (x : Int) : (x % 2147483587).natAbs < 18446744073709551616 := by
  have h1 := Int.emod_nonneg x (show (2147483587 : Int) ≠ 0 by decide)
  have h2 := Int.emod_lt_of_pos x (show (0 : Int) < 2147483587 by decide)
  omega
theorem draw_ok (n : Nat) {w : T} (hw : Well w) {lim : Nat} (h1 : 0 < lim) (h2 : lim < 1073741824) : ∃ (r : Nat) (w' : T), r < lim ∧ Well w' ∧ run prog (n + 1) 26 [.bo w, .sh (.int (lim : Int))] = .ok (.sh (.int (r : Int))) [w'] := by
  obtain ⟨a, b, c, rfl⟩ := hw
  have l1 : (0 : Int) < (lim : Int) := by omega
  have l2 : (lim : Int) < 1073741824 := by omega
  have res : ∀ x : Int, ∃ r : Nat, r < lim ∧ x % (lim : Int) = (r : Int) := fun x => by
    have g1 := Int.emod_nonneg x (show (lim : Int) ≠ 0 by omega)
    have g2 := Int.emod_lt_of_pos x l1
    exact ⟨(x % (lim : Int)).toNat, by omega, by omega⟩
  rw [r_draw]
  by_cases ha : 0 < a
  · obtain ⟨r, hr, e⟩ := res a
    refine ⟨r, .lst [.int (a / lim), .int b, .int c], hr, ⟨_, _, _, rfl⟩, ?_⟩
    simp [runFn, exSs, exS, ev, evB, evs, evT, evI, evO, evC, evP, asg, asgs, Rx.bind, Rx.toR, lift, Sl.val, useAt, slAt, R.toFR, outsOf, truB, setAt, argS, giveBack, FR.toRx, noOuts, ownAt, change, setAll, permute, forget, wipeS, isAny, isOf, bopV, cmpV, subV, placeOf, bltV, itemsOf, d__law_draw, ha, h1, l1, l2, setV, e, Tgs.len]
  · have hab : (if decide (0 < a) = true then true else false) = false := by simp [ha]
    have key : ∃ (x y z : Int), runFn (Γ n) d__law_draw [.bo (.lst [.int a, .int b, .int c]), .sh (.int (lim : Int))] = .ok (.sh (.int (x % (lim : Int)))) [.lst [.int a, .int y, .int z]] := by
      refine ⟨((b * 40009 + 15013 * (c + 1) + 3) % 2147483587 * ((b * 40009 + 15013 * (c + 1) + 3) % 2147483587 % 5003 + 20011) + (c + 1)) % 2147483587 / 1069, ((b * 40009 + 15013 * (c + 1) + 3) % 2147483587 * ((b * 40009 + 15013 * (c + 1) + 3) % 2147483587 % 5003 + 20011) + (c + 1)) % 2147483587, c + 1, ?_⟩
      simp [runFn, exSs, exS, ev, evB, evs, evT, evI, evO, evC, evP, asg, asgs, Rx.bind, Rx.toR, lift, Sl.val, useAt, slAt, R.toFR, outsOf, truB, setAt, argS, giveBack, FR.toRx, noOuts, ownAt, change, setAll, permute, forget, wipeS, isAny, isOf, bopV, cmpV, subV, placeOf, bltV, itemsOf, d__law_draw, ha, h1, l1, setV, mod_abs]
    obtain ⟨x, y, z, e⟩ := key
    obtain ⟨r, hr, e2⟩ := res x
    exact ⟨r, _, hr, ⟨_, _, _, rfl⟩, by rw [e, e2]⟩
theorem of_ok (n : Nat) {w : T} (hw : Well w) {L : List T} (h1 : L ≠ []) (h2 : L.length ≤ 100) : ∃ (t : T) (w' : T), t ∈ L ∧ Well w' ∧ run prog (n + 2) 27 [.bo w, .sh (.tup L)] = .ok (.sh t) [w'] := by
  have hp : 0 < L.length := List.length_pos_iff.mpr h1
  obtain ⟨r, w', hr, hw', e⟩ := draw_ok n hw (lim := L.length) hp (by omega)
  refine ⟨L[r], w', List.getElem_mem hr, hw', ?_⟩
  rw [r_of]
  simp [runFn, exSs, exS, ev, evB, evs, evT, evI, evO, evC, evP, asg, asgs, Rx.bind, Rx.toR, lift, Sl.val, useAt, slAt, R.toFR, outsOf, truB, setAt, argS, giveBack, FR.toRx, noOuts, ownAt, change, setAll, permute, forget, wipeS, isAny, isOf, bopV, cmpV, subV, placeOf, bltV, itemsOf, d__law_of, e, hr]
theorem of_str (n : Nat) {w : T} (hw : Well w) {L : List Nat} (h1 : L ≠ []) (h2 : L.length ≤ 100) : ∃ (c : Nat) (w' : T), c ∈ L ∧ Well w' ∧ run prog (n + 2) 27 [.bo w, .sh (.str L)] = .ok (.sh (.str [c])) [w'] := by
  have hp : 0 < L.length := List.length_pos_iff.mpr h1
  obtain ⟨r, w', hr, hw', e⟩ := draw_ok n hw (lim := L.length) hp (by omega)
  refine ⟨L[r], w', List.getElem_mem hr, hw', ?_⟩
  rw [r_of]
  have hf : fits L = true := fits_of (by omega)
  simp [runFn, exSs, exS, ev, evB, evs, evT, evI, evO, evC, evP, asg, asgs, Rx.bind, Rx.toR, lift, Sl.val, useAt, slAt, R.toFR, outsOf, truB, setAt, argS, giveBack, FR.toRx, noOuts, ownAt, change, setAll, permute, forget, wipeS, isAny, isOf, bopV, cmpV, subV, placeOf, bltV, itemsOf, d__law_of, e, hr, hf]
theorem rangeV1 {m : Nat} (h : m ≤ 1000) : rangeV [.int (m : Int)] = some ((List.range m).map fun (k : Nat) => .int (k : Int)) := by
  have : decide ((m : Int).natAbs ≤ sizeMost) = true := by
    rw [decide_eq_true_eq, Int.natAbs_natCast]
    exact Nat.le_trans h (by decide)
  show (if decide ((m : Int).natAbs ≤ sizeMost) = true then some (rangeL 0 (m : Int).toNat 1) else none) = _
  rw [if_pos this]
  unfold rangeL
  simp
theorem erase_perm : ∀ {l : List Nat} {i : Nat} (h : i < l.length), (l[i] :: l.eraseIdx i).Perm l
  | [], _, h => by simp at h
  | x :: l, 0, _ => by simp
  | x :: l, i + 1, h => by
    simp only [List.getElem_cons_succ, List.eraseIdx_cons_succ]
    exact (List.Perm.swap _ _ _).trans ((erase_perm (by simpa using h)).cons x)
theorem erase_map {l : List Nat} {g : Nat → T} : ∀ {i : Nat}, (l.map g).eraseIdx i = (l.eraseIdx i).map g := by
  induction l with
  | nil => intro i; rfl
  | cons x l ih =>
    intro i
    cases i with
    | zero => rfl
    | succ i =>
      rw [List.map_cons, List.eraseIdx_cons_succ, ih, List.eraseIdx_cons_succ, List.map_cons]
theorem shuffled_ok (n : Nat) {w : T} (hw : Well w) {l : List Nat} (h2 : l.length ≤ 100) : ∃ (m : List Nat) (w' : T), m.Perm l ∧ Well w' ∧ run prog (n + 2) 28 [.bo w, .sh (.tup (l.map card))] = .ok (.ow (.lst (m.map card))) [w'] := by
  have hr := rangeV1 (m := l.length) (by omega)
  obtain ⟨τ', h1, w', left, found, hw', e1, e2, e3, rfl⟩ := for_inv (Γ := Γ (n + 1)) (t := .nm 4) (it := .rng (.cons (.blt .len (.cons (.pk 2) .nil)) .nil)) (body := .cons (.exp (.mut .append 3 (.cons (.mut .popAt 2 (.cons (.call 26 (.cons (.bw 0) (.cons (.blt .len (.cons (.pk 2) .nil)) .nil))) .nil)) .nil))) .nil) (fg := [4])
    (P := fun d τ => ∃ (w' : T) (left found : List Nat), Well w' ∧ d.length + left.length = l.length ∧ found.length = d.length ∧ (found ++ left).Perm l ∧ τ = [.bo w', .sh (.tup (l.map card)), .ow (.lst (left.map card)), .ow (.lst (found.map card)), .no])
    (items := (List.range l.length).map fun (k : Nat) => .int (k : Int)) (τ := [.bo w, .sh (.tup (l.map card)), .ow (.lst (l.map card)), .ow (.lst []), .no]) (by simp [runFn, exSs, exS, ev, evB, evs, evT, evI, evO, evC, evP, asg, asgs, Rx.bind, Rx.toR, lift, Sl.val, useAt, slAt, R.toFR, outsOf, truB, setAt, argS, giveBack, FR.toRx, noOuts, ownAt, change, setAll, permute, forget, wipeS, isAny, isOf, bopV, cmpV, subV, placeOf, bltV, itemsOf, hr]) ⟨w, l, [], hw, by simp, rfl, List.Perm.refl _, rfl⟩ (by
    rintro d x r τ e ⟨w', left, found, hw', e1, e2, e3, rfl⟩
    have hd : d.length < l.length := by
      have := congrArg List.length e
      simp at this
      omega
    have hp : 0 < left.length := by omega
    obtain ⟨q, w2, hq, hw2, ed⟩ := draw_ok n hw' (lim := left.length) hp (by omega)
    have hl : found.length < sizeMost := Nat.lt_of_le_of_lt (show found.length ≤ 100 by omega) (by decide)
    refine ⟨_, [.bo w2, .sh (.tup (l.map card)), .ow (.lst ((left.eraseIdx q).map card)), .ow (.lst ((found ++ [left[q]]).map card)), .sh x], asg_nm rfl, .inl ?_, w2, left.eraseIdx q, found ++ [left[q]], hw2, ?_, ?_, ?_, rfl⟩
    · simp [runFn, exSs, exS, ev, evB, evs, evT, evI, evO, evC, evP, asg, asgs, Rx.bind, Rx.toR, lift, Sl.val, useAt, slAt, R.toFR, outsOf, truB, setAt, argS, giveBack, FR.toRx, noOuts, ownAt, change, setAll, permute, forget, wipeS, isAny, isOf, bopV, cmpV, subV, placeOf, bltV, itemsOf, ed, mutV, hq, hl, erase_map]
    · rw [List.length_eraseIdx_of_lt hq]
      simp
      omega
    · simp [e2]
    · refine List.Perm.trans ?_ e3
      rw [List.append_assoc]
      exact List.Perm.append_left _ (erase_perm hq))
  have hl : left = [] := by
    rw [List.length_map, List.length_range] at e1
    exact List.eq_nil_of_length_eq_zero (by omega)
  subst hl
  rw [List.append_nil] at e3
  refine ⟨found, w', e3, hw', ?_⟩
  rw [r_shuf]
  simp [runFn, exSs, exS, ev, evB, evs, evT, evI, evO, evC, evP, asg, asgs, Rx.bind, Rx.toR, lift, Sl.val, useAt, slAt, R.toFR, outsOf, truB, setAt, argS, giveBack, FR.toRx, noOuts, ownAt, change, setAll, permute, forget, wipeS, isAny, isOf, bopV, cmpV, subV, placeOf, bltV, itemsOf, d__law_shuffled, fits, sizeMost, ↓h1]
theorem cards_ok (n : Nat) : run prog (n + 1) 30 [] = .ok (.sh (.tup ((List.range 12).map card))) [] := by
  have e : (List.range 12).map card = [card 0, card 1, card 2, card 3, card 4, card 5, card 6, card 7, card 8, card 9, card 10, card 11] := rfl
  rw [r_cards, e]
  simp [runFn, exSs, exS, ev, evB, evs, evT, evI, evO, evC, evP, asg, asgs, Rx.bind, Rx.toR, lift, Sl.val, useAt, slAt, R.toFR, outsOf, truB, setAt, argS, giveBack, FR.toRx, noOuts, ownAt, change, setAll, permute, forget, wipeS, isAny, isOf, bopV, cmpV, subV, placeOf, bltV, itemsOf, d__law_cards, evG, loopS, loopC, clear, backS, fits, sizeMost, card_str, sc]
theorem seats_ok (n : Nat) : run prog (n + 1) 32 [] = .ok (.sh (.tup ((List.range 4).map seat))) [] := by
  have e : (List.range 4).map seat = [seat 0, seat 1, seat 2, seat 3] := rfl
  rw [r_seats, e]
  simp [runFn, exSs, exS, ev, evB, evs, evT, evI, evO, evC, evP, asg, asgs, Rx.bind, Rx.toR, lift, Sl.val, useAt, slAt, R.toFR, outsOf, truB, setAt, argS, giveBack, FR.toRx, noOuts, ownAt, change, setAll, permute, forget, wipeS, isAny, isOf, bopV, cmpV, subV, placeOf, bltV, itemsOf, d__law_seats, fits, sizeMost, seat]
end K43
end

section
set_option maxRecDepth 100000
set_option maxHeartbeats 4000000
/-! Law k43: deals, contracts drawn. -/
namespace K43
open Py
def srt (l : List Nat) : List Nat := l.mergeSort fun a b => decide (a ≤ b)
theorem le_cardD : ∀ a, a < 12 → ∀ b, b < 12 → PySem.W.dataLe false toD (card a) (card b) = decide (a ≤ b) := by decide +kernel
theorem sorted_ok {l : List Nat} (h : Low l) : bltV .sorted [.lst (l.map card)] = some (.ow (.lst ((srt l).map card))) := by
  have hok := okD_map (g := card) (l := l) (fun y _ => rfl) (fun y _ z _ => rfl)
  have h2 : ((l.map card).all fun x => match x with
    | .tup _ => false
    | _ => true) = true := by
    rw [List.all_map, List.all_eq_true]
    intro x _
    rfl
  have h3 : okSort (l.map card) = true := by
    unfold okSort
    rw [hok, Bool.true_and, Bool.or_eq_true]
    exact .inr h2
  show (if okSort (l.map card) = true then some (Sl.ow (.lst (sortD (l.map card)))) else none) = _
  rw [if_pos h3]
  unfold sortD srt
  rw [List.map_mergeSort (s := PySem.W.dataLe false toD) fun a ha b hb => (le_cardD a (h a ha) b (h b hb)).symm]
theorem srt_perm (l : List Nat) : (srt l).Perm l := List.mergeSort_perm _ _
theorem srt_hand {a b c : Nat} (h : Low [a, b, c]) (nd : [a, b, c].Nodup) : Hand (srt [a, b, c]) := by
  have hp := srt_perm [a, b, c]
  have hl := hp.length_eq
  have hs : (srt [a, b, c]).Pairwise fun x y => decide (x ≤ y) = true := List.pairwise_mergeSort (fun x y z h1 h2 => by simp at *; omega) (fun x y => by simp; omega) _
  have hn := hp.nodup_iff.mpr nd
  generalize srt [a, b, c] = m at *
  match m, hl with
  | [p, q, r], _ =>
    simp only [List.pairwise_cons, List.mem_cons, List.not_mem_nil, or_false, decide_eq_true_eq] at hs
    simp only [List.nodup_cons, List.mem_cons, List.not_mem_nil, or_false, not_or] at hn
    have h1 := hs.1 q (.inl rfl)
    have h2 := hs.2.1 r rfl
    have h3 := h r (hp.subset (by simp))
    exact ⟨p, q, r, rfl, by omega, by omega, h3⟩
theorem srt_apart {a b : List Nat} (h : Apart a b) : Apart (srt a) (srt b) := fun x hx z => h x ((srt_perm a).mem_iff.mp hx) ((srt_perm b).mem_iff.mp z)
theorem deal_ok (n : Nat) {w : T} (hw : Well w) : ∃ (D : List (List Nat)) (w' : T), Deal D ∧ Well w' ∧ run prog (n + 3) 31 [.bo w] = .ok (.sh (deal D)) [w'] := by
  obtain ⟨m, w', hm, hw', e⟩ := shuffled_ok n hw (l := List.range 12) (by decide)
  have hl : m.length = 12 := hm.length_eq
  have hlow : Low m := fun x hx => List.mem_range.mp (hm.subset hx)
  have hn : m.Nodup := hm.nodup_iff.mpr List.nodup_range
  match m, hl with
  | [x0, x1, x2, x3, x4, x5, x6, x7, x8, x9, xa, xb], _ =>
    have l0 : Low [x0, x1, x2] := fun x hx => hlow x (by simp at hx ⊢; rcases hx with rfl | rfl | rfl <;> simp)
    have l1 : Low [x3, x4, x5] := fun x hx => hlow x (by simp at hx ⊢; rcases hx with rfl | rfl | rfl <;> simp)
    have l2 : Low [x6, x7, x8] := fun x hx => hlow x (by simp at hx ⊢; rcases hx with rfl | rfl | rfl <;> simp)
    have l3 : Low [x9, xa, xb] := fun x hx => hlow x (by simp at hx ⊢; rcases hx with rfl | rfl | rfl <;> simp)
    have s0 := sorted_ok l0
    have s1 := sorted_ok l1
    have s2 := sorted_ok l2
    have s3 := sorted_ok l3
    obtain ⟨n0, hn, d0⟩ := List.nodup_append.mp (show ([x0, x1, x2] ++ [x3, x4, x5, x6, x7, x8, x9, xa, xb]).Nodup from hn)
    obtain ⟨n1, hn, d1⟩ := List.nodup_append.mp (show ([x3, x4, x5] ++ [x6, x7, x8, x9, xa, xb]).Nodup from hn)
    obtain ⟨n2, n3, d2⟩ := List.nodup_append.mp (show ([x6, x7, x8] ++ [x9, xa, xb]).Nodup from hn)
    have mem1 : ∀ {x a b c : Nat} {l : List Nat}, x ∈ [a, b, c] → x ∈ [a, b, c] ++ l := fun h => List.mem_append_left _ h
    have mem2 : ∀ {x : Nat} {k l : List Nat}, x ∈ l → x ∈ k ++ l := fun h => List.mem_append_right _ h
    refine ⟨[srt [x0, x1, x2], srt [x3, x4, x5], srt [x6, x7, x8], srt [x9, xa, xb]], w', ⟨_, _, _, _, rfl, srt_hand l0 n0, srt_hand l1 n1, srt_hand l2 n2, srt_hand l3 n3,
      srt_apart (fun x h1 h2 => d0 x h1 x (mem1 h2) rfl), srt_apart (fun x h1 h2 => d0 x h1 x (mem2 (k := [x3, x4, x5]) (mem1 (l := [x9, xa, xb]) h2)) rfl), srt_apart (fun x h1 h2 => d0 x h1 x (mem2 (k := [x3, x4, x5]) (mem2 (k := [x6, x7, x8]) h2)) rfl), srt_apart (fun x h1 h2 => d1 x h1 x (mem1 h2) rfl), srt_apart (fun x h1 h2 => d1 x h1 x (mem2 (k := [x6, x7, x8]) h2) rfl), srt_apart (fun x h1 h2 => d2 x h1 x h2 rfl)⟩, hw', ?_⟩
    rw [r_deal]
    have hc := cards_ok (n + 1)
    generalize srt [x0, x1, x2] = y0 at *
    generalize srt [x3, x4, x5] = y1 at *
    generalize srt [x6, x7, x8] = y2 at *
    generalize srt [x9, xa, xb] = y3 at *
    simp only [List.map_cons, List.map_nil] at s0 s1 s2 s3 e
    have ht : ∀ l, bltV .tuple [.lst l] = some (.sh (.tup l)) := fun _ => rfl
    simp [runFn, exSs, exS, ev, evB, evs, evT, evI, evO, evC, evP, asg, asgs, Rx.bind, Rx.toR, lift, Sl.val, useAt, slAt, R.toFR, outsOf, truB, setAt, argS, giveBack, FR.toRx, noOuts, ownAt, change, setAll, permute, forget, wipeS, isAny, isOf, bopV, cmpV, subV, placeOf, itemsOf, d__law_deal, hc, e, evG, loopC, clear, backS, fits, sizeMost, sliV, cut, cutAt, s0, s1, s2, s3, ht, deal, hand]
theorem strn_of {c : Nat} (h : c ∈ [99, 100, 104, 115, 110]) : ∃ s, s < 5 ∧ T.str [c] = strn s := by
  simp at h
  rcases h with rfl | rfl | rfl | rfl | rfl
  · exact ⟨0, by decide, rfl⟩
  · exact ⟨1, by decide, rfl⟩
  · exact ⟨2, by decide, rfl⟩
  · exact ⟨3, by decide, rfl⟩
  · exact ⟨4, by decide, rfl⟩
theorem dcon_ok (n : Nat) {w : T} (hw : Well w) : ∃ (lv s k : Nat) (w' : T), 1 ≤ lv ∧ lv ≤ 2 ∧ s < 5 ∧ k < 4 ∧ Well w' ∧ run prog (n + 3) 37 [.bo w] = .ok (.sh (con lv s k)) [w'] := by
  obtain ⟨r, w1, hr, hw1, e1⟩ := draw_ok (n + 1) hw (lim := 2) (by decide) (by decide)
  obtain ⟨c, w2, hc, hw2, e2⟩ := of_str n hw1 (L := [99, 100, 104, 115, 110]) (by simp) (by simp)
  obtain ⟨s, hs, ec⟩ := strn_of hc
  obtain ⟨t, w3, ht, hw3, e3⟩ := of_ok n hw2 (L := (List.range 4).map seat) (by simp) (by simp)
  obtain ⟨k, hk, rfl⟩ := List.mem_map.mp ht
  refine ⟨1 + r, s, k, w3, by omega, by omega, hs, List.mem_range.mp hk, hw3, ?_⟩
  have hse := seats_ok (n + 1)
  push_cast at e1
  rw [ec] at e2
  generalize (List.range 4).map seat = St at *
  rw [r_dcon]
  simp [runFn, exSs, exS, ev, evB, evs, evT, evI, evO, evC, evP, asg, asgs, Rx.bind, Rx.toR, lift, Sl.val, useAt, slAt, R.toFR, outsOf, truB, setAt, argS, giveBack, FR.toRx, noOuts, ownAt, change, setAll, permute, forget, wipeS, isAny, isOf, bopV, cmpV, subV, placeOf, bltV, itemsOf, d__law_drawn_contract, e1, e2, e3, hse, fits, sizeMost, con]
end K43
end

section
set_option maxRecDepth 100000
set_option maxHeartbeats 1000000
/-! Law k43: plays, in plain Lean. -/
namespace K43
/-- the winners of the first tricks; who leads behind them -/
def chW (s l0 : Nat) (p : List Nat) : Nat → List Nat × Nat
  | 0 => ([], l0)
  | m + 1 => ((chW s l0 p m).1 ++ [((chW s l0 p m).2 + wi s ((p.drop (4 * m)).take 4)) % 4], ((chW s l0 p m).2 + wi s ((p.drop (4 * m)).take 4)) % 4)
def W (s k : Nat) (p : List Nat) : List Nat := (chW s ((k + 1) % 4) p (p.length / 4)).1
def ld (s k : Nat) (p : List Nat) : Nat := (chW s ((k + 1) % 4) p (p.length / 4)).2
def tn (s k : Nat) (p : List Nat) : Nat := (ld s k p + p.length % 4) % 4
def trk (p : List Nat) : List Nat := p.drop (p.length - p.length % 4)
def left (l p : List Nat) : List Nat := l.filter fun c => !p.contains c
def letL (l t : List Nat) : List Nat :=
  if (l.filter fun c => !t.isEmpty && decide (c / 3 = t.headD 0 / 3)) ≠ [] then l.filter fun c => !t.isEmpty && decide (c / 3 = t.headD 0 / 3) else l
def letB (D : List (List Nat)) (s k : Nat) (p : List Nat) : List Nat := letL (left (D.getD (tn s k p) []) p) (trk p)
inductive Lg (D : List (List Nat)) (s k : Nat) : List Nat → Prop
  | nil : Lg D s k []
  | snoc {d : List Nat} {x : Nat} : Lg D s k d → d.length < 12 → x ∈ letB D s k d → Lg D s k (d ++ [x])
theorem letL_sub {l t : List Nat} : ∀ x ∈ letL l t, x ∈ l := by
  intro x hx
  unfold letL at hx
  split at hx
  · exact (List.mem_filter.mp hx).1
  · exact hx
theorem letL_ne {l t : List Nat} (h : l ≠ []) : letL l t ≠ [] := by
  unfold letL
  split
  · assumption
  · exact h
theorem snoc_inv {D : List (List Nat)} {s k : Nat} {d : List Nat} {x : Nat} (h : Lg D s k (d ++ [x])) : Lg D s k d ∧ d.length < 12 ∧ x ∈ letB D s k d := by
  generalize e : d ++ [x] = p at h
  cases h with
  | nil => simp at e
  | snoc h1 h2 h3 =>
    have := List.append_inj' e rfl
    obtain ⟨e1, e2⟩ := this
    cases e2
    subst e1
    exact ⟨h1, h2, h3⟩
theorem pre_inv {D : List (List Nat)} {s k : Nat} {p : List Nat} (h : Lg D s k p) : ∀ d r, p = d ++ r → Lg D s k d := by
  induction h with
  | nil =>
    intro d r e
    have : d = [] := by
      cases d with
      | nil => rfl
      | cons _ _ => cases e
    rw [this]
    exact .nil
  | @snoc d0 x h1 h2 h3 ih =>
    intro d r e
    rcases List.eq_nil_or_concat r with rfl | ⟨r', y, rfl⟩
    · rw [List.append_nil] at e
      rw [← e]
      exact .snoc h1 h2 h3
    · rw [List.concat_eq_append, ← List.append_assoc] at e
      obtain ⟨e1, _⟩ := List.append_inj' e rfl
      exact ih d r' e1
theorem Lg.len {D : List (List Nat)} {s k : Nat} {p : List Nat} (h : Lg D s k p) : p.length ≤ 12 := by
  cases h with
  | nil => simp
  | snoc h1 h2 h3 => rw [List.length_append]; simp; omega
/-- chunks of a longer play -/
theorem chW_app (s l0 : Nat) (p q : List Nat) : ∀ m, 4 * m ≤ p.length → chW s l0 (p ++ q) m = chW s l0 p m
  | 0, _ => rfl
  | m + 1, h => by
    have e : ((p ++ q).drop (4 * m)).take 4 = (p.drop (4 * m)).take 4 := by
      rw [List.drop_append_of_le_length (by omega), List.take_append_of_le_length (by rw [List.length_drop]; omega)]
    simp only [chW, chW_app s l0 p q m (by omega), e]
section
variable {s k : Nat} {d : List Nat} {x : Nat}
theorem len1 : (d ++ [x]).length = d.length + 1 := by simp
/-- the trick goes on -/
theorem step_on (h : d.length % 4 ≠ 3) : trk (d ++ [x]) = trk d ++ [x] ∧ W s k (d ++ [x]) = W s k d ∧ ld s k (d ++ [x]) = ld s k d ∧ tn s k (d ++ [x]) = (tn s k d + 1) % 4 := by
  have e1 : (d.length + 1) / 4 = d.length / 4 := by omega
  have e2 : (d.length + 1) % 4 = d.length % 4 + 1 := by omega
  have hc : chW s ((k + 1) % 4) (d ++ [x]) ((d.length + 1) / 4) = chW s ((k + 1) % 4) d (d.length / 4) := by
    rw [e1]
    exact chW_app _ _ _ _ _ (by omega)
  refine ⟨?_, ?_, ?_, ?_⟩
  · unfold trk
    rw [len1, e2, show d.length + 1 - (d.length % 4 + 1) = d.length - d.length % 4 by omega, List.drop_append_of_le_length (by omega)]
  · unfold W
    rw [len1, hc]
  · unfold ld
    rw [len1, hc]
  · unfold tn ld
    rw [len1, hc, e2]
    omega
theorem trk_len : (trk d).length = d.length % 4 := by
  unfold trk
  rw [List.length_drop]
  have := Nat.mod_le d.length 4
  omega
/-- the trick is full -/
theorem step_full (h : d.length % 4 = 3) : trk (d ++ [x]) = [] ∧ (trk d ++ [x]).length = 4 ∧ W s k (d ++ [x]) = W s k d ++ [tn s k (d ++ [x])] ∧ ld s k (d ++ [x]) = tn s k (d ++ [x]) ∧ tn s k (d ++ [x]) = ((tn s k d + 1) % 4 + wi s (trk d ++ [x])) % 4 := by
  have e1 : (d.length + 1) / 4 = d.length / 4 + 1 := by omega
  have e2 : (d.length + 1) % 4 = 0 := by omega
  have hc : chW s ((k + 1) % 4) (d ++ [x]) (d.length / 4) = chW s ((k + 1) % 4) d (d.length / 4) := chW_app _ _ _ _ _ (by omega)
  have ht : ((d ++ [x]).drop (4 * (d.length / 4))).take 4 = trk d ++ [x] := by
    have e3 : d.length - d.length % 4 = 4 * (d.length / 4) := by omega
    unfold trk
    rw [e3, List.drop_append_of_le_length (by omega), List.take_of_length_le]
    rw [List.length_append, List.length_drop]
    simp
    omega
  have hw : ld s k (d ++ [x]) = (ld s k d + wi s (trk d ++ [x])) % 4 := by
    unfold ld
    rw [len1, e1, chW]
    simp only [hc, ht]
  have htn : tn s k (d ++ [x]) = ld s k (d ++ [x]) := by
    unfold tn
    rw [len1, e2, hw]
    omega
  refine ⟨?_, ?_, ?_, htn.symm, ?_⟩
  · unfold trk
    rw [len1, e2, Nat.sub_zero, ← len1 (x := x), List.drop_length]
  · rw [List.length_append, trk_len, h]
    rfl
  · rw [htn, hw]
    unfold W ld
    rw [len1, e1, chW]
    simp only [hc, ht]
  · rw [htn, hw]
    unfold tn
    rw [h]
    omega
theorem tn_lt : tn s k d < 4 := Nat.mod_lt _ (by decide)
theorem ld_lt : ld s k d < 4 := by
  unfold ld
  cases d.length / 4 with
  | zero => exact Nat.mod_lt _ (by decide)
  | succ m => exact Nat.mod_lt _ (by decide)
theorem left_snoc {l : List Nat} : left l (d ++ [x]) = (left l d).filter fun c => decide (c ≠ x) := by
  unfold left
  rw [List.filter_filter]
  congr 1
  funext c
  by_cases h1 : c = x
  · subst h1; simp
  · by_cases h2 : c ∈ d <;> simp [h1, h2]
theorem left_other {l : List Nat} (h : x ∉ l) : left l (d ++ [x]) = left l d := by
  rw [left_snoc]
  refine List.filter_eq_self.mpr fun c hc => ?_
  have : c ∈ l := (List.mem_filter.mp hc).1
  simp only [ne_eq, decide_not, Bool.not_eq_true', decide_eq_false_iff_not]
  rintro rfl
  exact h this
theorem left_sub {l : List Nat} {c : Nat} (h : c ∈ left l d) : c ∈ l ∧ c ∉ d := by
  obtain ⟨h1, h2⟩ := List.mem_filter.mp h
  exact ⟨h1, by simpa using h2⟩
theorem letB_in {D : List (List Nat)} (h : x ∈ letB D s k d) : x ∈ D.getD (tn s k d) [] ∧ x ∉ d := left_sub (letL_sub x h)
theorem len_drop1 {l : List Nat} (nd : l.Nodup) (h : x ∈ l) : (l.filter fun c => decide (c ≠ x)).length = l.length - 1 := by
  have e : (l.filter fun c => decide (c ≠ x)) = l.erase x := by
    rw [nd.erase_eq_filter]
    congr 1
    funext c
    by_cases q : c = x <;> simp [q]
  rw [e, List.length_erase_of_mem h]
/-- the hands that are left -/
def hs (D : List (List Nat)) (p : List Nat) : List (List Nat) := D.map fun l => left l p
theorem Hand.nd {l : List Nat} (h : Hand l) : l.Nodup := by
  obtain ⟨a, b, c, rfl, h1, h2, h3⟩ := h
  simp
  omega
theorem deal_at {D : List (List Nat)} (h : Deal D) : D.length = 4 ∧ (∀ i, i < 4 → Hand (D.getD i [])) ∧ ∀ i j, i < 4 → j < 4 → i ≠ j → Apart (D.getD i []) (D.getD j []) := by
  obtain ⟨a, b, c, e, rfl, ha, hb, hc, hd, h1, h2, h3, h4, h5, h6⟩ := h.ex
  refine ⟨rfl, fun i hi => ?_, fun i j hi hj hn => ?_⟩
  · match i, hi with
    | 0, _ => exact ha
    | 1, _ => exact hb
    | 2, _ => exact hc
    | 3, _ => exact hd
  · match i, hi, j, hj with
    | 0, _, 0, _ => exact absurd rfl hn
    | 0, _, 1, _ => exact h1
    | 0, _, 2, _ => exact h2
    | 0, _, 3, _ => exact h3
    | 1, _, 0, _ => exact h1.symm
    | 1, _, 1, _ => exact absurd rfl hn
    | 1, _, 2, _ => exact h4
    | 1, _, 3, _ => exact h5
    | 2, _, 0, _ => exact h2.symm
    | 2, _, 1, _ => exact h4.symm
    | 2, _, 2, _ => exact absurd rfl hn
    | 2, _, 3, _ => exact h6
    | 3, _, 0, _ => exact h3.symm
    | 3, _, 1, _ => exact h5.symm
    | 3, _, 2, _ => exact h6.symm
    | 3, _, 3, _ => exact absurd rfl hn
theorem hs_step {D : List (List Nat)} (h : Deal D) (hx : x ∈ letB D s k d) : (hs D d).set (tn s k d) ((left (D.getD (tn s k d) []) d).filter fun c => decide (c ≠ x)) = hs D (d ++ [x]) := by
  obtain ⟨hl, _, hap⟩ := deal_at h
  have hxt := (letB_in hx).1
  have ht := tn_lt (s := s) (k := k) (d := d)
  generalize tn s k d = t at *
  refine List.ext_getElem (by simp [hs]) fun i h1 h2 => ?_
  have hi : i < 4 := by simpa [hs, hl] using h2
  by_cases e : t = i
  · subst e
    rw [List.getElem_set_self]
    simp only [hs, List.getElem_map]
    rw [left_snoc, List.getD_eq_getElem?_getD, List.getElem?_eq_getElem (by omega)]
    rfl
  · rw [List.getElem_set_ne e]
    simp only [hs, List.getElem_map]
    refine (left_other fun z => ?_).symm
    have := hap t i ht hi e x hxt
    rw [List.getD_eq_getElem?_getD, List.getElem?_eq_getElem (by omega)] at this
    exact this z
structure Ok (D : List (List Nat)) (s k : Nat) (d : List Nat) : Prop where
  low : ∀ c ∈ d, c < 12
  nd : d.Nodup
  cnt : ∀ i, i < 4 → (left (D.getD i []) d).length = 3 - d.length / 4 - (if (i + 4 - ld s k d) % 4 < d.length % 4 then 1 else 0)
theorem ok_of {D : List (List Nat)} {p : List Nat} (h : Deal D) (hp : Lg D s k p) : Ok D s k p := by
  obtain ⟨hl, hh, hap⟩ := deal_at h
  induction hp with
  | nil =>
    refine ⟨by simp, List.nodup_nil, fun i hi => ?_⟩
    have e : left (D.getD i []) [] = D.getD i [] := List.filter_eq_self.mpr fun c _ => rfl
    rw [e, (hh i hi).len]
    rfl
  | @snoc d x h1 h2 h3 ih =>
    obtain ⟨hx1, hx2⟩ := letB_in h3
    have hx3 : x ∈ left (D.getD (tn s k d) []) d := letL_sub x h3
    have ht := tn_lt (s := s) (k := k) (d := d)
    have hL := ld_lt (s := s) (k := k) (d := d)
    refine ⟨fun c hc => ?_, ?_, fun i hi => ?_⟩
    · rcases List.mem_append.mp hc with hc | hc
      · exact ih.low c hc
      · rw [List.mem_singleton.mp hc]
        exact (hh _ ht).low x hx1
    · rw [List.nodup_append]
      refine ⟨ih.nd, by simp, fun a ha b hb => ?_⟩
      rw [List.mem_singleton.mp hb]
      rintro rfl
      exact hx2 ha
    · have hc := ih.cnt i hi
      have hlen : (left (D.getD i []) (d ++ [x])).length = (left (D.getD i []) d).length - (if i = tn s k d then 1 else 0) := by
        by_cases e : i = tn s k d
        · rw [if_pos e, left_snoc, e]
          exact len_drop1 ((hh _ ht).nd.sublist List.filter_sublist) hx3
        · rw [if_neg e, left_other (fun z => hap _ i ht hi (Ne.symm e) x hx1 z)]
          rfl
      rw [hlen, hc, len1]
      have hti : i = tn s k d ↔ (i + 4 - ld s k d) % 4 = d.length % 4 := by
        unfold tn
        omega
      by_cases hr : d.length % 4 = 3
      · by_cases q : i = tn s k d
        · have := hti.mp q
          rw [if_pos q, if_neg (by omega), if_neg (by omega)]
          omega
        · have := mt hti.mpr q
          rw [if_neg q, if_pos (by omega), if_neg (by omega)]
          omega
      · obtain ⟨_, _, e3, _⟩ := step_on (s := s) (k := k) (x := x) hr
        rw [e3]
        by_cases q : i = tn s k d
        · have := hti.mp q
          rw [if_pos q, if_neg (by omega), if_pos (by omega)]
          omega
        · have := mt hti.mpr q
          rw [if_neg q]
          by_cases z : (i + 4 - ld s k d) % 4 < d.length % 4
          · rw [if_pos z, if_pos (by omega)]
            omega
          · rw [if_neg z, if_neg (by omega)]
            omega
/-- somebody whose turn it is has a card -/
theorem has_card {D : List (List Nat)} (h : Deal D) (hp : Lg D s k d) (hl : d.length < 12) : letB D s k d ≠ [] := by
  have ht := tn_lt (s := s) (k := k) (d := d)
  have hL := ld_lt (s := s) (k := k) (d := d)
  have hc := (ok_of h hp).cnt _ ht
  refine letL_ne fun z => ?_
  rw [z] at hc
  have : (tn s k d + 4 - ld s k d) % 4 = d.length % 4 := by
    unfold tn
    omega
  rw [if_neg (by omega)] at hc
  simp at hc
  omega
end
end K43
end

section
set_option maxRecDepth 100000
set_option maxHeartbeats 2000000
/-! Law k43: the program's plays. -/
namespace K43
open Py
theorem r_winners (n : Nat) (as : List Sl) : run prog (n + 1) 15 as = runFn (Γ n) d_winners_by as := rfl
theorem r_turn (n : Nat) (as : List Sl) : run prog (n + 1) 16 as = runFn (Γ n) d_turn_at as := rfl
theorem r_letby (n : Nat) (as : List Sl) : run prog (n + 1) 17 as = runFn (Γ n) d_let_by as := rfl
theorem r_cardsin (n : Nat) (as : List Sl) : run prog (n + 1) 18 as = runFn (Γ n) d_cards_in as := rfl
theorem r_wplay (n : Nat) (as : List Sl) : run prog (n + 1) 19 as = runFn (Γ n) d_wrong_in_play as := rfl
theorem r_chplay (n : Nat) (as : List Sl) : run prog (n + 1) 21 as = runFn (Γ n) d_check_play as := rfl
theorem r_letc (n : Nat) (as : List Sl) : run prog (n + 1) 22 as = runFn (Γ n) d_let_cards as := rfl
theorem r_tplay (n : Nat) (as : List Sl) : run prog (n + 1) 23 as = runFn (Γ n) d_turn_to_play as := rfl
theorem r_wins (n : Nat) (as : List Sl) : run prog (n + 1) 24 as = runFn (Γ n) d_winners as := rfl
theorem rng4 : ∀ m : Nat, m ≤ 12 → rangeV [.int 0, .int ((m : Int) - 4 + 1), .int 4] = some ((List.range (m / 4)).map fun (j : Nat) => .int ((4 * j : Nat) : Int)) := by
  intro m h
  match m, h with
  | 0, _ => kernel_rfl
  | 1, _ => kernel_rfl
  | 2, _ => kernel_rfl
  | 3, _ => kernel_rfl
  | 4, _ => kernel_rfl
  | 5, _ => kernel_rfl
  | 6, _ => kernel_rfl
  | 7, _ => kernel_rfl
  | 8, _ => kernel_rfl
  | 9, _ => kernel_rfl
  | 10, _ => kernel_rfl
  | 11, _ => kernel_rfl
  | 12, _ => kernel_rfl
theorem range_at {g : Nat → T} {m : Nat} {d r : List T} {x : T} (e : (List.range m).map g = d ++ x :: r) : d.length < m ∧ x = g d.length := by
  have h1 : d.length < m := by
    have := congrArg List.length e
    simp at this
    omega
  refine ⟨h1, ?_⟩
  have h2 : ((List.range m).map g)[d.length]? = some x := by
    rw [e, List.getElem?_append_right (Nat.le_refl _), Nat.sub_self]
    rfl
  rw [List.getElem?_map, List.getElem?_range h1] at h2
  exact (Option.some.inj h2).symm
def intT (l : List Nat) : List T := l.map fun (i : Nat) => .int (i : Int)
theorem cut_chunk {p : List Nat} {j : Nat} (h : 4 * j + 4 ≤ p.length) : cut (p.map card) (some ((4 * j : Nat) : Int)) (some (((4 * j : Nat) : Int) + 4)) = ((p.drop (4 * j)).take 4).map card := by
  simp only [cut, cutAt]
  rw [if_neg (by omega), if_neg (by omega), List.length_map, Int.toNat_natCast, show (((4 * j : Nat) : Int) + 4).toNat = 4 * j + 4 by omega, show min (4 * j) p.length = 4 * j from Nat.min_eq_left (by omega), show min (4 * j + 4) p.length = 4 * j + 4 from Nat.min_eq_left h, show 4 * j + 4 - 4 * j = 4 by omega, List.map_take, List.map_drop]
theorem four {l : List Nat} (h : l.length = 4) : ∃ a b c d, l = [a, b, c, d] := by
  match l, h with
  | [a, b, c, d], _ => exact ⟨a, b, c, d, rfl⟩
theorem winners_ok (n : Nat) {lv s k : Nat} {p : List Nat} (hs : s < 5) (hk : k < 4) (hp : Low p) (hl : p.length ≤ 12) : run prog (n + 2) 15 [.sh (con lv s k), .sh (hand p)] = .ok (.ow (.lst (intT (W s k p)))) [] := by
  have hr := rng4 p.length hl
  obtain ⟨τ', h1, rfl⟩ := for_inv (Γ := Γ (n + 1)) (t := .nm 4) (it := .rng (.cons (.cst (.int 0)) (.cons (.bin .add (.cons (.bin .sub (.cons (.blt .len (.cons (.nm 1) .nil)) (.cons (.glo 3) .nil))) (.cons (.cst (.int 1)) .nil))) (.cons (.glo 3) .nil))))
    (body := .cons (.asg (.nm 3) (.call 14 (.cons (.nm 0) (.cons (.nm 3) (.cons (.sli (.nm 1) (.ex (.nm 4)) (.ex (.bin .add (.cons (.nm 4) (.cons (.glo 3) .nil))))) .nil))))) (.cons (.exp (.mut .append 2 (.cons (.nm 3) .nil))) .nil)) (fg := [4])
    (P := fun d τ => τ = [.sh (con lv s k), .sh (hand p), .ow (.lst (intT (chW s ((k + 1) % 4) p d.length).1)), .sh (.int ((chW s ((k + 1) % 4) p d.length).2 : Nat)), .no])
    (items := (List.range (p.length / 4)).map fun (j : Nat) => .int ((4 * j : Nat) : Int)) (τ := [.sh (con lv s k), .sh (hand p), .ow (.lst []), .sh (.int (((k + 1) % 4 : Nat) : Int)), .no]) (by simp only [hand]; simp [runFn, exSs, exS, ev, evB, evs, evT, evI, evO, evC, evP, asg, asgs, Rx.bind, Rx.toR, lift, Sl.val, useAt, slAt, R.toFR, outsOf, truB, setAt, argS, giveBack, FR.toRx, noOuts, ownAt, change, setAll, permute, forget, wipeS, isAny, isOf, bopV, cmpV, subV, placeOf, bltV, itemsOf, g3, hr]) rfl (by
    rintro d x r τ e rfl
    obtain ⟨hd, rfl⟩ := range_at e
    have hd4 : 4 * d.length + 4 ≤ p.length := by omega
    obtain ⟨a, b, c, q, hch⟩ := four (l := (p.drop (4 * d.length)).take 4) (by rw [List.length_take, List.length_drop]; omega)
    have hlow : Low [a, b, c, q] := fun y hy => by
      rw [← hch] at hy
      exact hp y (List.mem_of_mem_drop (List.mem_of_mem_take hy))
    have hw := winner_ok n (lv := lv) (k := k) (ld := (chW s ((k + 1) % 4) p d.length).2) hs hlow
    have hcut := cut_chunk hd4
    rw [hch] at hcut
    have hsl : sliV (hand p) (some ((4 * d.length : Nat) : Int)) (some (((4 * d.length : Nat) : Int) + 4)) = some (.sh (hand [a, b, c, q])) := by
      unfold hand
      show some (Sl.sh (.tup (cut (p.map card) _ _))) = _
      rw [hcut]
    have hchl : (chW s ((k + 1) % 4) p d.length).1.length < sizeMost := by
      have : ∀ m, (chW s ((k + 1) % 4) p m).1.length = m := by
        intro m
        induction m with
        | zero => rfl
        | succ m ih => simp [chW, ih]
      rw [this]
      exact Nat.lt_of_le_of_lt (show d.length ≤ 12 by omega) (by decide)
    refine ⟨_, [.sh (con lv s k), .sh (hand p), .ow (.lst (intT (chW s ((k + 1) % 4) p (d.length + 1)).1)), .sh (.int ((chW s ((k + 1) % 4) p (d.length + 1)).2 : Nat)), .sh (.int ((4 * d.length : Nat) : Int))], asg_nm rfl, .inl ?_, by simp only [List.length_append, List.length_singleton]; rfl⟩
    simp only [chW, hch, intT, List.map_append, List.map_cons, List.map_nil] at hw ⊢
    generalize (chW s ((k + 1) % 4) p d.length).2 = L2 at *
    generalize hA : (chW s ((k + 1) % 4) p d.length).1 = L1 at *
    generalize ((4 * d.length : Nat) : Int) = J at *
    generalize (L2 + wi s [a, b, c, q]) % 4 = N at *
    generalize hand [a, b, c, q] = H4 at *
    simp [runFn, exSs, exS, ev, evB, evs, evT, evI, evO, evC, evP, asg, asgs, Rx.bind, Rx.toR, lift, Sl.val, useAt, slAt, R.toFR, outsOf, truB, setAt, argS, giveBack, FR.toRx, noOuts, ownAt, change, setAll, permute, forget, wipeS, isAny, isOf, bopV, cmpV, subV, placeOf, bltV, itemsOf, g3, hsl, hw, mutV, hchl])
  rw [r_winners]
  have hf := first_ok n (lv := lv) (s := s) hk
  have hW : W s k p = (chW s ((k + 1) % 4) p (p.length / 4)).1 := rfl
  rw [hW]
  simp only [List.length_map, List.length_range] at h1
  generalize (k + 1) % 4 = L0 at *
  simp [runFn, exSs, exS, ev, evB, evs, evT, evI, evO, evC, evP, asg, asgs, Rx.bind, Rx.toR, lift, Sl.val, useAt, slAt, R.toFR, outsOf, truB, setAt, argS, giveBack, FR.toRx, noOuts, ownAt, change, setAll, permute, forget, wipeS, isAny, isOf, bopV, cmpV, subV, placeOf, bltV, itemsOf, d_winners_by, hf, fits, sizeMost, ↓h1]
end K43
end

section
set_option maxRecDepth 100000
set_option maxHeartbeats 2000000
/-! Law k43: the program's turns, cards let. -/
namespace K43
open Py
theorem W_cases (s k : Nat) (p : List Nat) : (W s k p = [] ∧ ld s k p = (k + 1) % 4) ∨ ∃ A, W s k p = A ++ [ld s k p] := by
  unfold W ld
  cases p.length / 4 with
  | zero => exact .inl ⟨rfl, rfl⟩
  | succ m => exact .inr ⟨_, rfl⟩
theorem eq_lst_nil {L : List T} (h : L ≠ []) : eqT (.lst L) (.lst []) = some false := by
  cases L with
  | nil => exact absurd rfl h
  | cons x l => simp [eqN, eqTs]
theorem eq_tup_nil {L : List T} (h : L ≠ []) : eqT (.tup L) (.tup []) = some false := by
  cases L with
  | nil => exact absurd rfl h
  | cons x l => simp [eqN, eqTs]
theorem eq_nil_nil : eqT (.lst []) (.lst []) = some true ∧ eqT (.tup []) (.tup []) = some true := by
  constructor <;> simp [eqN, eqTs]
theorem sub_last {A : List T} {x : T} : subV (.lst (A ++ [x])) (.int (-1)) = some x := by
  simp only [subV, placeOf, List.length_append, List.length_singleton]
  rw [if_neg (by omega), if_pos (by omega), show ((-1 : Int) + ((A.length + 1 : Nat) : Int)).toNat = A.length by omega]
  simp
theorem turn_ok (n : Nat) {lv s k : Nat} {p : List Nat} (hs : s < 5) (hk : k < 4) (hp : Low p) (hl : p.length ≤ 12) : run prog (n + 3) 16 [.sh (con lv s k), .sh (hand p)] = .ok (.sh (.int (tn s k p : Nat))) [] := by
  have hw := winners_ok n (lv := lv) hs hk hp hl
  have hf := first_ok (n + 1) (lv := lv) (s := s) hk
  have hlen : bltV .len [hand p] = some (.sh (.int (p.length : Nat))) := by
    unfold hand
    show some (Sl.sh (.int ((p.map card).length : Nat))) = _
    rw [List.length_map]
  have hT : ((tn s k p : Nat) : Int) = ((ld s k p : Int) + (p.length : Int) % 4) % 4 := by
    unfold tn
    push_cast
    rfl
  rw [r_turn, hT]
  rcases W_cases s k p with ⟨e1, e2⟩ | ⟨A, e⟩
  · rw [e1] at hw
    rw [e2]
    generalize (k + 1) % 4 = L0 at *
    generalize hand p = H at *
    generalize con lv s k = C at *
    simp only [intT, List.map_nil] at hw
    simp [runFn, exSs, exS, ev, evB, evs, evT, evI, evO, evC, evP, asg, asgs, Rx.bind, Rx.toR, lift, Sl.val, useAt, slAt, R.toFR, outsOf, truB, setAt, argS, giveBack, FR.toRx, noOuts, ownAt, change, setAll, permute, forget, wipeS, isAny, isOf, bopV, cmpV, subV, placeOf, itemsOf, d_turn_at, hw, hf, hlen, g3, fits, sizeMost, eq_nil_nil.1]
  · rw [e] at hw
    have h1 := sub_last (A := intT A) (x := .int (ld s k p : Nat))
    have h2 := eq_lst_nil (L := intT A ++ [.int (ld s k p : Nat)]) (by simp)
    have e3 : intT (A ++ [ld s k p]) = intT A ++ [.int (ld s k p : Nat)] := by simp [intT]
    rw [e3] at hw
    generalize intT A ++ [.int (ld s k p : Nat)] = Wl at *
    generalize hand p = H at *
    generalize con lv s k = C at *
    simp [runFn, exSs, exS, ev, evB, evs, evT, evI, evO, evC, evP, asg, asgs, Rx.bind, Rx.toR, lift, Sl.val, useAt, slAt, R.toFR, outsOf, truB, setAt, argS, giveBack, FR.toRx, noOuts, ownAt, change, setAll, permute, forget, wipeS, isAny, isOf, bopV, cmpV, itemsOf, d_turn_at, hw, hlen, g3, fits, sizeMost, h1, h2]
def dealT (D : List (List Nat)) : T := deal D
theorem sub_deal {D : List (List Nat)} (h : Deal D) {t : Nat} (ht : t < 4) : subV (deal D) (.int (t : Nat)) = some (hand (D.getD t [])) := by
  obtain ⟨hl, _⟩ := deal_at h
  unfold deal
  simp only [subV, placeOf, List.length_map, hl]
  rw [if_pos (by omega), if_pos (by omega)]
  simp [List.getD_eq_getElem?_getD, hl, ht]
theorem nin_hand {c : Nat} (hc : c < 12) {p : List Nat} (hp : Low p) : cmpV .nin (card c) (hand p) = some (!p.contains c) := by
  show (inTs (card c) (p.map card)).map (!·) = _
  rw [in_card hc hp]
  rfl
theorem fst_suit {c : Nat} (hc : c < 12) : subV (card c) (.int 0) = some (strn (c / 3)) := by
  rw [← suit_strn c hc]
  simp [card_str, subV, placeOf, fits, sizeMost]
theorem eq_suits {a b : Nat} (ha : a < 12) (hb : b < 12) : eqT (strn (a / 3)) (strn (b / 3)) = some (decide (a / 3 = b / 3)) := eq_strn _ (by omega) _ (by omega)
theorem low_trk {p : List Nat} (h : Low p) : Low (trk p) := fun x hx => h x (List.mem_of_mem_drop hx)
theorem letby12 (n : Nat) {D : List (List Nat)} {C : T} {p : List Nat} (h : p.length = 12) : run prog (n + 1) 17 [.sh (deal D), .sh C, .sh (hand p)] = .ok (.ow (.lst [])) [] := by
  have hlen : bltV .len [hand p] = some (.sh (.int 12)) := by
    unfold hand
    show some (Sl.sh (.int ((p.map card).length : Nat))) = _
    rw [List.length_map, h]
    rfl
  rw [r_letby]
  generalize hand p = H at *
  simp [runFn, exSs, exS, ev, evB, evs, evT, evI, evO, evC, evP, asg, asgs, Rx.bind, Rx.toR, lift, Sl.val, useAt, slAt, R.toFR, outsOf, truB, setAt, argS, giveBack, FR.toRx, noOuts, ownAt, change, setAll, permute, forget, wipeS, isAny, isOf, bopV, cmpV, subV, placeOf, itemsOf, d_let_by, hlen, g6, fits, sizeMost, eqT, eqN]
theorem letby_ok (n : Nat) {D : List (List Nat)} (hD : Deal D) {lv s k : Nat} {p : List Nat} (hs : s < 5) (hk : k < 4) (hp : Low p) (hl : p.length < 12) : run prog (n + 4) 17 [.sh (deal D), .sh (con lv s k), .sh (hand p)] = .ok (.sh (.lst ((letB D s k p).map card))) [] := by
  have ht := turn_ok n (lv := lv) hs hk hp (Nat.le_of_lt hl)
  have hlen : bltV .len [hand p] = some (.sh (.int (p.length : Nat))) := by
    unfold hand
    show some (Sl.sh (.int ((p.map card).length : Nat))) = _
    rw [List.length_map]
  have hne : eqT (.int (p.length : Nat)) (.int 12) = some false := by
    have : ((p.length : Nat) : Int) ≠ 12 := by omega
    simp [eqN, this]
  have hsd := sub_deal hD (tn_lt (s := s) (k := k) (d := p))
  obtain ⟨_, hhand, _⟩ := deal_at hD
  have hlowT := (hhand _ (tn_lt (s := s) (k := k) (d := p))).low
  have hlenT := (hhand _ (tn_lt (s := s) (k := k) (d := p))).len
  generalize hL : D.getD (tn s k p) [] = L at *
  have hleft : ∀ a b c : Sl, ev (Γ (n + 3)) (.cmpr (.nm 4) [4] (.cons (.nm 4) (.ex (.sub (.cons (.nm 0) (.cons (.call 16 (.cons (.nm 1) (.cons (.nm 2) .nil))) .nil)))) (.cons (.cmp .nin (.cons (.nm 4) (.cons (.nm 2) .nil))) .nil) .nil)) [.sh (deal D), .sh (con lv s k), .sh (hand p), .no, .no, .no, .no] = .ok (.ow (.lst ((left L p).map card))) [.sh (deal D), .sh (con lv s k), .sh (hand p), .no, .no, .no, .no] := fun _ _ _ => by
    refine cmpr_run (g := card) (l := L) (b := fun c => !p.contains c) (h := card) .no rfl (.inl rfl) ?_ (fun x hx => ?_) (fun x hx _ => ?_) (Nat.le_trans (Nat.le_of_eq hlenT) (by decide))
    · have hi : itemsOf (hand L) = some (L.map card) := rfl
      generalize hand p = H at *
      generalize deal D = Dt at *
      generalize con lv s k = C at *
      simp [runFn, exSs, exS, ev, evB, evs, evT, evI, evO, evC, evP, asg, asgs, Rx.bind, Rx.toR, lift, Sl.val, useAt, slAt, R.toFR, outsOf, truB, setAt, argS, giveBack, FR.toRx, noOuts, ownAt, change, setAll, permute, forget, wipeS, isAny, isOf, bopV, cmpV, itemsOf, ht, hsd, ↓hi]
    · refine evC_one ?_
      have := nin_hand (hlowT x hx) hp
      generalize hand p = H at *
      generalize card x = X at *
      simp [runFn, exSs, exS, ev, evB, evs, evT, evI, evO, evC, evP, asg, asgs, Rx.bind, Rx.toR, lift, Sl.val, useAt, slAt, R.toFR, outsOf, truB, setAt, argS, giveBack, FR.toRx, noOuts, ownAt, change, setAll, permute, forget, wipeS, isAny, isOf, bopV, subV, placeOf, bltV, itemsOf, this]
    · simp [runFn, exSs, exS, ev, evB, evs, evT, evI, evO, evC, evP, asg, asgs, Rx.bind, Rx.toR, lift, Sl.val, useAt, slAt, R.toFR, outsOf, truB, setAt, argS, giveBack, FR.toRx, noOuts, ownAt, change, setAll, permute, forget, wipeS, isAny, isOf, bopV, cmpV, subV, placeOf, bltV, itemsOf]
  have hleft := hleft .no .no .no
  have hlt : (trk p).length ≤ p.length := by
    unfold trk
    rw [List.length_drop]
    omega
  have hsl : sliV (hand p) (some ((p.length : Int) - (p.length : Int) % 4)) none = some (.sh (hand (trk p))) := by
    unfold hand
    show some (Sl.sh (.tup (cut (p.map card) _ _))) = _
    simp only [cut, cutAt]
    rw [if_neg (by omega), List.length_map, show ((p.length : Int) - (p.length : Int) % 4).toNat = p.length - p.length % 4 by omega, show min (p.length - p.length % 4) p.length = p.length - p.length % 4 from Nat.min_eq_left (by omega), ← List.map_drop, List.take_of_length_le (by rw [List.length_map, List.length_drop]; exact Nat.le_refl _)]
    rfl
  have hlowL : Low (left L p) := fun x hx => hlowT x (left_sub hx).1
  have hlenL : (left L p).length ≤ 3 := by
    rw [← hlenT]
    exact List.length_filter_le _ _
  have hsame : ev (Γ (n + 3)) (.cmpr (.nm 4) [4] (.cons (.nm 4) (.ex (.nm 3)) (.cons (.and (.cmp .ne (.cons (.nm 5) (.cons (.tup .nil) .nil))) (.cmp .eq (.cons (.sub (.cons (.nm 4) (.cons (.cst (.int 0)) .nil))) (.cons (.sub (.cons (.sub (.cons (.nm 5) (.cons (.cst (.int 0)) .nil))) (.cons (.cst (.int 0)) .nil))) .nil)))) .nil) .nil)) [.sh (deal D), .sh (con lv s k), .sh (hand p), .ow (.lst ((left L p).map card)), .no, .sh (hand (trk p)), .no]
      = .ok (.ow (.lst (((left L p).filter fun c => !(trk p).isEmpty && decide (c / 3 = (trk p).headD 0 / 3)).map card))) [.sh (deal D), .sh (con lv s k), .sh (hand p), .sh (.lst ((left L p).map card)), .no, .sh (hand (trk p)), .no] := by
    refine cmpr_run1 (g := card) .no rfl rfl (.inl rfl) ?_ (fun x hx => evC_one ?_) (fun x hx _ => ?_) (Nat.le_trans hlenL (by decide))
    · generalize (left L p).map card = M at *
      simp [runFn, exSs, exS, ev, evB, evs, evT, evI, evO, evC, evP, asg, asgs, Rx.bind, Rx.toR, lift, Sl.val, useAt, slAt, R.toFR, outsOf, truB, setAt, argS, giveBack, FR.toRx, noOuts, ownAt, change, setAll, permute, forget, wipeS, isAny, isOf, bopV, cmpV, subV, placeOf, bltV, itemsOf]
    · have hx := hlowL x hx
      have f1 := fst_suit hx
      cases hT : trk p with
      | nil =>
        generalize (left L p).map card = M at *
        have e0 : eqT (hand []) (.tup []) = some true := eq_nil_nil.2
        generalize hand [] = H0 at *
        simp [runFn, exSs, exS, ev, evB, evs, evT, evI, evO, evC, evP, asg, asgs, Rx.bind, Rx.toR, lift, Sl.val, useAt, slAt, R.toFR, outsOf, truB, setAt, argS, giveBack, FR.toRx, noOuts, ownAt, change, setAll, permute, forget, wipeS, isAny, isOf, bopV, cmpV, bltV, itemsOf, e0, fits, sizeMost]
      | cons a r =>
        have ha : a < 12 := by
          have := low_trk hp
          rw [hT] at this
          exact this a List.mem_cons_self
        have f2 := fst_suit ha
        have f3 := eq_suits hx ha
        have f4 : subV (hand (a :: r)) (.int 0) = some (card a) := by
          unfold hand
          simp [subV, placeOf]
        have e0 : eqT (hand (a :: r)) (.tup []) = some false := eq_tup_nil (by simp)
        generalize hand (a :: r) = H0 at *
        generalize (left L p).map card = M at *
        generalize strn (x / 3) = X3 at *
        generalize strn (a / 3) = A3 at *
        generalize card x = X at *
        simp [runFn, exSs, exS, ev, evB, evs, evT, evI, evO, evC, evP, asg, asgs, Rx.bind, Rx.toR, lift, Sl.val, useAt, slAt, R.toFR, outsOf, truB, setAt, argS, giveBack, FR.toRx, noOuts, ownAt, change, setAll, permute, forget, wipeS, isAny, isOf, bopV, cmpV, bltV, itemsOf, e0, f1, f2, f3, f4, fits, sizeMost]
    · generalize (left L p).map card = M at *
      simp [runFn, exSs, exS, ev, evB, evs, evT, evI, evO, evC, evP, asg, asgs, Rx.bind, Rx.toR, lift, Sl.val, useAt, slAt, R.toFR, outsOf, truB, setAt, argS, giveBack, FR.toRx, noOuts, ownAt, change, setAll, permute, forget, wipeS, isAny, isOf, bopV, cmpV, subV, placeOf, bltV, itemsOf]
  have hB : letB D s k p = letL (left L p) (trk p) := by
    unfold letB
    rw [hL]
  rw [hB]
  unfold letL
  generalize ((left L p).filter fun c => !(trk p).isEmpty && decide (c / 3 = (trk p).headD 0 / 3)) = Sm at *
  rw [r_letby]
  generalize hand p = H at *
  generalize hand (trk p) = Ht at *
  generalize deal D = Dt at *
  generalize con lv s k = C at *
  generalize left L p = Lp at *
  by_cases hz : Sm = []
  · subst hz
    have e0 := eq_nil_nil.1
    simp only [List.map_nil] at hsame
    rw [if_neg (fun h => h rfl)]
    generalize Lp.map card = M at *
    simp [runFn, exSs, exS, ev, evB, evs, evT, evI, evO, evC, evP, asg, asgs, Rx.bind, Rx.toR, lift, Sl.val, useAt, slAt, R.toFR, outsOf, truB, setAt, argS, giveBack, FR.toRx, noOuts, ownAt, change, setAll, permute, forget, wipeS, isAny, isOf, bopV, cmpV, subV, placeOf, itemsOf, d_let_by, hlen, g6, hne, ↓hleft, hsl, ↓hsame, g3, e0, fits, sizeMost]
  · have e0 := eq_lst_nil (L := Sm.map card) (by simpa using hz)
    rw [if_pos hz]
    generalize Sm.map card = SM at *
    generalize Lp.map card = M at *
    simp [runFn, exSs, exS, ev, evB, evs, evT, evI, evO, evC, evP, asg, asgs, Rx.bind, Rx.toR, lift, Sl.val, useAt, slAt, R.toFR, outsOf, truB, setAt, argS, giveBack, FR.toRx, noOuts, ownAt, change, setAll, permute, forget, wipeS, isAny, isOf, bopV, cmpV, subV, placeOf, itemsOf, d_let_by, hlen, g6, hne, ↓hleft, hsl, ↓hsame, g3, e0, fits, sizeMost]
theorem low_ok {D : List (List Nat)} (hD : Deal D) {s k : Nat} {p : List Nat} (h : Lg D s k p) : Low p := (ok_of hD h).low
/-- the cards that are let, one behind another -/
theorem cardsin_ok (n : Nat) {D : List (List Nat)} (hD : Deal D) {lv s k : Nat} {p : List Nat} (hs : s < 5) (hk : k < 4) (hp : Lg D s k p) : run prog (n + 5) 18 [.sh (deal D), .sh (con lv s k), .sh (hand p)] = .ok (.sh (hand p)) [] := by
  obtain ⟨τ', h1, rfl⟩ := for_inv (Γ := Γ (n + 4)) (t := .nm 4) (it := .ex (.nm 2)) (body := .cons (.iff (.not (.call 2 (.cons (.nm 4) (.cons (.call 17 (.cons (.nm 0) (.cons (.nm 1) (.cons (.nm 3) .nil)))) .nil)))) (.cons (.ret (.nm 3)) .nil) .nil) (.cons (.asg (.nm 3) (.tup (.star (.nm 3) (.cons (.nm 4) .nil)))) .nil)) (fg := [4])
    (P := fun d τ => τ = [.sh (deal D), .sh (con lv s k), .sh (hand p), .sh (.tup d), .no]) (items := p.map card) (τ := [.sh (deal D), .sh (con lv s k), .sh (hand p), .sh (.tup []), .no]) (by
      generalize hh : hand p = H
      have hi : itemsOf H = some (p.map card) := by rw [← hh]; rfl
      simp [runFn, exSs, exS, ev, evB, evs, evT, evI, evO, evC, evP, asg, asgs, Rx.bind, Rx.toR, lift, Sl.val, useAt, slAt, R.toFR, outsOf, truB, setAt, argS, giveBack, FR.toRx, noOuts, ownAt, change, setAll, permute, forget, wipeS, isAny, isOf, bopV, cmpV, subV, placeOf, bltV, itemsOf, ↓hi]) rfl (by
    rintro d x r τ e rfl
    obtain ⟨p1, p2, ep, e1, e2⟩ := List.map_eq_append_iff.mp e
    obtain ⟨y, p3, e3, e4, e5⟩ := List.map_eq_cons_iff.mp e2
    subst e3 e1
    have hpre : Lg D s k (p1 ++ [y]) := pre_inv hp (p1 ++ [y]) p3 (by rw [ep]; simp)
    obtain ⟨q1, q2, q3⟩ := snoc_inv hpre
    have hlow := low_ok hD hpre
    have hy : y < 12 := hlow y (by simp)
    have hl := letby_ok n hD (lv := lv) hs hk (low_ok hD q1) q2
    have hlb : Low (letB D s k p1) := fun c hc => ((deal_at hD).2.1 _ (tn_lt (s := s) (k := k) (d := p1))).low c (letB_in hc).1
    have hin := in_card hy hlb
    have hcon : (letB D s k p1).contains y = true := by simpa using q3
    rw [hcon] at hin
    have hf : fits (p1.map card ++ [x]) = true := fits_of (by simp; omega)
    subst e4
    refine ⟨_, [.sh (deal D), .sh (con lv s k), .sh (hand p), .sh (.tup (p1.map card ++ [card y])), .sh (card y)], asg_nm rfl, .inl ?_, rfl⟩
    have hh : hand p1 = .tup (p1.map card) := rfl
    rw [hh] at hl
    generalize p1.map card = P1 at *
    generalize (letB D s k p1).map card = LB at *
    generalize hand p = H at *
    generalize deal D = Dt at *
    generalize con lv s k = C at *
    rw [card_str] at hin hf ⊢
    simp [runFn, exSs, exS, ev, evB, evs, evT, evI, evO, evC, evP, asg, asgs, Rx.bind, Rx.toR, lift, Sl.val, useAt, slAt, R.toFR, outsOf, truB, setAt, argS, giveBack, FR.toRx, noOuts, ownAt, change, setAll, permute, forget, wipeS, isAny, isOf, bopV, cmpV, subV, placeOf, bltV, itemsOf, r_one, d_is_one_of, hl, hin, hf])
  rw [r_cardsin]
  have hh : hand p = .tup (p.map card) := rfl
  rw [hh] at h1 ⊢
  generalize p.map card = P1 at *
  generalize deal D = Dt at *
  generalize con lv s k = C at *
  simp [runFn, exSs, exS, ev, evB, evs, evT, evI, evO, evC, evP, asg, asgs, Rx.bind, Rx.toR, lift, Sl.val, useAt, slAt, R.toFR, outsOf, truB, setAt, argS, giveBack, FR.toRx, noOuts, ownAt, change, setAll, permute, forget, wipeS, isAny, isOf, bopV, cmpV, subV, placeOf, bltV, itemsOf, d_cards_in, fits, sizeMost, ↓h1]
theorem wplay_ok (n : Nat) {D : List (List Nat)} (hD : Deal D) {lv s k : Nat} {p : List Nat} (hs : s < 5) (hk : k < 4) (hp : Lg D s k p) : run prog (n + 6) 19 [.sh (deal D), .sh (con lv s k), .sh (hand p)] = .ok (.ow (.lst [])) [] := by
  have hc := cardsin_ok n hD (lv := lv) hs hk hp
  have hh : hand p = .tup (p.map card) := rfl
  rw [r_wplay]
  rw [hh] at hc ⊢
  generalize p.map card = P1 at *
  generalize deal D = Dt at *
  generalize con lv s k = C at *
  simp [runFn, exSs, exS, ev, evB, evs, evT, evI, evO, evC, evP, asg, asgs, Rx.bind, Rx.toR, lift, Sl.val, useAt, slAt, R.toFR, outsOf, truB, setAt, argS, giveBack, FR.toRx, noOuts, ownAt, change, setAll, permute, forget, wipeS, isAny, isOf, bopV, cmpV, subV, placeOf, bltV, itemsOf, d_wrong_in_play, hc, ltT, ltN, fits, sizeMost]
/-- a contract that is drawn -/
structure Con (lv s k : Nat) : Prop where
  a : 1 ≤ lv
  b : lv ≤ 2
  s : s < 5
  k : k < 4
theorem chplay_ok (n : Nat) {D : List (List Nat)} (hD : Deal D) {lv s k : Nat} {p : List Nat} (hc : Con lv s k) (hp : Lg D s k p) : run prog (n + 9) 21 [.sh (deal D), .sh (con lv s k), .sh (hand p)] = .ok (.sh .non) [] := by
  have h1 := chgame_ok n hD hc.a hc.b hc.s hc.k
  have h2 := wplay_ok (n + 2) hD (lv := lv) hc.s hc.k hp
  rw [r_chplay]
  generalize hand p = H at *
  generalize deal D = Dt at *
  generalize con lv s k = C at *
  simp [runFn, exSs, exS, ev, evB, evs, evT, evI, evO, evC, evP, asg, asgs, Rx.bind, Rx.toR, lift, Sl.val, useAt, slAt, R.toFR, outsOf, truB, setAt, argS, giveBack, FR.toRx, noOuts, ownAt, change, setAll, permute, forget, wipeS, isAny, isOf, bopV, cmpV, subV, placeOf, bltV, itemsOf, d_check_play, h1, h2, loopS]
/-- what is let behind it -/
def letN (D : List (List Nat)) (s k : Nat) (p : List Nat) : List Nat := if p.length < 12 then letB D s k p else []
theorem letc_ok (n : Nat) {D : List (List Nat)} (hD : Deal D) {lv s k : Nat} {p : List Nat} (hc : Con lv s k) (hp : Lg D s k p) : run prog (n + 10) 22 [.sh (deal D), .sh (con lv s k), .sh (hand p)] = .ok (.sh (hand (letN D s k p))) [] := by
  have h1 := chplay_ok n hD hc hp
  rw [r_letc]
  unfold letN
  by_cases hl : p.length < 12
  · rw [if_pos hl]
    have h2 := letby_ok (n + 5) hD (lv := lv) hc.s hc.k (low_ok hD hp) hl
    unfold hand at h2 h1 ⊢
    generalize p.map card = H at *
    generalize (letB D s k p).map card = LB at *
    generalize deal D = Dt at *
    generalize con lv s k = C at *
    simp [runFn, exSs, exS, ev, evB, evs, evT, evI, evO, evC, evP, asg, asgs, Rx.bind, Rx.toR, lift, Sl.val, useAt, slAt, R.toFR, outsOf, truB, setAt, argS, giveBack, FR.toRx, noOuts, ownAt, change, setAll, permute, forget, wipeS, isAny, isOf, bopV, cmpV, subV, placeOf, bltV, itemsOf, d_let_cards, h1, h2]
  · rw [if_neg hl]
    have h2 := letby12 (n + 8) (D := D) (C := con lv s k) (p := p) (by have := hp.len; omega)
    unfold hand at h2 h1 ⊢
    generalize p.map card = H at *
    generalize deal D = Dt at *
    generalize con lv s k = C at *
    simp [runFn, exSs, exS, ev, evB, evs, evT, evI, evO, evC, evP, asg, asgs, Rx.bind, Rx.toR, lift, Sl.val, useAt, slAt, R.toFR, outsOf, truB, setAt, argS, giveBack, FR.toRx, noOuts, ownAt, change, setAll, permute, forget, wipeS, isAny, isOf, bopV, cmpV, subV, placeOf, bltV, itemsOf, d_let_cards, h1, h2]
theorem sub_seat {t : Nat} (ht : t < 4) : subV (.tup ((List.range 4).map seat)) (.int (t : Nat)) = some (seat t) := by
  simp only [subV, placeOf, List.length_map, List.length_range]
  rw [if_pos (by omega), if_pos (by omega)]
  simp [ht]
theorem tplay_ok (n : Nat) {D : List (List Nat)} (hD : Deal D) {lv s k : Nat} {p : List Nat} (hc : Con lv s k) (hp : Lg D s k p) (hl : p.length < 12) : run prog (n + 10) 23 [.sh (deal D), .sh (con lv s k), .sh (hand p)] = .ok (.sh (seat (tn s k p))) [] := by
  have h1 := chplay_ok n hD hc hp
  have h2 := turn_ok (n + 6) (lv := lv) hc.s hc.k (low_ok hD hp) (Nat.le_of_lt hl)
  have h3 := sub_seat (tn_lt (s := s) (k := k) (d := p))
  have hlen : bltV .len [hand p] = some (.sh (.int (p.length : Nat))) := by
    unfold hand
    show some (Sl.sh (.int ((p.map card).length : Nat))) = _
    rw [List.length_map]
  have hne : eqT (.int (p.length : Nat)) (.int 12) = some false := by
    have : ((p.length : Nat) : Int) ≠ 12 := by omega
    simp [eqN, this]
  rw [r_tplay]
  generalize hand p = H at *
  generalize deal D = Dt at *
  generalize con lv s k = C at *
  have hg := g1
  generalize (List.range 4).map seat = St at *
  simp [runFn, exSs, exS, ev, evB, evs, evT, evI, evO, evC, evP, asg, asgs, Rx.bind, Rx.toR, lift, Sl.val, useAt, slAt, R.toFR, outsOf, truB, setAt, argS, giveBack, FR.toRx, noOuts, ownAt, change, setAll, permute, forget, wipeS, isAny, isOf, bopV, cmpV, itemsOf, d_turn_to_play, h1, h2, hlen, g6, hne, hg, h3]
theorem W_lt (s k : Nat) (p : List Nat) : ∀ x ∈ W s k p, x < 4 := by
  have key : ∀ m l0, ∀ x ∈ (chW s l0 p m).1, x < 4 := by
    intro m l0
    induction m with
    | zero => intro x hx; cases hx
    | succ m ih =>
      intro x hx
      rcases List.mem_append.mp hx with hx | hx
      · exact ih x hx
      · rw [List.mem_singleton.mp hx]
        exact Nat.mod_lt _ (by decide)
  exact key _ _
theorem W_len (s k : Nat) {p : List Nat} (h : p.length ≤ 12) : (W s k p).length ≤ 3 := by
  have key : ∀ m l0, (chW s l0 p m).1.length = m := by
    intro m l0
    induction m with
    | zero => rfl
    | succ m ih => simp [chW, ih]
  unfold W
  rw [key]
  omega
theorem wins_ok (n : Nat) {D : List (List Nat)} (hD : Deal D) {lv s k : Nat} {p : List Nat} (hc : Con lv s k) (hp : Lg D s k p) : run prog (n + 10) 24 [.sh (deal D), .sh (con lv s k), .sh (hand p)] = .ok (.sh (.tup ((W s k p).map seat))) [] := by
  have h1 := chplay_ok n hD hc hp
  have h2 := winners_ok (n + 7) (lv := lv) hc.s hc.k (low_ok hD hp) hp.len
  have hcm : ev (Γ (n + 9)) (.cmpr (.sub (.cons (.glo 1) (.cons (.nm 3) .nil))) [3] (.cons (.nm 3) (.ex (.call 15 (.cons (.nm 1) (.cons (.nm 2) .nil)))) .nil .nil)) [.sh (deal D), .sh (con lv s k), .sh (hand p), .no] = .ok (.ow (.lst ((W s k p).map seat))) [.sh (deal D), .sh (con lv s k), .sh (hand p), .no] := by
    refine cmpr_run0 (g := fun (i : Nat) => .int (i : Int)) .no rfl (.inl rfl) ?_ (fun x hx => ?_) (Nat.le_trans (W_len s k hp.len) (by decide))
    · have hi : itemsOf (.lst (intT (W s k p))) = some ((W s k p).map fun (i : Nat) => .int (i : Int)) := rfl
      generalize hand p = H at *
      generalize deal D = Dt at *
      generalize con lv s k = C at *
      simp [runFn, exSs, exS, ev, evB, evs, evT, evI, evO, evC, evP, asg, asgs, Rx.bind, Rx.toR, lift, Sl.val, useAt, slAt, R.toFR, outsOf, truB, setAt, argS, giveBack, FR.toRx, noOuts, ownAt, change, setAll, permute, forget, wipeS, isAny, isOf, bopV, cmpV, subV, placeOf, bltV, itemsOf, h2, ↓hi]
    · have h3 := sub_seat (W_lt s k p x hx)
      have hg := g1
      generalize (List.range 4).map seat = St at *
      simp [runFn, exSs, exS, ev, evB, evs, evT, evI, evO, evC, evP, asg, asgs, Rx.bind, Rx.toR, lift, Sl.val, useAt, slAt, R.toFR, outsOf, truB, setAt, argS, giveBack, FR.toRx, noOuts, ownAt, change, setAll, permute, forget, wipeS, isAny, isOf, bopV, cmpV, bltV, itemsOf, hg, h3]
  rw [r_wins]
  generalize hand p = H at *
  generalize deal D = Dt at *
  generalize con lv s k = C at *
  generalize (W s k p).map seat = Ws at *
  simp [runFn, exSs, exS, ev, evB, evs, evT, evI, evO, evC, evP, asg, asgs, Rx.bind, Rx.toR, lift, Sl.val, useAt, slAt, R.toFR, outsOf, truB, setAt, argS, giveBack, FR.toRx, noOuts, ownAt, change, setAll, permute, forget, wipeS, isAny, isOf, bopV, cmpV, subV, placeOf, bltV, itemsOf, d_winners, h1, ↓hcm]
end K43
end

section
set_option maxRecDepth 100000
set_option maxHeartbeats 2000000
/-! Law k43: the law's plays. -/
namespace K43
open Py
theorem r_state (n : Nat) (as : List Sl) : run prog (n + 1) 33 as = runFn (Γ n) d__law_state as := rfl
theorem r_let (n : Nat) (as : List Sl) : run prog (n + 1) 35 as = runFn (Γ n) d__law_let as := rfl
theorem r_next (n : Nat) (as : List Sl) : run prog (n + 1) 36 as = runFn (Γ n) d__law_next as := rfl
theorem r_dplay (n : Nat) (as : List Sl) : run prog (n + 1) 38 as = runFn (Γ n) d__law_drawn_play as := rfl
def stT (D : List (List Nat)) (s k : Nat) (p : List Nat) : T := .tup [.tup ((hs D p).map hand), hand (trk p), .int (tn s k p : Nat), .tup (intT (W s k p))]
theorem con1 (lv s k : Nat) : subV (con lv s k) (.int 1) = some (strn s) := by simp [con, subV, placeOf]
theorem con2 (lv s k : Nat) : subV (con lv s k) (.int 2) = some (seat k) := by simp [con, subV, placeOf]
theorem hs_at {D : List (List Nat)} (h : Deal D) {p : List Nat} {t : Nat} (ht : t < 4) : (hs D p)[t]? = some (left (D.getD t []) p) := by
  obtain ⟨hl, _⟩ := deal_at h
  unfold hs
  rw [List.getElem?_map, List.getD_eq_getElem?_getD, List.getElem?_eq_getElem (by omega)]
  rfl
theorem hs_len {D : List (List Nat)} (h : Deal D) {p : List Nat} : (hs D p).length = 4 := by
  unfold hs
  rw [List.length_map]
  exact (deal_at h).1
theorem sub_hs {D : List (List Nat)} (h : Deal D) {p : List Nat} {t : Nat} (ht : t < 4) : subV (.lst ((hs D p).map hand)) (.int (t : Nat)) = some (hand (left (D.getD t []) p)) ∧ subV (.tup ((hs D p).map hand)) (.int (t : Nat)) = some (hand (left (D.getD t []) p)) := by
  constructor <;>
  · simp only [subV, placeOf, List.length_map, hs_len h]
    rw [if_pos (by omega), if_pos (by omega)]
    simp only [Int.toNat_natCast, Option.bind_some, List.getElem?_map, hs_at h ht, Option.map_some]
theorem set_hs {D : List (List Nat)} (h : Deal D) {p m : List Nat} {t : Nat} (ht : t < 4) : setV (.lst ((hs D p).map hand)) (.int (t : Nat)) (hand m) = some (.lst (((hs D p).set t m).map hand)) := by
  simp only [setV, placeOf, List.length_map, hs_len h]
  rw [if_pos (by omega), if_pos (by omega)]
  simp only [Int.toNat_natCast, Option.map_some, List.map_set]
theorem ne_card {a b : Nat} (ha : a < 12) (hb : b < 12) : cmpV .ne (card a) (card b) = some (decide (a ≠ b)) := by
  show (eqT (card a) (card b)).map (!·) = _
  rw [eq_card a ha b hb]
  simp
def stBody : Ss := .cons (.asg (.sub 3 (.nm 6)) (.blt .tuple (.cons (.cmpr (.nm 8) [8] (.cons (.nm 8) (.ex (.sub (.cons (.pk 3) (.cons (.nm 6) .nil)))) (.cons (.cmp .ne (.cons (.nm 8) (.cons (.nm 7) .nil))) .nil) .nil)) .nil))) (.cons (.par (.cons (.nm 4) (.cons (.nm 6) .nil)) (.cons (.bin .add (.cons (.nm 4) (.cons (.tup (.cons (.nm 7) .nil)) .nil))) (.cons (.bin .mod (.cons (.blt .int (.cons (.bin .add (.cons (.nm 6) (.cons (.cst (.int 1)) .nil))) .nil)) (.cons (.cst (.int 4)) .nil))) .nil))) (.cons (.iff (.cmp .eq (.cons (.blt .len (.cons (.nm 4) .nil)) (.cons (.cst (.int 4)) .nil))) (.cons (.asg (.nm 9) (.call 34 (.cons (.nm 4) (.cons (.sub (.cons (.nm 1) (.cons (.cst (.int 1)) .nil))) .nil)))) (.cons (.par (.cons (.nm 6) (.cons (.nm 4) .nil)) (.cons (.bin .mod (.cons (.blt .int (.cons (.bin .add (.cons (.nm 6) (.cons (.nm 9) .nil))) .nil)) (.cons (.cst (.int 4)) .nil))) (.cons (.tup .nil) .nil))) (.cons (.asg (.nm 5) (.bin .add (.cons (.nm 5) (.cons (.tup (.cons (.nm 6) .nil)) .nil)))) .nil))) .nil) .nil))
theorem hand_app (p : List Nat) (y : Nat) : bopV .add (hand p) (.tup [card y]) = if fits (p.map card) && fits [card y] then some (.sh (hand (p ++ [y]))) else none := by
  unfold hand
  rw [List.map_append]
  rfl
theorem state_step (n : Nat) {D : List (List Nat)} (hD : Deal D) {lv s k : Nat} {p p1 : List Nat} {y : Nat} (hsl : s < 5) (hp : Lg D s k (p1 ++ [y])) : ∃ z, exSs (Γ (n + 1)) stBody [.sh (deal D), .sh (con lv s k), .sh (hand p), .ow (.lst ((hs D p1).map hand)), .sh (hand (trk p1)), .sh (.tup (intT (W s k p1))), .sh (.int (tn s k p1 : Nat)), .sh (card y), .no, .no] =
    .nx [.sh (deal D), .sh (con lv s k), .sh (hand p), .ow (.lst ((hs D (p1 ++ [y])).map hand)), .sh (hand (trk (p1 ++ [y]))), .sh (.tup (intT (W s k (p1 ++ [y])))), .sh (.int (tn s k (p1 ++ [y]) : Nat)), .sh (card y), .no, z] := by
  obtain ⟨q1, q2, q3⟩ := snoc_inv hp
  have hok := ok_of hD hp
  have hy : y < 12 := hok.low y (by simp)
  have ht := tn_lt (s := s) (k := k) (d := p1)
  have hx := letB_in q3
  have hstep := hs_step hD q3
  obtain ⟨s1, s2⟩ := sub_hs hD (p := p1) ht
  have hset := fun m => set_hs hD (p := p1) (m := m) ht
  have hlowT := ((deal_at hD).2.1 _ ht).low
  have hlenT := ((deal_at hD).2.1 _ ht).len
  have c1 := con1 lv s k
  have hcm : ev (Γ (n + 1)) (.cmpr (.nm 8) [8] (.cons (.nm 8) (.ex (.sub (.cons (.pk 3) (.cons (.nm 6) .nil)))) (.cons (.cmp .ne (.cons (.nm 8) (.cons (.nm 7) .nil))) .nil) .nil)) [.sh (deal D), .sh (con lv s k), .sh (hand p), .ow (.lst ((hs D p1).map hand)), .sh (hand (trk p1)), .sh (.tup (intT (W s k p1))), .sh (.int (tn s k p1 : Nat)), .sh (card y), .no, .no]
      = .ok (.ow (.lst (((left (D.getD (tn s k p1) []) p1).filter fun c => decide (c ≠ y)).map card))) [.sh (deal D), .sh (con lv s k), .sh (hand p), .ow (.lst ((hs D p1).map hand)), .sh (hand (trk p1)), .sh (.tup (intT (W s k p1))), .sh (.int (tn s k p1 : Nat)), .sh (card y), .no, .no] := by
    refine cmpr_run (g := card) (l := left (D.getD (tn s k p1) []) p1) .no rfl (.inl rfl) ?_ (fun x hx => evC_one ?_) (fun x hx _ => ?_) (Nat.le_trans (Nat.le_trans (List.length_filter_le _ _) (Nat.le_of_eq hlenT)) (by decide))
    · have hi : itemsOf (hand (left (D.getD (tn s k p1) []) p1)) = some ((left (D.getD (tn s k p1) []) p1).map card) := rfl
      generalize hand (left (D.getD (tn s k p1) []) p1) = HL at *
      generalize (left (D.getD (tn s k p1) []) p1).map card = LL at *
      generalize (hs D p1).map hand = HS at *
      generalize hand p = H at *
      generalize hand (trk p1) = HT at *
      generalize deal D = Dt at *
      generalize con lv s k = C at *
      simp [runFn, exSs, exS, ev, evB, evs, evT, evI, evO, evC, evP, asg, asgs, Rx.bind, Rx.toR, lift, Sl.val, useAt, slAt, R.toFR, outsOf, truB, setAt, argS, giveBack, FR.toRx, noOuts, ownAt, change, setAll, permute, forget, wipeS, isAny, isOf, bopV, cmpV, bltV, itemsOf, s1, ↓hi]
    · have h1 := ne_card (hlowT x (left_sub hx).1) hy
      generalize decide (x ≠ y) = B at *
      generalize card x = X at *
      generalize card y = Y at *
      simp [runFn, exSs, exS, ev, evB, evs, evT, evI, evO, evC, evP, asg, asgs, Rx.bind, Rx.toR, lift, Sl.val, useAt, slAt, R.toFR, outsOf, truB, setAt, argS, giveBack, FR.toRx, noOuts, ownAt, change, setAll, permute, forget, wipeS, isAny, isOf, bopV, subV, placeOf, bltV, itemsOf, h1]
    · simp [runFn, exSs, exS, ev, evB, evs, evT, evI, evO, evC, evP, asg, asgs, Rx.bind, Rx.toR, lift, Sl.val, useAt, slAt, R.toFR, outsOf, truB, setAt, argS, giveBack, FR.toRx, noOuts, ownAt, change, setAll, permute, forget, wipeS, isAny, isOf, bopV, cmpV, subV, placeOf, bltV, itemsOf]
  have htup : ∀ m : List Nat, bltV .tuple [.lst (m.map card)] = some (.sh (hand m)) := fun m => rfl
  have htl : (trk p1).length ≤ 3 := by
    rw [trk_len]
    omega
  have hadd := hand_app (trk p1) y
  rw [fits_of (l := (trk p1).map card) (by rw [List.length_map]; omega), fits_of (l := [card y]) (by simp)] at hadd
  simp only [Bool.and_self, if_true] at hadd
  have hset := hset ((left (D.getD (tn s k p1) []) p1).filter fun c => decide (c ≠ y))
  rw [hstep] at hset
  have htup := htup ((left (D.getD (tn s k p1) []) p1).filter fun c => decide (c ≠ y))
  have hlen : bltV .len [hand (trk p1 ++ [y])] = some (.sh (.int ((trk p1 ++ [y]).length : Nat))) := by
    unfold hand
    show some (Sl.sh (.int (((trk p1 ++ [y]).map card).length : Nat))) = _
    rw [List.length_map]
  generalize ((left (D.getD (tn s k p1) []) p1).filter fun c => decide (c ≠ y)) = M at *
  by_cases hr : p1.length % 4 = 3
  · obtain ⟨f1, f2, f3, _, f5⟩ := step_full (s := s) (k := k) (x := y) hr
    obtain ⟨a, b, c, e, h4⟩ := four f2
    have hsub : (trk p1 ++ [y]).Sublist (p1 ++ [y]) := List.Sublist.append (List.drop_sublist _ _) (List.Sublist.refl _)
    have hnd : [a, b, c, e].Nodup := by
      rw [← h4]
      exact hok.nd.sublist hsub
    have hlow4 : Low [a, b, c, e] := by
      rw [← h4]
      exact fun x hx => hok.low x (hsub.subset hx)
    have hw := lwin_ok n hsl hlow4
    rw [wl_wi hnd, ← h4] at hw
    have e4 : eqT (.int ((trk p1 ++ [y]).length : Nat)) (.int 4) = some true := by
      rw [f2]
      simp [eqN]
    have hWf : fits (intT (W s k p1)) = true := fits_of (by
      unfold intT
      rw [List.length_map]
      have := W_len s k (p := p1) (by omega)
      omega)
    have hWa : intT (W s k p1 ++ [tn s k (p1 ++ [y])]) = intT (W s k p1) ++ [.int (tn s k (p1 ++ [y]) : Nat)] := by simp [intT]
    have hT : ((tn s k (p1 ++ [y]) : Nat) : Int) = (((tn s k p1 : Nat) : Int) + 1) % 4 % 4 + 0 ∨ True := .inr trivial
    refine ⟨.sh (.int (wi s (trk p1 ++ [y]) : Nat)), ?_⟩
    have hT : ((tn s k (p1 ++ [y]) : Nat) : Int) = ((((tn s k p1 : Nat) : Int) + 1) % 4 + ((wi s (trk p1 ++ [y]) : Nat) : Int)) % 4 := by
      rw [f5]
      push_cast
      rfl
    rw [f1, f3, hWa]
    have hh0 : hand [] = .tup [] := rfl
    rw [hh0, hT]
    rw [hT] at hWa
    generalize (trk p1 ++ [y]).length = Ln at *
    generalize hand (trk p1 ++ [y]) = HT2 at *
    generalize hand (trk p1) = HT at *
    generalize (hs D p1).map hand = HS at *
    generalize (hs D (p1 ++ [y])).map hand = HS2 at *
    generalize M.map card = MC at *
    generalize hand M = HM at *
    generalize intT (W s k p1) = WT at *
    generalize hand p = H at *
    generalize deal D = Dt at *
    generalize con lv s k = C at *
    generalize card y = Y at *
    generalize wi s (trk p1 ++ [y]) = Wn at *
    generalize tn s k p1 = t1 at *
    have hY : fits [Y] = true := fits_of (by simp)
    have hZ : ∀ z : T, fits [z] = true := fun z => fits_of (by simp)
    have h0 : fits ([] : List T) = true := fits_of (by simp)
    have haddW : ∀ z : Int, bopV .add (.tup WT) (.tup [.int z]) = some (.sh (.tup (WT ++ [.int z]))) := fun z => by
      show (if fits WT && fits [T.int z] then some (Sl.sh (.tup (WT ++ [.int z]))) else none) = _
      rw [hWf, hZ]
      rfl
    have haddI : ∀ a b : Int, bopV .add (.int a) (.int b) = some (.sh (.int (a + b))) := fun _ _ => rfl
    have hmodI : ∀ a : Int, bopV .mod (.int a) (.int 4) = some (.sh (.int (a % 4))) := fun _ => rfl
    have hint : ∀ a : Int, bltV .int [.int a] = some (.sh (.int a)) := fun _ => rfl
    simp [runFn, exSs, exS, ev, evB, evs, evT, evI, evO, evC, evP, asg, asgs, Rx.bind, Rx.toR, lift, Sl.val, useAt, slAt, R.toFR, outsOf, truB, setAt, argS, giveBack, FR.toRx, noOuts, ownAt, change, setAll, permute, forget, wipeS, isAny, isOf, cmpV, itemsOf, stBody, ↓hcm, htup, hset, hadd, haddI, hmodI, hint, hlen, e4, c1, hw, haddW, hY, hZ, h0]
  · obtain ⟨f1, f2, _, f4⟩ := step_on (s := s) (k := k) (x := y) hr
    have e4 : eqT (.int ((trk p1 ++ [y]).length : Nat)) (.int 4) = some false := by
      have hn : (((trk p1 ++ [y]).length : Nat) : Int) ≠ 4 := by
        rw [List.length_append, trk_len]
        simp
        omega
      generalize (trk p1 ++ [y]).length = Ln at *
      simp [eqN, hn]
    refine ⟨.no, ?_⟩
    have hT : ((tn s k (p1 ++ [y]) : Nat) : Int) = (((tn s k p1 : Nat) : Int) + 1) % 4 := by
      rw [f4]
      push_cast
      rfl
    rw [f1, f2, hT]
    generalize (trk p1 ++ [y]).length = Ln at *
    generalize hand (trk p1 ++ [y]) = HT2 at *
    generalize hand (trk p1) = HT at *
    generalize (hs D p1).map hand = HS at *
    generalize (hs D (p1 ++ [y])).map hand = HS2 at *
    generalize M.map card = MC at *
    generalize hand M = HM at *
    generalize intT (W s k p1) = WT at *
    generalize hand p = H at *
    generalize deal D = Dt at *
    generalize con lv s k = C at *
    generalize card y = Y at *
    generalize tn s k p1 = t1 at *
    have hY : fits [Y] = true := fits_of (by simp)
    have haddI : ∀ a b : Int, bopV .add (.int a) (.int b) = some (.sh (.int (a + b))) := fun _ _ => rfl
    have hmodI : ∀ a : Int, bopV .mod (.int a) (.int 4) = some (.sh (.int (a % 4))) := fun _ => rfl
    have hint : ∀ a : Int, bltV .int [.int a] = some (.sh (.int a)) := fun _ => rfl
    simp [runFn, exSs, exS, ev, evB, evs, evT, evI, evO, evC, evP, asg, asgs, Rx.bind, Rx.toR, lift, Sl.val, useAt, slAt, R.toFR, outsOf, truB, setAt, argS, giveBack, FR.toRx, noOuts, ownAt, change, setAll, permute, forget, wipeS, isAny, isOf, cmpV, itemsOf, stBody, ↓hcm, htup, hset, hadd, haddI, hmodI, hint, hlen, e4, hY]
end K43
end

section
set_option maxRecDepth 100000
set_option maxHeartbeats 2000000
/-! Law k43: the law's states, plays drawn. -/
namespace K43
open Py
theorem items_at {p : List Nat} {g : Nat → T} {d r : List T} {x : T} (e : p.map g = d ++ x :: r) : d.length < p.length ∧ ∃ y, p.take (d.length + 1) = p.take d.length ++ [y] ∧ x = g y := by
  have h1 : d.length < p.length := by
    have := congrArg List.length e
    simp at this
    omega
  have h2 : (p.map g)[d.length]? = some x := by
    rw [e, List.getElem?_append_right (Nat.le_refl _), Nat.sub_self]
    rfl
  rw [List.getElem?_map, List.getElem?_eq_getElem h1] at h2
  exact ⟨h1, p[d.length], by rw [List.take_append_getElem], (Option.some.inj h2).symm⟩
theorem hs_nil (D : List (List Nat)) : hs D [] = D := by
  unfold hs left
  have : (fun l : List Nat => l.filter fun c => !([] : List Nat).contains c) = id := by
    funext l
    exact List.filter_eq_self.mpr fun c _ => rfl
  rw [this, List.map_id]
theorem tn_nil (s k : Nat) : tn s k [] = (k + 1) % 4 := by
  show (((k + 1) % 4) + 0 % 4) % 4 = _
  omega
theorem state_ok (n : Nat) {D : List (List Nat)} (hD : Deal D) {lv s k : Nat} {p : List Nat} (hc : Con lv s k) (hp : Lg D s k p) : run prog (n + 2) 33 [.sh (deal D), .sh (con lv s k), .sh (hand p)] = .ok (.sh (stT D s k p)) [] := by
  obtain ⟨τ', h1, rfl⟩ := for_inv (Γ := Γ (n + 1)) (t := .nm 7) (it := .ex (.nm 2)) (body := stBody) (fg := [7, 9])
    (P := fun d τ => τ = [.sh (deal D), .sh (con lv s k), .sh (hand p), .ow (.lst ((hs D (p.take d.length)).map hand)), .sh (hand (trk (p.take d.length))), .sh (.tup (intT (W s k (p.take d.length)))), .sh (.int (tn s k (p.take d.length) : Nat)), .no, .no, .no]) (items := p.map card) (τ := [.sh (deal D), .sh (con lv s k), .sh (hand p), .ow (.lst (D.map hand)), .sh (.tup []), .sh (.tup []), .sh (.int (((k + 1) % 4 : Nat) : Int)), .no, .no, .no]) (by
      have hi : itemsOf (hand p) = some (p.map card) := rfl
      generalize hand p = H at *
      generalize con lv s k = C at *
      generalize deal D = Dt at *
      simp [runFn, exSs, exS, ev, evB, evs, evT, evI, evO, evC, evP, asg, asgs, Rx.bind, Rx.toR, lift, Sl.val, useAt, slAt, R.toFR, outsOf, truB, setAt, argS, giveBack, FR.toRx, noOuts, ownAt, change, setAll, permute, forget, wipeS, isAny, isOf, bopV, cmpV, subV, placeOf, bltV, itemsOf, ↓hi]) (by
        show _ = _
        rw [List.length_nil, List.take_zero, hs_nil, tn_nil]
        rfl) (by
    rintro d x r τ e rfl
    obtain ⟨hd, y, et, rfl⟩ := items_at e
    have hpre : Lg D s k (p.take d.length ++ [y]) := by
      rw [← et]
      exact pre_inv hp (p.take (d.length + 1)) (p.drop (d.length + 1)) (List.take_append_drop _ _).symm
    obtain ⟨z, hz⟩ := state_step n hD (lv := lv) (p := p) hc.s hpre
    refine ⟨_, _, asg_nm rfl, .inl hz, ?_⟩
    show _ = _
    rw [show (d ++ [card y]).length = d.length + 1 by simp, et]
    rfl)
  rw [List.length_map, List.take_length] at h1
  have hix := ix_map eq_seat hc.k (l := List.range 4) (fun x h => List.mem_range.mp h) (List.mem_range.mpr hc.k)
  have hx : (List.range 4).idxOf k = k := by
    match k, hc.k with
    | 0, _ => rfl
    | 1, _ => rfl
    | 2, _ => rfl
    | 3, _ => rfl
  rw [hx] at hix
  have hdd : ((List.range 4).map seat).all isData0 = true := by decide +kernel
  have hmi : mthV .index [.tup ((List.range 4).map seat), seat k] = some (.sh (.int (k : Nat))) := by
    show (if (isData0 (seat k) && ((List.range 4).map seat).all isData0) = true then (ixTs (seat k) ((List.range 4).map seat)).map (fun (k : Nat) => Sl.sh (.int k)) else none) = _
    rw [seat_data k hc.k, hdd, hix]
    rfl
  have hse := seats_ok n
  have c2 := con2 lv s k
  have hb : d__law_state = ⟨3, 10, .cons (.par (.cons (.nm 3) (.cons (.nm 4) (.cons (.nm 5) .nil))) (.cons (.blt .list (.cons (.nm 0) .nil)) (.cons (.tup .nil) (.cons (.tup .nil) .nil)))) (.cons (.asg (.nm 6) (.bin .mod (.cons (.blt .int (.cons (.bin .add (.cons (.mth .index (.cons (.call 32 .nil) (.cons (.sub (.cons (.nm 1) (.cons (.cst (.int 2)) .nil))) .nil))) (.cons (.cst (.int 1)) .nil))) .nil)) (.cons (.cst (.int 4)) .nil)))) (.cons (.for_ (.nm 7) (.ex (.nm 2)) stBody [7, 9]) (.cons (.ret (.tup (.cons (.blt .tuple (.cons (.pk 3) .nil)) (.cons (.nm 4) (.cons (.nm 6) (.cons (.nm 5) .nil)))))) .nil)))⟩ := rfl
  have hli : bltV .list [deal D] = some (.ow (.lst (D.map hand))) := rfl
  have hkc : (((k + 1) % 4 : Nat) : Int) = ((k : Int) + 1) % 4 := by push_cast; rfl
  rw [r_state, hb]
  unfold stT
  rw [hkc] at h1
  generalize (List.range 4).map seat = St at *
  generalize (hs D p).map hand = HS at *
  generalize D.map hand = DL at *
  generalize hand (trk p) = HT at *
  generalize intT (W s k p) = WT at *
  generalize hand p = H at *
  generalize con lv s k = C at *
  generalize deal D = Dt at *
  generalize seat k = Sk at *
  generalize tn s k p = tnp at *
  have haddI : ∀ a b : Int, bopV .add (.int a) (.int b) = some (.sh (.int (a + b))) := fun _ _ => rfl
  have hmodI : ∀ a : Int, bopV .mod (.int a) (.int 4) = some (.sh (.int (a % 4))) := fun _ => rfl
  have hint : ∀ a : Int, bltV .int [.int a] = some (.sh (.int a)) := fun _ => rfl
  have htup : ∀ l, bltV .tuple [.lst l] = some (.sh (.tup l)) := fun _ => rfl
  simp [runFn, exSs, exS, ev, evB, evs, evT, evI, evO, evC, evP, asg, asgs, Rx.bind, Rx.toR, lift, Sl.val, useAt, slAt, R.toFR, outsOf, truB, setAt, argS, giveBack, FR.toRx, noOuts, ownAt, change, setAll, permute, forget, wipeS, isAny, isOf, cmpV, itemsOf, hse, c2, hmi, hli, haddI, hmodI, hint, htup, fits, sizeMost, ↓h1]
theorem let_ok (n : Nat) {L t : List Nat} (hL : Low L) (hT : Low t) (hl : L.length ≤ 3) : run prog (n + 1) 35 [.sh (hand L), .sh (hand t)] = .ok (.sh (hand (letL L t))) [] := by
  have hcm : ev (Γ n) (.cmpr (.nm 3) [3] (.cons (.nm 3) (.ex (.nm 0)) (.cons (.and (.cmp .ne (.cons (.nm 1) (.cons (.tup .nil) .nil))) (.cmp .eq (.cons (.sub (.cons (.nm 3) (.cons (.cst (.int 0)) .nil))) (.cons (.sub (.cons (.sub (.cons (.nm 1) (.cons (.cst (.int 0)) .nil))) (.cons (.cst (.int 0)) .nil))) .nil)))) .nil) .nil)) [.sh (hand L), .sh (hand t), .no, .no]
      = .ok (.ow (.lst ((L.filter fun c => !t.isEmpty && decide (c / 3 = t.headD 0 / 3)).map card))) [.sh (hand L), .sh (hand t), .no, .no] := by
    refine cmpr_run (g := card) .no rfl (.inl rfl) ?_ (fun x hx => evC_one ?_) (fun x hx _ => ?_) (Nat.le_trans hl (by decide))
    · have hi : itemsOf (hand L) = some (L.map card) := rfl
      generalize hand L = H at *
      simp [runFn, exSs, exS, ev, evB, evs, evT, evI, evO, evC, evP, asg, asgs, Rx.bind, Rx.toR, lift, Sl.val, useAt, slAt, R.toFR, outsOf, truB, setAt, argS, giveBack, FR.toRx, noOuts, ownAt, change, setAll, permute, forget, wipeS, isAny, isOf, bopV, cmpV, subV, placeOf, bltV, itemsOf, ↓hi]
    · have hx := hL x hx
      have f1 := fst_suit hx
      cases t with
      | nil =>
        have e0 : eqT (hand []) (.tup []) = some true := eq_nil_nil.2
        generalize hand [] = H0 at *
        simp [runFn, exSs, exS, ev, evB, evs, evT, evI, evO, evC, evP, asg, asgs, Rx.bind, Rx.toR, lift, Sl.val, useAt, slAt, R.toFR, outsOf, truB, setAt, argS, giveBack, FR.toRx, noOuts, ownAt, change, setAll, permute, forget, wipeS, isAny, isOf, bopV, cmpV, bltV, itemsOf, e0, fits, sizeMost]
      | cons a r =>
        have ha : a < 12 := hT a List.mem_cons_self
        have f2 := fst_suit ha
        have f3 := eq_suits hx ha
        have f4 : subV (hand (a :: r)) (.int 0) = some (card a) := by
          unfold hand
          simp [subV, placeOf]
        have e0 : eqT (hand (a :: r)) (.tup []) = some false := eq_tup_nil (by simp)
        generalize hand (a :: r) = H0 at *
        generalize strn (x / 3) = X3 at *
        generalize strn (a / 3) = A3 at *
        generalize card x = X at *
        simp [runFn, exSs, exS, ev, evB, evs, evT, evI, evO, evC, evP, asg, asgs, Rx.bind, Rx.toR, lift, Sl.val, useAt, slAt, R.toFR, outsOf, truB, setAt, argS, giveBack, FR.toRx, noOuts, ownAt, change, setAll, permute, forget, wipeS, isAny, isOf, bopV, cmpV, bltV, itemsOf, e0, f1, f2, f3, f4, fits, sizeMost]
    · simp [runFn, exSs, exS, ev, evB, evs, evT, evI, evO, evC, evP, asg, asgs, Rx.bind, Rx.toR, lift, Sl.val, useAt, slAt, R.toFR, outsOf, truB, setAt, argS, giveBack, FR.toRx, noOuts, ownAt, change, setAll, permute, forget, wipeS, isAny, isOf, bopV, cmpV, subV, placeOf, bltV, itemsOf]
  unfold letL
  generalize (L.filter fun c => !t.isEmpty && decide (c / 3 = t.headD 0 / 3)) = Sm at *
  have htup : ∀ l, bltV .tuple [.lst l] = some (.sh (.tup l)) := fun _ => rfl
  have hh : hand Sm = .tup (Sm.map card) := rfl
  rw [r_let]
  by_cases hz : Sm = []
  · subst hz
    have e0 := eq_nil_nil.2
    rw [if_neg (fun h => h rfl)]
    simp only [List.map_nil] at hcm
    generalize hand L = H at *
    generalize hand t = Ht at *
    simp [runFn, exSs, exS, ev, evB, evs, evT, evI, evO, evC, evP, asg, asgs, Rx.bind, Rx.toR, lift, Sl.val, useAt, slAt, R.toFR, outsOf, truB, setAt, argS, giveBack, FR.toRx, noOuts, ownAt, change, setAll, permute, forget, wipeS, isAny, isOf, bopV, cmpV, subV, placeOf, itemsOf, d__law_let, htup, ↓hcm, e0, fits, sizeMost]
  · have e0 := eq_tup_nil (L := Sm.map card) (by simpa using hz)
    rw [if_pos hz, hh]
    generalize Sm.map card = SM at *
    generalize hand L = H at *
    generalize hand t = Ht at *
    simp [runFn, exSs, exS, ev, evB, evs, evT, evI, evO, evC, evP, asg, asgs, Rx.bind, Rx.toR, lift, Sl.val, useAt, slAt, R.toFR, outsOf, truB, setAt, argS, giveBack, FR.toRx, noOuts, ownAt, change, setAll, permute, forget, wipeS, isAny, isOf, bopV, cmpV, subV, placeOf, itemsOf, d__law_let, htup, ↓hcm, e0, fits, sizeMost]
theorem next_ok (n : Nat) {D : List (List Nat)} (hD : Deal D) {lv s k : Nat} {p : List Nat} (hc : Con lv s k) (hp : Lg D s k p) : run prog (n + 3) 36 [.sh (deal D), .sh (con lv s k), .sh (hand p)] = .ok (.sh (hand (letN D s k p))) [] := by
  have h1 := state_ok n hD hc hp
  have ht := tn_lt (s := s) (k := k) (d := p)
  obtain ⟨_, s2⟩ := sub_hs hD (p := p) ht
  have hh := (deal_at hD).2.1 _ ht
  have hLow : Low (left (D.getD (tn s k p) []) p) := fun x hx => hh.low x (left_sub hx).1
  have hlen := let_ok (n + 1) hLow (low_trk (low_ok hD hp)) (by rw [← hh.len]; exact List.length_filter_le _ _)
  have hB : letL (left (D.getD (tn s k p) []) p) (trk p) = letB D s k p := rfl
  rw [hB] at hlen
  have hln : bltV .len [hand p] = some (.sh (.int (p.length : Nat))) := by
    unfold hand
    show some (Sl.sh (.int ((p.map card).length : Nat))) = _
    rw [List.length_map]
  rw [r_next]
  unfold letN
  unfold stT at h1
  by_cases hl : p.length < 12
  · have hlt : ltT (.int (p.length : Nat)) (.int 12) = some true := by
      have : ((p.length : Nat) : Int) < 12 := by omega
      simp [ltN, this]
    rw [if_pos hl]
    generalize hand (letB D s k p) = LB at *
    generalize (hs D p).map hand = HS at *
    generalize hand (left (D.getD (tn s k p) []) p) = HL at *
    generalize hand (trk p) = HT at *
    generalize intT (W s k p) = WT at *
    generalize hand p = H at *
    generalize con lv s k = C at *
    generalize deal D = Dt at *
    simp [runFn, exSs, exS, ev, evB, evs, evT, evI, evO, evC, evP, asg, asgs, Rx.bind, Rx.toR, lift, Sl.val, useAt, slAt, R.toFR, outsOf, truB, setAt, argS, giveBack, FR.toRx, noOuts, ownAt, change, setAll, permute, forget, wipeS, isAny, isOf, bopV, cmpV, itemsOf, d__law_next, h1, s2, hlen, hln, hlt]
  · have hlt : ltT (.int (p.length : Nat)) (.int 12) = some false := by
      have : ¬ ((p.length : Nat) : Int) < 12 := by omega
      simp [ltN, this]
    rw [if_neg hl]
    have h0 : hand [] = .tup [] := rfl
    rw [h0]
    generalize (hs D p).map hand = HS at *
    generalize hand (left (D.getD (tn s k p) []) p) = HL at *
    generalize hand (trk p) = HT at *
    generalize intT (W s k p) = WT at *
    generalize hand p = H at *
    generalize con lv s k = C at *
    generalize deal D = Dt at *
    simp [runFn, exSs, exS, ev, evB, evs, evT, evI, evO, evC, evP, asg, asgs, Rx.bind, Rx.toR, lift, Sl.val, useAt, slAt, R.toFR, outsOf, truB, setAt, argS, giveBack, FR.toRx, noOuts, ownAt, change, setAll, permute, forget, wipeS, isAny, isOf, bopV, cmpV, itemsOf, d__law_next, h1, s2, hln, hlt, fits, sizeMost]
theorem dplay_ok (n : Nat) {w : T} (hw : Well w) {D : List (List Nat)} (hD : Deal D) {lv s k : Nat} (hc : Con lv s k) : ∃ (p : List Nat) (w' : T), Lg D s k p ∧ Well w' ∧ run prog (n + 4) 38 [.bo w, .sh (deal D), .sh (con lv s k), .sh (.int 12)] = .ok (.sh (hand p)) [w'] := by
  obtain ⟨q, w1, hq, hw1, ed⟩ := draw_ok (n + 2) hw (lim := 13) (by decide) (by decide)
  have hr := rangeV1 (m := q) (by omega)
  have hh0 : hand [] = .tup [] := rfl
  obtain ⟨τ', h1, w2, p, hw2, e1, e2, rfl⟩ := for_inv1 (Γ := Γ (n + 3)) (τ0 := [.bo w, .sh (deal D), .sh (con lv s k), .sh (.int 12), .sh (.tup []), .no]) (t := .nm 5) (it := .rng (.cons (.call 26 (.cons (.bw 0) (.cons (.bin .add (.cons (.nm 3) (.cons (.cst (.int 1)) .nil))) .nil))) .nil))
    (body := .cons (.asg (.nm 4) (.bin .add (.cons (.nm 4) (.cons (.tup (.cons (.call 27 (.cons (.bw 0) (.cons (.call 36 (.cons (.nm 1) (.cons (.nm 2) (.cons (.nm 4) .nil)))) .nil))) .nil)) .nil)))) .nil) (fg := [5])
    (P := fun d τ => ∃ (w2 : T) (p : List Nat), Well w2 ∧ Lg D s k p ∧ p.length = d.length ∧ τ = [.bo w2, .sh (deal D), .sh (con lv s k), .sh (.int 12), .sh (hand p), .no])
    (items := (List.range q).map fun (k : Nat) => .int (k : Int)) (τ := [.bo w1, .sh (deal D), .sh (con lv s k), .sh (.int 12), .sh (.tup []), .no]) (by
      generalize con lv s k = C at *
      generalize deal D = Dt at *
      have haddI : ∀ a b : Int, bopV .add (.int a) (.int b) = some (.sh (.int (a + b))) := fun _ _ => rfl
      have h13 : (12 : Int) + 1 = ((13 : Nat) : Int) := rfl
      push_cast at ed
      simp [runFn, exSs, exS, ev, evB, evs, evT, evI, evO, evC, evP, asg, asgs, Rx.bind, Rx.toR, lift, Sl.val, useAt, slAt, R.toFR, outsOf, truB, setAt, argS, giveBack, FR.toRx, noOuts, ownAt, change, setAll, permute, forget, wipeS, isAny, isOf, cmpV, itemsOf, haddI, ed, hr]) ⟨w1, [], hw1, .nil, rfl, rfl⟩ (by
    rintro d x r τ e ⟨w2, p, hw2, hp, hl, rfl⟩
    obtain ⟨hd, rfl⟩ := range_at e
    have hp12 : p.length < 12 := by omega
    have h2 := next_ok n hD hc hp
    have hne := has_card hD hp hp12
    have hN : letN D s k p = letB D s k p := if_pos hp12
    rw [hN] at h2
    obtain ⟨t, w3, htm, hw3, e3⟩ := of_ok (n + 1) hw2 (L := (letB D s k p).map card) (by simpa using hne) (by
      rw [List.length_map]
      have ht := tn_lt (s := s) (k := k) (d := p)
      have : (letB D s k p).length ≤ 3 := by
        have hh := (deal_at hD).2.1 _ ht
        have h3 : (left (D.getD (tn s k p) []) p).length ≤ 3 := by rw [← hh.len]; exact List.length_filter_le _ _
        unfold letB letL
        split
        · exact Nat.le_trans (List.length_filter_le _ _) h3
        · exact h3
      omega)
    obtain ⟨y, hy, rfl⟩ := List.mem_map.mp htm
    have hadd := hand_app p y
    rw [fits_of (l := p.map card) (by rw [List.length_map]; omega), fits_of (l := [card y]) (by simp)] at hadd
    simp only [Bool.and_self, if_true] at hadd
    have hh : hand (letB D s k p) = .tup ((letB D s k p).map card) := rfl
    rw [hh] at h2
    refine ⟨_, [.bo w3, .sh (deal D), .sh (con lv s k), .sh (.int 12), .sh (hand (p ++ [y])), .sh (.int (d.length : Nat))], asg_nm rfl, .inl ?_, w3, p ++ [y], hw3, .snoc hp hp12 hy, by simp [hl], rfl⟩
    have hY : fits [card y] = true := fits_of (by simp)
    generalize (letB D s k p).map card = LB at *
    generalize hand (p ++ [y]) = H2 at *
    generalize hand p = H at *
    generalize con lv s k = C at *
    generalize deal D = Dt at *
    generalize card y = Y at *
    simp [runFn, exSs, exS, ev, evB, evs, evT, evI, evO, evC, evP, asg, asgs, Rx.bind, Rx.toR, lift, Sl.val, useAt, slAt, R.toFR, outsOf, truB, setAt, argS, giveBack, FR.toRx, noOuts, ownAt, change, setAll, permute, forget, wipeS, isAny, isOf, cmpV, itemsOf, h2, e3, hadd, hY])
  refine ⟨p, w2, e1, hw2, ?_⟩
  rw [r_dplay]
  generalize hand p = H at *
  generalize con lv s k = C at *
  generalize deal D = Dt at *
  simp [runFn, exSs, exS, ev, evB, evs, evT, evI, evO, evC, evP, asg, asgs, Rx.bind, Rx.toR, lift, Sl.val, useAt, slAt, R.toFR, outsOf, truB, setAt, argS, giveBack, FR.toRx, noOuts, ownAt, change, setAll, permute, forget, wipeS, isAny, isOf, bopV, cmpV, subV, placeOf, bltV, itemsOf, d__law_drawn_play, fits, sizeMost, ↓h1]
end K43
end

section
set_option maxRecDepth 100000
set_option maxHeartbeats 2000000
/-! Law k43: the well, what is the same. -/
namespace K43
open Py
theorem r_same (n : Nat) (as : List Sl) : run prog (n + 1) 29 as = runFn (Γ n) d__law_same as := rfl
def Same (n : Nat) (t : T) : Prop := run prog (n + 1) 29 [.sh t, .sh t] = .ok (.sh (.bl true)) []
theorem same_str (n : Nat) (z : Sy) : Same n (.str z) := by
  unfold Same
  rw [r_same]
  have h : eqT (.str z) (.str z) = some true := by simp [eqN]
  simp [runFn, exSs, exS, ev, evB, evs, evT, evI, evO, evC, evP, asg, asgs, Rx.bind, Rx.toR, lift, Sl.val, useAt, slAt, R.toFR, outsOf, truB, setAt, argS, giveBack, FR.toRx, noOuts, ownAt, change, setAll, permute, forget, wipeS, isAny, isOf, bopV, cmpV, subV, placeOf, bltV, itemsOf, d__law_same, h]
theorem same_tup (n : Nat) {l : List T} (hl : l.length ≤ 100) (h : ∀ t ∈ l, Same n t) : Same (n + 1) (.tup l) := by
  unfold Same
  have hr := rangeV1 (m := l.length) (by omega)
  have hcm : ev (Γ (n + 1)) (.cmpr (.call 29 (.cons (.sub (.cons (.nm 0) (.cons (.nm 2) .nil))) (.cons (.sub (.cons (.nm 1) (.cons (.nm 2) .nil))) .nil))) [2] (.cons (.nm 2) (.rng (.cons (.blt .len (.cons (.nm 1) .nil)) .nil)) .nil .nil)) [.sh (.tup l), .sh (.tup l), .no, .no] = .ok (.ow (.lst ((List.range l.length).map fun _ => .bl true))) [.sh (.tup l), .sh (.tup l), .no, .no] := by
    refine cmpr_run0 (g := fun (i : Nat) => .int (i : Int)) .no rfl (.inl rfl) ?_ (fun x hx => ?_) (by rw [List.length_range]; exact Nat.le_trans hl (by decide))
    · simp [runFn, exSs, exS, ev, evB, evs, evT, evI, evO, evC, evP, asg, asgs, Rx.bind, Rx.toR, lift, Sl.val, useAt, slAt, R.toFR, outsOf, truB, setAt, argS, giveBack, FR.toRx, noOuts, ownAt, change, setAll, permute, forget, wipeS, isAny, isOf, bopV, cmpV, subV, placeOf, bltV, itemsOf, hr]
    · have hx : x < l.length := List.mem_range.mp hx
      have h1 : subV (.tup l) (.int (x : Nat)) = some l[x] := by
        simp only [subV, placeOf]
        rw [if_pos (by omega), if_pos (by omega)]
        simp [hx]
      have h2 : run prog (n + 1) 29 [.sh l[x], .sh l[x]] = .ok (.sh (.bl true)) [] := h _ (List.getElem_mem hx)
      generalize l[x] = Y at *
      simp [runFn, exSs, exS, ev, evB, evs, evT, evI, evO, evC, evP, asg, asgs, Rx.bind, Rx.toR, lift, Sl.val, useAt, slAt, R.toFR, outsOf, truB, setAt, argS, giveBack, FR.toRx, noOuts, ownAt, change, setAll, permute, forget, wipeS, isAny, isOf, bopV, cmpV, bltV, itemsOf, h1, h2]
  have hb : bools ((List.range l.length).map fun _ => T.bl true) = some ((List.range l.length).map fun _ => true) := bools_map (f := fun _ => true)
  have hall : ((List.range l.length).map fun _ => true).all id = true := by simp
  have hne : eqT (.int (l.length : Nat)) (.int (l.length : Nat)) = some true := by simp [eqN]
  rw [r_same]
  generalize ((List.range l.length).map fun _ => T.bl true) = Bs at *
  generalize ((List.range l.length).map fun _ => true) = Bb at *
  simp [runFn, exSs, exS, ev, evB, evs, evT, evI, evO, evC, evP, asg, asgs, Rx.bind, Rx.toR, lift, Sl.val, useAt, slAt, R.toFR, outsOf, truB, setAt, argS, giveBack, FR.toRx, noOuts, ownAt, change, setAll, permute, forget, wipeS, isAny, isOf, bopV, cmpV, subV, placeOf, bltV, itemsOf, d__law_same, ↓hcm, hb, hall, hne]
theorem same_card (n c : Nat) : Same n (card c) := same_str n _
theorem same_seat (n k : Nat) (h : k < 4) : Same n (seat k) := by
  match k, h with
  | 0, _ => exact same_str n _
  | 1, _ => exact same_str n _
  | 2, _ => exact same_str n _
  | 3, _ => exact same_str n _
theorem same_hand (n : Nat) {l : List Nat} (h : l.length ≤ 100) : Same (n + 1) (hand l) := same_tup n (by rw [List.length_map]; exact h) fun t ht => by
  obtain ⟨c, _, rfl⟩ := List.mem_map.mp ht
  exact same_card n c
theorem same_seats (n : Nat) {l : List Nat} (h : l.length ≤ 100) (h4 : ∀ x ∈ l, x < 4) : Same (n + 1) (.tup (l.map seat)) := same_tup n (by rw [List.length_map]; exact h) fun t ht => by
  obtain ⟨c, hc, rfl⟩ := List.mem_map.mp ht
  exact same_seat n c (h4 c hc)
theorem well_ok (n : Nat) (ns : List Int) : ∃ w, Well w ∧ run prog (n + 1) 25 [.sh (.lst (ns.map .int)), .sh (.int 0)] = .ok (.ow w) [] := by
  obtain ⟨τ', h1, x, rfl⟩ := for_inv (Γ := Γ n) (t := .nm 3) (it := .ex (.sli (.nm 0) .no (.ex (.cst (.int 16))))) (body := .cons (.asg (.nm 2) (.bin .mod (.cons (.blt .int (.cons (.bin .add (.cons (.bin .add (.cons (.bin .mul (.cons (.nm 2) (.cons (.cst (.int 48271)) .nil))) (.cons (.bin .mod (.cons (.blt .int (.cons (.nm 3) .nil)) (.cons (.cst (.int 2147483549)) .nil))) .nil))) (.cons (.cst (.int 23)) .nil))) .nil)) (.cons (.cst (.int 2147483587)) .nil)))) .nil) (fg := [3])
    (P := fun d τ => ∃ x : Int, τ = [.sh (.lst (ns.map .int)), .sh (.int 0), .sh (.int x), .no, .no]) (items := (ns.take 16).map .int) (τ := [.sh (.lst (ns.map .int)), .sh (.int 0), .sh (.int 709217), .no, .no]) (by
      have hc : sliV (.lst (ns.map .int)) none (some 16) = some (.ow (.lst ((ns.take 16).map .int))) := by
        show some (Sl.ow (.lst (cut (ns.map T.int) none (some 16)))) = _
        simp only [cut, cutAt, List.length_map]
        rw [if_neg (by decide), List.drop_zero, Nat.sub_zero, ← List.map_take]
        congr 3
        rw [show (16 : Int).toNat = 16 from rfl]
        by_cases h : 16 ≤ ns.length
        · rw [Nat.min_eq_left h]
        · rw [Nat.min_eq_right (by omega), List.take_of_length_le (Nat.le_refl _), List.take_of_length_le (by omega)]
      generalize ns.map T.int = M at *
      generalize (ns.take 16).map T.int = M2 at *
      simp [runFn, exSs, exS, ev, evB, evs, evT, evI, evO, evC, evP, asg, asgs, Rx.bind, Rx.toR, lift, Sl.val, useAt, slAt, R.toFR, outsOf, truB, setAt, argS, giveBack, FR.toRx, noOuts, ownAt, change, setAll, permute, forget, wipeS, isAny, isOf, bopV, cmpV, subV, placeOf, bltV, itemsOf, hc]) ⟨_, rfl⟩ (by
    rintro d y r τ e ⟨x, rfl⟩
    have hy : y ∈ (ns.take 16).map T.int := by rw [e]; simp
    obtain ⟨c, _, rfl⟩ := List.mem_map.mp hy
    generalize ns.map T.int = M at *
    refine ⟨_, [.sh (.lst M), .sh (.int 0), .sh (.int ((x * 48271 + c % 2147483549 + 23) % 2147483587)), .sh (.int c), .no], asg_nm rfl, .inl ?_, _, rfl⟩
    simp [runFn, exSs, exS, ev, evB, evs, evT, evI, evO, evC, evP, asg, asgs, Rx.bind, Rx.toR, lift, Sl.val, useAt, slAt, R.toFR, outsOf, truB, setAt, argS, giveBack, FR.toRx, noOuts, ownAt, change, setAll, permute, forget, wipeS, isAny, isOf, bopV, cmpV, subV, placeOf, bltV, itemsOf])
  have hown : ∃ o : Int, ev (Γ n) (.ife (.cmp .lt (.cons (.nm 1) (.cons (.blt .len (.cons (.nm 0) .nil)) .nil))) (.blt .int (.cons (.sub (.cons (.nm 0) (.cons (.nm 1) .nil))) .nil)) (.cst (.int 0))) [.sh (.lst (ns.map .int)), .sh (.int 0), .sh (.int x), .no, .no] = .ok (.sh (.int o)) [.sh (.lst (ns.map .int)), .sh (.int 0), .sh (.int x), .no, .no] := by
    cases ns with
    | nil => exact ⟨0, by simp [runFn, exSs, exS, ev, evB, evs, evT, evI, evO, evC, evP, asg, asgs, Rx.bind, Rx.toR, lift, Sl.val, useAt, slAt, R.toFR, outsOf, truB, setAt, argS, giveBack, FR.toRx, noOuts, ownAt, change, setAll, permute, forget, wipeS, isAny, isOf, bopV, cmpV, subV, placeOf, bltV, itemsOf, ltT, ltN]⟩
    | cons m ms =>
      refine ⟨m, ?_⟩
      have h1 : ltT (.int 0) (.int ((m :: ms).length : Nat)) = some true := by
        have : (0 : Int) < (((m :: ms).length : Nat) : Int) := by simp
        simp only [ltT, ltN, this, decide_true]
      have h2 : subV (.lst ((m :: ms).map .int)) (.int 0) = some (.int m) := by
        simp only [subV, placeOf, List.length_map]
        rw [if_pos (by omega), if_pos (by simp)]
        rfl
      have h3 : bltV .len [.lst ((m :: ms).map .int)] = some (.sh (.int ((m :: ms).length : Nat))) := by
        show some (Sl.sh (.int (((m :: ms).map T.int).length : Nat))) = _
        rw [List.length_map]
      have h4 : bltV .int [.int m] = some (.sh (.int m)) := rfl
      generalize (m :: ms).map T.int = M at *
      generalize (m :: ms).length = Ln at *
      simp [runFn, exSs, exS, ev, evB, evs, evT, evI, evO, evC, evP, asg, asgs, Rx.bind, Rx.toR, lift, Sl.val, useAt, slAt, R.toFR, outsOf, truB, setAt, argS, giveBack, FR.toRx, noOuts, ownAt, change, setAll, permute, forget, wipeS, isAny, isOf, bopV, cmpV, itemsOf, h1, h2, h3, h4]
  obtain ⟨o, hown⟩ := hown
  generalize ns.map T.int = M at *
  have hres : ∀ y : Int, ∃ z : Int, ev (Γ n) (.ife (.or (.cmp .lt (.cons (.nm 4) (.cons (.cst (.int 0)) .nil))) (.cmp .ge (.cons (.nm 4) (.cons (.bin .pow (.cons (.cst (.int 10)) (.cons (.cst (.int 15)) .nil))) .nil)))) (.bin .mod (.cons (.blt .abs (.cons (.nm 4) .nil)) (.cons (.bin .pow (.cons (.cst (.int 10)) (.cons (.cst (.int 60)) .nil))) .nil))) (.cst (.int 0))) [.sh (.lst M), .sh (.int 0), .sh (.int y), .no, .sh (.int o)] = .ok (.sh (.int z)) [.sh (.lst M), .sh (.int 0), .sh (.int y), .no, .sh (.int o)] := fun y => by
    have p1 : bopV .pow (.int 10) (.int 15) = some (.sh (.int 1000000000000000)) := by simp [bopV]
    have p2 : bopV .pow (.int 10) (.int 60) = some (.sh (.int 1000000000000000000000000000000000000000000000000000000000000)) := by simp [bopV]
    have p3 : bltV .abs [.int o] = some (.sh (.int (o.natAbs : Nat))) := rfl
    have p4 : bopV .mod (.int (o.natAbs : Nat)) (.int 1000000000000000000000000000000000000000000000000000000000000) = some (.sh (.int ((o.natAbs : Int) % 1000000000000000000000000000000000000000000000000000000000000))) := by simp [bopV]
    have p5 : cmpV .lt (.int o) (.int 0) = some (decide (o < 0)) := by simp [cmpV, ltT, ltN]
    have p6 : cmpV .ge (.int o) (.int 1000000000000000) = some (decide ((1000000000000000 : Int) ≤ o)) := rfl
    generalize (1000000000000000000000000000000000000000000000000000000000000 : Int) = Big at *
    generalize (1000000000000000 : Int) = Mid at *
    generalize decide (o < 0) = b1 at *
    generalize decide (Mid ≤ o) = b2 at *
    cases b1 with
    | true => exact ⟨(o.natAbs : Int) % Big, by simp [runFn, exSs, exS, ev, evB, evs, evT, evI, evO, evC, evP, asg, asgs, Rx.bind, Rx.toR, lift, Sl.val, useAt, slAt, R.toFR, outsOf, truB, setAt, argS, giveBack, FR.toRx, noOuts, ownAt, change, setAll, permute, forget, wipeS, isAny, isOf, subV, placeOf, itemsOf, p1, p2, p3, p4, p5, p6]⟩
    | false =>
      cases b2 with
      | true => exact ⟨(o.natAbs : Int) % Big, by simp [runFn, exSs, exS, ev, evB, evs, evT, evI, evO, evC, evP, asg, asgs, Rx.bind, Rx.toR, lift, Sl.val, useAt, slAt, R.toFR, outsOf, truB, setAt, argS, giveBack, FR.toRx, noOuts, ownAt, change, setAll, permute, forget, wipeS, isAny, isOf, subV, placeOf, itemsOf, p1, p2, p3, p4, p5, p6]⟩
      | false => exact ⟨0, by simp [runFn, exSs, exS, ev, evB, evs, evT, evI, evO, evC, evP, asg, asgs, Rx.bind, Rx.toR, lift, Sl.val, useAt, slAt, R.toFR, outsOf, truB, setAt, argS, giveBack, FR.toRx, noOuts, ownAt, change, setAll, permute, forget, wipeS, isAny, isOf, subV, placeOf, itemsOf, p1, p2, p3, p4, p5, p6]⟩
  obtain ⟨z, hz⟩ := hres ((x * 53 + o % 2147483549 * 15013 + 11) % 2147483587)
  refine ⟨.lst [.int z, .int ((x * 53 + o % 2147483549 * 15013 + 11) % 2147483587), .int 0], ⟨_, _, _, rfl⟩, ?_⟩
  have hwp : wipeS [Sl.sh (.lst M), .sh (.int 0), .sh (.int x), .no, .no] [3] = [Sl.sh (.lst M), .sh (.int 0), .sh (.int x), .no, .no] := rfl
  rw [hwp] at h1
  rw [r_well]
  simp [runFn, exSs, exS, ev, evB, evs, evT, evI, evO, evC, evP, asg, asgs, Rx.bind, Rx.toR, lift, Sl.val, useAt, slAt, R.toFR, outsOf, truB, setAt, argS, giveBack, FR.toRx, noOuts, ownAt, change, setAll, permute, forget, wipeS, isAny, isOf, bopV, cmpV, subV, placeOf, bltV, itemsOf, d__law_well, ↓h1, ↓hown, ↓hz, fits, sizeMost]
end K43
end

section
set_option maxRecDepth 100000
set_option maxHeartbeats 2000000
/-! Law k43: the law answers True. -/
namespace K43
open Py
theorem r_right (n : Nat) (as : List Sl) : run prog (n + 1) 39 as = runFn (Γ n) d__law_right as := rfl
theorem r_law (n : Nat) (as : List Sl) : run prog (n + 1) 40 as = runFn (Γ n) d_law as := rfl
theorem letN_len {D : List (List Nat)} (hD : Deal D) (s k : Nat) (p : List Nat) : (letN D s k p).length ≤ 3 := by
  unfold letN
  split
  · have ht := tn_lt (s := s) (k := k) (d := p)
    have hh := (deal_at hD).2.1 _ ht
    have h3 : (left (D.getD (tn s k p) []) p).length ≤ 3 := by rw [← hh.len]; exact List.length_filter_le _ _
    unfold letB letL
    split
    · exact Nat.le_trans (List.length_filter_le _ _) h3
    · exact h3
  · simp
theorem letN_nil (D : List (List Nat)) (s k : Nat) : letN D s k [] = D.getD ((k + 1) % 4) [] := by
  have h1 : letN D s k [] = letB D s k [] := if_pos (by decide)
  rw [h1]
  unfold letB
  rw [tn_nil]
  have h2 : left (D.getD ((k + 1) % 4) []) [] = D.getD ((k + 1) % 4) [] := List.filter_eq_self.mpr fun c _ => rfl
  rw [h2]
  have h3 : trk [] = [] := rfl
  unfold letL
  rw [h3]
  have h4 : ((D.getD ((k + 1) % 4) []).filter fun c => !([] : List Nat).isEmpty && decide (c / 3 = ([] : List Nat).headD 0 / 3)) = [] := List.filter_eq_nil_iff.mpr fun c _ => by simp
  rw [h4]
  rfl
theorem ix_seat {k : Nat} (h : k < 4) : mthV .index [.tup ((List.range 4).map seat), seat k] = some (.sh (.int (k : Nat))) := by
  have hix := ix_map eq_seat h (l := List.range 4) (fun x h => List.mem_range.mp h) (List.mem_range.mpr h)
  have hx : (List.range 4).idxOf k = k := by
    match k, h with
    | 0, _ => rfl
    | 1, _ => rfl
    | 2, _ => rfl
    | 3, _ => rfl
  rw [hx] at hix
  have hdd : ((List.range 4).map seat).all isData0 = true := by decide +kernel
  show (if (isData0 (seat k) && ((List.range 4).map seat).all isData0) = true then (ixTs (seat k) ((List.range 4).map seat)).map (fun (k : Nat) => Sl.sh (.int k)) else none) = _
  rw [seat_data k h, hdd, hix]
  rfl
def rBody : Ss := (.cons (.asg (.nm 4) (.call 37 (.cons (.bw 0) .nil))) (.cons (.asg (.nm 5) (.call 38 (.cons (.bw 0) (.cons (.nm 2) (.cons (.nm 4) (.cons (.cst (.int 12)) .nil)))))) (.cons (.asg (.tup [6, 7, 8, 9]) (.call 33 (.cons (.nm 2) (.cons (.nm 4) (.cons (.nm 5) .nil))))) (.cons (.par (.cons (.nm 10) (.cons (.nm 11) .nil)) (.cons (.call 36 (.cons (.nm 2) (.cons (.nm 4) (.cons (.nm 5) .nil)))) (.cons (.blt .tuple (.cons (.cmpr (.sub (.cons (.call 32 .nil) (.cons (.nm 12) .nil))) [12] (.cons (.nm 12) (.ex (.nm 9)) .nil .nil)) .nil)) .nil))) (.cons (.iff (.not (.call 29 (.cons (.tup (.cons (.call 22 (.cons (.nm 2) (.cons (.nm 4) (.cons (.nm 5) .nil)))) (.cons (.callk 22 [2, 1, 0] (.cons (.nm 5) (.cons (.nm 4) (.cons (.nm 2) .nil)))) .nil))) (.cons (.tup (.cons (.nm 10) (.cons (.nm 10) .nil))) .nil)))) (.cons (.ret (.cst (.bl false))) .nil) .nil) (.cons (.iff (.not (.call 29 (.cons (.tup (.cons (.call 24 (.cons (.nm 2) (.cons (.nm 4) (.cons (.nm 5) .nil)))) (.cons (.callk 24 [2, 1, 0] (.cons (.nm 5) (.cons (.nm 4) (.cons (.nm 2) .nil)))) .nil))) (.cons (.tup (.cons (.nm 11) (.cons (.nm 11) .nil))) .nil)))) (.cons (.ret (.cst (.bl false))) .nil) .nil) (.cons (.iff (.cmp .lt (.cons (.blt .len (.cons (.nm 5) .nil)) (.cons (.cst (.int 12)) .nil))) (.cons (.asg (.nm 13) (.sub (.cons (.call 32 .nil) (.cons (.nm 8) .nil)))) (.cons (.iff (.not (.call 29 (.cons (.tup (.cons (.call 23 (.cons (.nm 2) (.cons (.nm 4) (.cons (.nm 5) .nil)))) (.cons (.callk 23 [2, 1, 0] (.cons (.nm 5) (.cons (.nm 4) (.cons (.nm 2) .nil)))) .nil))) (.cons (.tup (.cons (.nm 13) (.cons (.nm 13) .nil))) .nil)))) (.cons (.ret (.cst (.bl false))) .nil) .nil) .nil)) .nil) (.cons (.asg (.nm 14) (.sub (.cons (.call 32 .nil) (.cons (.bin .mod (.cons (.blt .int (.cons (.bin .add (.cons (.mth .index (.cons (.call 32 .nil) (.cons (.sub (.cons (.nm 4) (.cons (.cst (.int 2)) .nil))) .nil))) (.cons (.cst (.int 1)) .nil))) .nil)) (.cons (.cst (.int 4)) .nil))) .nil)))) (.cons (.iff (.not (.call 29 (.cons (.tup (.cons (.call 23 (.cons (.nm 2) (.cons (.nm 4) (.cons (.tup .nil) .nil)))) (.cons (.call 22 (.cons (.nm 2) (.cons (.nm 4) (.cons (.tup .nil) .nil)))) (.cons (.call 24 (.cons (.nm 2) (.cons (.nm 4) (.cons (.tup .nil) .nil)))) .nil)))) (.cons (.tup (.cons (.nm 14) (.cons (.sub (.cons (.nm 2) (.cons (.mth .index (.cons (.call 32 .nil) (.cons (.nm 14) .nil))) .nil))) (.cons (.tup .nil) .nil)))) .nil)))) (.cons (.ret (.cst (.bl false))) .nil) .nil) .nil)))))))))
theorem right_step (n : Nat) {w : T} (hw : Well w) {D : List (List Nat)} (hD : Deal D) (lap turn : T) : ∃ w' τ, Well w' ∧ exSs (Γ (n + 11)) rBody [.bo w, .sh lap, .sh (deal D), .sh turn, .no, .no, .no, .no, .no, .no, .no, .no, .no, .no, .no] = .nx τ ∧ wipeS τ [3, 4, 5, 6, 7, 8, 9, 10, 11, 13, 14] = [.bo w', .sh lap, .sh (deal D), .no, .no, .no, .no, .no, .no, .no, .no, .no, .no, .no, .no] := by
  obtain ⟨lv, s, k, w1, c1, c2, c3, c4, hw1, e1⟩ := dcon_ok (n + 8) hw
  have hc : Con lv s k := ⟨c1, c2, c3, c4⟩
  obtain ⟨p, w2, hp, hw2, e2⟩ := dplay_ok (n + 7) hw1 hD hc
  have e3 := state_ok (n + 9) hD hc hp
  have e4 := next_ok (n + 8) hD hc hp
  have e5 := letc_ok (n + 1) hD hc hp
  have e6 := wins_ok (n + 1) hD hc hp
  have hse := seats_ok (n + 10)
  have hlen : bltV .len [hand p] = some (.sh (.int (p.length : Nat))) := by
    unfold hand
    show some (Sl.sh (.int ((p.map card).length : Nat))) = _
    rw [List.length_map]
  have s1 : Same (n + 10) (.tup [hand (letN D s k p), hand (letN D s k p)]) := same_tup (n + 9) (by simp) fun t ht => by
    have : t = hand (letN D s k p) := by simpa using ht
    rw [this]
    exact same_hand (n + 8) (Nat.le_trans (letN_len hD s k p) (by decide))
  have s2 : Same (n + 10) (.tup [.tup ((W s k p).map seat), .tup ((W s k p).map seat)]) := same_tup (n + 9) (by simp) fun t ht => by
    have : t = .tup ((W s k p).map seat) := by simpa using ht
    rw [this]
    exact same_seats (n + 8) (Nat.le_trans (W_len s k hp.len) (by decide)) (W_lt s k p)
  have s3 : Same (n + 10) (.tup [seat (tn s k p), seat (tn s k p)]) := same_tup (n + 9) (by simp) fun t ht => by
    have : t = seat (tn s k p) := by simpa using ht
    rw [this]
    exact same_seat (n + 9) _ tn_lt
  have f1 := tplay_ok (n + 1) hD hc (.nil) (by decide)
  have f2 := letc_ok (n + 1) hD hc (.nil)
  have f3 := wins_ok (n + 1) hD hc (.nil)
  have hw0 : W s k [] = [] := rfl
  have hh0 : hand [] = .tup [] := rfl
  rw [tn_nil, hh0] at f1
  rw [letN_nil, hh0] at f2
  rw [hw0, hh0] at f3
  have hk4 : (k + 1) % 4 < 4 := Nat.mod_lt _ (by decide)
  have s4 : Same (n + 10) (.tup [seat ((k + 1) % 4), hand (D.getD ((k + 1) % 4) []), .tup []]) := same_tup (n + 9) (by simp) fun t ht => by
    simp only [List.mem_cons, List.not_mem_nil, or_false] at ht
    rcases ht with rfl | rfl | rfl
    · exact same_seat (n + 9) _ hk4
    · exact same_hand (n + 8) (by rw [((deal_at hD).2.1 _ hk4).len]; decide)
    · exact same_tup (n + 8) (by simp) fun t ht => by cases ht
  have hsub := sub_deal hD hk4
  have hsk := sub_seat hk4
  have hix := ix_seat hk4
  have hixk := ix_seat hc.k
  have hst := sub_seat (tn_lt (s := s) (k := k) (d := p))
  have hkc : (((k + 1) % 4 : Nat) : Int) = ((k : Int) + 1) % 4 := by push_cast; rfl
  rw [hkc] at hsk hsub hix
  have c2' := con2 lv s k
  have hcm : ∀ (a b c d e f : Sl), ev (Γ (n + 11)) (.cmpr (.sub (.cons (.call 32 .nil) (.cons (.nm 12) .nil))) [12] (.cons (.nm 12) (.ex (.nm 9)) .nil .nil)) [a, .sh lap, .sh (deal D), .sh turn, b, c, d, e, f, .sh (.tup (intT (W s k p))), .no, .no, .no, .no, .no] = .ok (.ow (.lst ((W s k p).map seat))) [a, .sh lap, .sh (deal D), .sh turn, b, c, d, e, f, .sh (.tup (intT (W s k p))), .no, .no, .no, .no, .no] := fun a b c d e f => by
    refine cmpr_run0 (g := fun (i : Nat) => .int (i : Int)) .no rfl (.inl rfl) ?_ (fun x hx => ?_) (Nat.le_trans (W_len s k hp.len) (by decide))
    · have hi : itemsOf (.tup (intT (W s k p))) = some ((W s k p).map fun (i : Nat) => .int (i : Int)) := rfl
      generalize intT (W s k p) = WT at *
      simp [runFn, exSs, exS, ev, evB, evs, evT, evI, evO, evC, evP, asg, asgs, Rx.bind, Rx.toR, lift, Sl.val, useAt, slAt, R.toFR, outsOf, truB, setAt, argS, giveBack, FR.toRx, noOuts, ownAt, change, setAll, permute, forget, wipeS, isAny, isOf, bopV, cmpV, subV, placeOf, bltV, itemsOf, ↓hi]
    · have h3 := sub_seat (W_lt s k p x hx)
      generalize (List.range 4).map seat = St at *
      simp [runFn, exSs, exS, ev, evB, evs, evT, evI, evO, evC, evP, asg, asgs, Rx.bind, Rx.toR, lift, Sl.val, useAt, slAt, R.toFR, outsOf, truB, setAt, argS, giveBack, FR.toRx, noOuts, ownAt, change, setAll, permute, forget, wipeS, isAny, isOf, bopV, cmpV, bltV, itemsOf, hse, h3]
  unfold Same at s1 s2 s3 s4
  unfold stT at e3
  have haddI : ∀ a b : Int, bopV .add (.int a) (.int b) = some (.sh (.int (a + b))) := fun _ _ => rfl
  have hmodI : ∀ a : Int, bopV .mod (.int a) (.int 4) = some (.sh (.int (a % 4))) := fun _ => rfl
  have hint : ∀ a : Int, bltV .int [.int a] = some (.sh (.int a)) := fun _ => rfl
  have htup : ∀ l, bltV .tuple [.lst l] = some (.sh (.tup l)) := fun _ => rfl
  have hf2 : ∀ a b : T, fits [a, b] = true := fun a b => fits_of (by simp)
  have hf3 : ∀ a b c : T, fits [a, b, c] = true := fun a b c => fits_of (by simp)
  have hf0 : fits ([] : List T) = true := fits_of (by simp)
  simp only [List.map_nil] at f3
  by_cases hl : p.length < 12
  · have e7 := tplay_ok (n + 1) hD hc hp hl
    have hlt : ltT (.int (p.length : Nat)) (.int 12) = some true := by
      have : ((p.length : Nat) : Int) < 12 := by omega
      simp [ltN, this]
    refine ⟨w2, [.bo w2, .sh lap, .sh (deal D), .sh turn, .sh (con lv s k), .sh (hand p), .sh (.tup ((hs D p).map hand)), .sh (hand (trk p)), .sh (.int (tn s k p : Nat)), .sh (.tup (intT (W s k p))), .sh (hand (letN D s k p)), .sh (.tup ((W s k p).map seat)), .no, .sh (seat (tn s k p)), .sh (seat ((k + 1) % 4))], hw2, ?_, rfl⟩
    generalize hand (letN D s k p) = LN at *
    generalize (W s k p).map seat = WS at *
    generalize intT (W s k p) = WT at *
    generalize (hs D p).map hand = HS at *
    generalize hand (trk p) = HT at *
    generalize hand p = H at *
    generalize hand (D.getD ((k + 1) % 4) []) = HD at *
    generalize seat (tn s k p) = ST at *
    generalize seat ((k + 1) % 4) = SK at *
    generalize (List.range 4).map seat = St at *
    generalize seat k = Sk0 at *
    generalize con lv s k = C at *
    generalize deal D = Dt at *
    generalize tn s k p = tnp at *
    simp [runFn, exSs, exS, ev, evB, evs, evT, evI, evO, evC, evP, asg, asgs, Rx.bind, Rx.toR, lift, Sl.val, useAt, slAt, R.toFR, outsOf, truB, setAt, argS, giveBack, FR.toRx, noOuts, ownAt, change, setAll, permute, forget, wipeS, isAny, isOf, cmpV, itemsOf, rBody, e1, e2, e3, e4, e5, e6, e7, ↓hcm, s1, s2, s3, s4, f1, f2, f3, hse, hsub, hsk, hix, hixk, hst, c2', haddI, hmodI, hint, htup, hlen, hlt, hf2, hf3, hf0]
  · have hlt : ltT (.int (p.length : Nat)) (.int 12) = some false := by
      have : ¬ ((p.length : Nat) : Int) < 12 := by omega
      simp [ltN, this]
    refine ⟨w2, [.bo w2, .sh lap, .sh (deal D), .sh turn, .sh (con lv s k), .sh (hand p), .sh (.tup ((hs D p).map hand)), .sh (hand (trk p)), .sh (.int (tn s k p : Nat)), .sh (.tup (intT (W s k p))), .sh (hand (letN D s k p)), .sh (.tup ((W s k p).map seat)), .no, .no, .sh (seat ((k + 1) % 4))], hw2, ?_, rfl⟩
    generalize hand (letN D s k p) = LN at *
    generalize (W s k p).map seat = WS at *
    generalize intT (W s k p) = WT at *
    generalize (hs D p).map hand = HS at *
    generalize hand (trk p) = HT at *
    generalize hand p = H at *
    generalize hand (D.getD ((k + 1) % 4) []) = HD at *
    generalize seat (tn s k p) = ST at *
    generalize seat ((k + 1) % 4) = SK at *
    generalize (List.range 4).map seat = St at *
    generalize seat k = Sk0 at *
    generalize con lv s k = C at *
    generalize deal D = Dt at *
    generalize tn s k p = tnp at *
    simp [runFn, exSs, exS, ev, evB, evs, evT, evI, evO, evC, evP, asg, asgs, Rx.bind, Rx.toR, lift, Sl.val, useAt, slAt, R.toFR, outsOf, truB, setAt, argS, giveBack, FR.toRx, noOuts, ownAt, change, setAll, permute, forget, wipeS, isAny, isOf, cmpV, itemsOf, rBody, e1, e2, e3, e4, e5, e6, ↓hcm, s1, s2, s3, s4, f1, f2, f3, hse, hsub, hsk, hix, hixk, hst, c2', haddI, hmodI, hint, htup, hlen, hlt, hf2, hf3, hf0]
theorem rng_four : rangeV [.int 4] = some [.int 0, .int 1, .int 2, .int 3] := by rfl
theorem inner_ok (n : Nat) {w : T} (hw : Well w) {D : List (List Nat)} (hD : Deal D) (lap : T) : ∃ w', Well w' ∧ exS (Γ (n + 11)) (.for_ (.nm 3) (.rng (.cons (.cst (.int 4)) .nil)) rBody [3, 4, 5, 6, 7, 8, 9, 10, 11, 13, 14]) [.bo w, .sh lap, .sh (deal D), .no, .no, .no, .no, .no, .no, .no, .no, .no, .no, .no, .no] = .nx [.bo w', .sh lap, .sh (deal D), .no, .no, .no, .no, .no, .no, .no, .no, .no, .no, .no, .no] := by
  obtain ⟨τ', h1, w', hw', rfl⟩ := for_inv (Γ := Γ (n + 11)) (t := .nm 3) (it := .rng (.cons (.cst (.int 4)) .nil)) (body := rBody) (fg := [3, 4, 5, 6, 7, 8, 9, 10, 11, 13, 14])
    (P := fun d τ => ∃ w', Well w' ∧ τ = [.bo w', .sh lap, .sh (deal D), .no, .no, .no, .no, .no, .no, .no, .no, .no, .no, .no, .no]) (items := [.int 0, .int 1, .int 2, .int 3]) (τ := [.bo w, .sh lap, .sh (deal D), .no, .no, .no, .no, .no, .no, .no, .no, .no, .no, .no, .no]) (by simp [runFn, exSs, exS, ev, evB, evs, evT, evI, evO, evC, evP, asg, asgs, Rx.bind, Rx.toR, lift, Sl.val, useAt, slAt, R.toFR, outsOf, truB, setAt, argS, giveBack, FR.toRx, noOuts, ownAt, change, setAll, permute, forget, wipeS, isAny, isOf, bopV, cmpV, subV, placeOf, bltV, itemsOf, rng_four]) ⟨w, hw, rfl⟩ (by
    rintro d x r τ e ⟨w1, hw1, rfl⟩
    obtain ⟨w2, τ2, hw2, e1, e2⟩ := right_step n hw1 hD lap x
    exact ⟨_, τ2, asg_nm rfl, .inl e1, w2, hw2, e2⟩)
  exact ⟨w', hw', h1⟩
theorem right_ok (n : Nat) {w : T} (hw : Well w) : ∃ w', Well w' ∧ run prog (n + 12) 39 [.bo w] = .ok (.sh (.bl true)) [w'] := by
  obtain ⟨τ', h1, w', hw', rfl⟩ := for_inv (Γ := Γ (n + 11)) (t := .nm 1) (it := .rng (.cons (.cst (.int 4)) .nil)) (body := .cons (.asg (.nm 2) (.call 31 (.cons (.bw 0) .nil))) (.cons (.for_ (.nm 3) (.rng (.cons (.cst (.int 4)) .nil)) rBody [3, 4, 5, 6, 7, 8, 9, 10, 11, 13, 14]) .nil)) (fg := [1, 2, 3, 4, 5, 6, 7, 8, 9, 10, 11, 13, 14])
    (P := fun d τ => ∃ w', Well w' ∧ τ = [.bo w', .no, .no, .no, .no, .no, .no, .no, .no, .no, .no, .no, .no, .no, .no]) (items := [.int 0, .int 1, .int 2, .int 3]) (τ := [.bo w, .no, .no, .no, .no, .no, .no, .no, .no, .no, .no, .no, .no, .no, .no]) (by simp [runFn, exSs, exS, ev, evB, evs, evT, evI, evO, evC, evP, asg, asgs, Rx.bind, Rx.toR, lift, Sl.val, useAt, slAt, R.toFR, outsOf, truB, setAt, argS, giveBack, FR.toRx, noOuts, ownAt, change, setAll, permute, forget, wipeS, isAny, isOf, bopV, cmpV, subV, placeOf, bltV, itemsOf, rng_four]) ⟨w, hw, rfl⟩ (by
    rintro d x r τ e ⟨w1, hw1, rfl⟩
    obtain ⟨D, w2, hD, hw2, e1⟩ := deal_ok (n + 8) hw1
    obtain ⟨w3, hw3, e2⟩ := inner_ok n hw2 hD x
    refine ⟨_, [.bo w3, .sh x, .sh (deal D), .no, .no, .no, .no, .no, .no, .no, .no, .no, .no, .no, .no], asg_nm rfl, .inl ?_, w3, hw3, rfl⟩
    generalize deal D = Dt at *
    simp [runFn, exSs, exS, ev, evB, evs, evT, evI, evO, evC, evP, asg, asgs, Rx.bind, Rx.toR, lift, Sl.val, useAt, slAt, R.toFR, outsOf, truB, setAt, argS, giveBack, FR.toRx, noOuts, ownAt, change, setAll, permute, forget, wipeS, isAny, isOf, bopV, cmpV, subV, placeOf, bltV, itemsOf, e1, ↓e2])
  refine ⟨w', hw', ?_⟩
  have hb : d__law_right = ⟨1, 15, .cons (.for_ (.nm 1) (.rng (.cons (.cst (.int 4)) .nil)) (.cons (.asg (.nm 2) (.call 31 (.cons (.bw 0) .nil))) (.cons (.for_ (.nm 3) (.rng (.cons (.cst (.int 4)) .nil)) rBody [3, 4, 5, 6, 7, 8, 9, 10, 11, 13, 14]) .nil)) [1, 2, 3, 4, 5, 6, 7, 8, 9, 10, 11, 13, 14]) (.cons (.ret (.cst (.bl true))) .nil)⟩ := rfl
  rw [r_right, hb]
  show (exSs (Γ (n + 11)) _ [.bo w, .no, .no, .no, .no, .no, .no, .no, .no, .no, .no, .no, .no, .no, .no]).toFR [.bo w] = _
  rw [ss_nx h1]
  simp [runFn, exSs, exS, ev, evB, evs, evT, evI, evO, evC, evP, asg, asgs, Rx.bind, Rx.toR, lift, Sl.val, useAt, slAt, R.toFR, outsOf, truB, setAt, argS, giveBack, FR.toRx, noOuts, ownAt, change, setAll, permute, forget, wipeS, isAny, isOf, bopV, cmpV, subV, placeOf, bltV, itemsOf]
theorem plain (ns : List Int) (h : ns.length ≤ 63) : Py.run prog 60 f_law [.sh (.lst (ns.map .int))] = .ok (.sh (.bl true)) [] := by
  obtain ⟨w, hw, e1⟩ := well_ok 58 ns
  obtain ⟨w', hw', e2⟩ := right_ok 47 hw
  show Py.run prog (59 + 1) 40 _ = _
  rw [r_law]
  generalize ns.map T.int = M at *
  simp [runFn, exSs, exS, ev, evB, evs, evT, evI, evO, evC, evP, asg, asgs, Rx.bind, Rx.toR, lift, Sl.val, useAt, slAt, R.toFR, outsOf, truB, setAt, argS, giveBack, FR.toRx, noOuts, ownAt, change, setAll, permute, forget, wipeS, isAny, isOf, bopV, cmpV, subV, placeOf, bltV, itemsOf, d_law, e1, e2]
end K43
end

section
set_option maxRecDepth 100000
/-! What trees stand for on the abstract heap of the hand layer. -/
namespace Py
open PySem PySem.Spec PyProof.Rows L2
abbrev Hp := L2.Hp
abbrev V := L2.V
abbrev RelV := L2.RelV
/-- what is fixed: the written part, where the defs stand, what a lambda's object is, exceptions that are held -/
structure KI where
  K : PySem.W.Frag
  fadr : Nat → Option Addr
  gf : Nat → Option Addr
  lam : Nat → LF → Prop
  lamNames : Nat → List Str
  pin : Addr → Nat → List V → Prop
/-- a tuple whose object bears no dict of its own -/
def SqU (K : PySem.W.Frag) (G : Hp) (a : Addr) (xs : List V) : Prop :=
  (∃ ob, G a = some (.frz ob (.tup xs)) ∧ ob.cls = .type "tuple" ∧ ob.dict = none) ∨
    ∃ (o : Obj) (its : Array Value) (n : Nat), K.lookup a = some o ∧ o.cls = .type "tuple" ∧ o.dict = none ∧ o.data = .seq its n ∧ its.size ≤ sizeLine ∧ Vals xs its.toList
theorem SqU.t {K : PySem.W.Frag} {G : Hp} {a : Addr} {xs : List V} (h : SqU K G a xs) : SqT K G a xs := by
  rcases h with ⟨ob, h, _⟩ | ⟨o, its, n, h1, h2, _, h3⟩
  · exact .inl (.inr ⟨ob, h⟩)
  · exact .inr ⟨o, its, n, h1, h2, h3⟩
theorem sqU_mono {K : PySem.W.Frag} {G G' : Hp} {a : Addr} {xs : List V} (s : ∀ b o, G b = some o → G' b = some o) (h : SqU K G a xs) : SqU K G' a xs := h.imp (fun ⟨ob, h, r⟩ => ⟨ob, s _ _ h, r⟩) id
def cellHO (oc : Obj) (c : Addr) : HO := .frz oc (.own c)
/-- the captured names' cells hold vs -/
def CellsAt (G : Hp) (cl : List (Str × Addr)) : List Str → List V → Prop
  | [], [] => True
  | x :: xs, v :: vs => (∃ c oc u, cl.lookup x = some c ∧ G c = some (cellHO oc c) ∧ oc.data = .cell (some u) ∧ RelV v u) ∧ CellsAt G cl xs vs
  | _, _ => False
mutual
inductive Rep (I : KI) (G : Hp) : V → T → Prop
  | non : Rep I G .non .non
  | bl (b : Bool) : Rep I G (.bl b) (.bl b)
  | int (i : Int) : Rep I G (.int i) (.int i)
  | str (x : Str) : Rep I G (.str x) (.str x.cps.toList)
  | tup {a : Addr} {xs : List V} {ts : List T} : SqU I.K G a xs → Reps I G xs ts → Rep I G (.ref a) (.tup ts)
  | lst {a : Addr} {xs : List V} {ts : List T} : Rd G a (.lst xs) → Reps I G xs ts → Rep I G (.ref a) (.lst ts)
  | def_ {n : Nat} {f : Addr} : I.gf n = some f → Rep I G (.ref f) (.fn n [])
  | clo {n : Nat} {f : Addr} {F : LF} {vs : List V} {caps : List T} : I.lam n F → G f = some (LamO f F) → G F.c = some (LamX.CodeO F.c F.qual) → CellsAt G F.cl (I.lamNames n) vs → Reps I G vs caps → Rep I G (.ref f) (.fn n caps)
  | exn {a : Addr} {c : Nat} {vs : List V} {ts : List T} : I.pin a c vs → Reps I G vs ts → Rep I G (.ref a) (.exn c ts)
inductive Reps (I : KI) (G : Hp) : List V → List T → Prop
  | nil : Reps I G [] []
  | cons {v : V} {vs : List V} {t : T} {ts : List T} : Rep I G v t → Reps I G vs ts → Reps I G (v :: vs) (t :: ts)
end
section
variable {I : KI} {G G' H H' : Hp}
theorem rd_mono {a : Addr} {u : HO} (s : ∀ b o, G b = some o → G' b = some o) (h : Rd G a u) : Rd G' a u := by
  rcases h with h | ⟨o, h⟩
  · exact .inl (s _ _ h)
  · exact .inr ⟨o, s _ _ h⟩
theorem sqL_mono {K : PySem.W.Frag} {a : Addr} {xs : List V} (s : ∀ b o, G b = some o → G' b = some o) (h : SqL K G a xs) : SqL K G' a xs := h.imp (rd_mono s) id
theorem sqT_mono {K : PySem.W.Frag} {a : Addr} {xs : List V} (s : ∀ b o, G b = some o → G' b = some o) (h : SqT K G a xs) : SqT K G' a xs := h.imp (rd_mono s) id
theorem CellsAt.mono {cl : List (Str × Addr)} (s : ∀ b o, G b = some o → G' b = some o) : ∀ {xs : List Str} {vs : List V}, CellsAt G cl xs vs → CellsAt G' cl xs vs
  | [], [], _ => trivial
  | _ :: _, _ :: _, ⟨⟨c, oc, u, h1, h2, h3, h4⟩, r⟩ => ⟨⟨c, oc, u, h1, s _ _ h2, h3, h4⟩, CellsAt.mono s r⟩
  | [], _ :: _, h => h.elim
  | _ :: _, [], h => h.elim
mutual
theorem Rep.mono (s : ∀ b o, G b = some o → G' b = some o) : ∀ {v : V} {t : T}, Rep I G v t → Rep I G' v t
  | _, _, .non => .non
  | _, _, .bl b => .bl b
  | _, _, .int i => .int i
  | _, _, .str x => .str x
  | _, _, .tup h r => .tup (sqU_mono s h) (Reps.mono s r)
  | _, _, .lst h r => .lst (rd_mono s h) (Reps.mono s r)
  | _, _, .def_ h => .def_ h
  | _, _, .clo h1 h2 h0 h3 r => .clo h1 (s _ _ h2) (s _ _ h0) (h3.mono s) (Reps.mono s r)
  | _, _, .exn h r => .exn h (Reps.mono s r)
theorem Reps.mono (s : ∀ b o, G b = some o → G' b = some o) : ∀ {vs : List V} {ts : List T}, Reps I G vs ts → Reps I G' vs ts
  | _, _, .nil => .nil
  | _, _, .cons h r => .cons (Rep.mono s h) (Reps.mono s r)
end
theorem Reps.length : ∀ {vs : List V} {ts : List T}, Reps I G vs ts → vs.length = ts.length
  | _, _, .nil => rfl
  | _, _, .cons _ r => congrArg (· + 1) (Reps.length r)
theorem Reps.append : ∀ {vs ws : List V} {ts us : List T}, Reps I G vs ts → Reps I G ws us → Reps I G (vs ++ ws) (ts ++ us)
  | _, _, _, _, .nil, h => h
  | _, _, _, _, .cons h r, s => .cons h (Reps.append r s)
theorem Reps.get : ∀ {vs : List V} {ts : List T} {k : Nat} {t : T}, Reps I G vs ts → ts[k]? = some t → ∃ v, vs[k]? = some v ∧ Rep I G v t
  | _, _, k, _, .nil, e => by simp at e
  | _, _, 0, _, .cons h _, e => by simp at e; subst e; exact ⟨_, rfl, h⟩
  | _, _, k + 1, t, .cons _ r, e => by
    obtain ⟨v, e1, h⟩ := Reps.get (k := k) r (by simpa using e)
    exact ⟨v, by simpa using e1, h⟩
theorem Reps.getV : ∀ {vs : List V} {ts : List T} {k : Nat} {v : V}, Reps I G vs ts → vs[k]? = some v → ∃ t, ts[k]? = some t ∧ Rep I G v t
  | _, _, k, _, .nil, e => by simp at e
  | _, _, 0, _, .cons h _, e => by simp at e; subst e; exact ⟨_, rfl, h⟩
  | _, _, k + 1, v, .cons _ r, e => by
    obtain ⟨t, e1, h⟩ := Reps.getV (k := k) r (by simpa using e)
    exact ⟨t, by simpa using e1, h⟩
theorem Reps.take : ∀ {vs : List V} {ts : List T} (n : Nat), Reps I G vs ts → Reps I G (vs.take n) (ts.take n)
  | _, _, 0, _ => .nil
  | _, _, _ + 1, .nil => .nil
  | _, _, n + 1, .cons h r => .cons h (Reps.take n r)
theorem Reps.drop : ∀ {vs : List V} {ts : List T} (n : Nat), Reps I G vs ts → Reps I G (vs.drop n) (ts.drop n)
  | _, _, 0, r => r
  | _, _, _ + 1, .nil => .nil
  | _, _, n + 1, .cons _ r => Reps.drop n r
theorem Reps.set : ∀ {vs : List V} {ts : List T} {v : V} {t : T} (n : Nat), Reps I G vs ts → Rep I G v t → Reps I G (vs.set n v) (ts.set n t)
  | _, _, _, _, _, .nil, _ => .nil
  | _, _, _, _, 0, .cons _ r, q => .cons q r
  | _, _, _, _, n + 1, .cons h r, q => .cons h (Reps.set n r q)
theorem Reps.eraseIdx : ∀ {vs : List V} {ts : List T} (n : Nat), Reps I G vs ts → Reps I G (vs.eraseIdx n) (ts.eraseIdx n)
  | _, _, _, .nil => .nil
  | _, _, 0, .cons _ r => r
  | _, _, n + 1, .cons h r => .cons h (Reps.eraseIdx n r)
theorem Reps.reverse {vs : List V} {ts : List T} (h : Reps I G vs ts) : Reps I G vs.reverse ts.reverse := by
  have key : ∀ {vs : List V} {ts : List T}, Reps I G vs ts → ∀ {ws : List V} {us : List T}, Reps I G ws us → Reps I G (vs.reverseAux ws) (ts.reverseAux us) := by
    intro vs ts h
    induction vs generalizing ts with
    | nil => cases h; intro ws us q; exact q
    | cons v vs ih =>
      cases h with
      | cons h r => intro ws us q; exact ih r (.cons h q)
  exact key h .nil
/-- values that no one else holds: what they are made of, where -/
inductive Own (I : KI) (G H : Hp) : V → T → (Addr → Prop) → Prop
  | lst {a : Addr} {xs : List V} {ts : List T} : H a = some (.lst xs) → Reps I G xs ts → Own I G H (.ref a) (.lst ts) (fun b => b = a)
theorem Own.mono {v : V} {t : T} {F : Addr → Prop} (o : Own I G H v t F) (s : ∀ b o, G b = some o → G' b = some o) (k : ∀ b, F b → H' b = H b) : Own I G' H' v t F := by
  cases o with
  | lst h r => exact .lst ((k _ rfl).trans h) (r.mono s)
theorem Own.there {v : V} {t : T} {F : Addr → Prop} (o : Own I G H v t F) : ∀ b, F b → ∃ o, H b = some o ∧ ∀ ps, o ≠ .tbl ps := by
  cases o with
  | lst h r => intro b e; cases e; exact ⟨_, h, fun ps q => by cases q⟩
/-- what is owned may be frozen -/
theorem Own.freeze {v : V} {t : T} {F : Addr → Prop} (o : Own I G H v t F) (gh : ∀ b o, G b = some o → H b = some o) (nf : ∀ b, F b → G b = none) :
    ∃ G', (∀ b o, G b = some o → G' b = some o) ∧ (∀ b o, G' b = some o → H b = some o) ∧ (∀ b, G' b ≠ none → G b ≠ none ∨ F b) ∧ Rep I G' v t := by
  cases o with
  | @lst a xs ts h r =>
    have e : ∀ b o, G b = some o → upd G a (.lst xs) b = some o := fun b o q => by
      rw [upd_ne (fun z => by rw [z, nf a rfl] at q; cases q)]
      exact q
    refine ⟨upd G a (.lst xs), e, fun b o q => ?_, fun b q => ?_, .lst (.inl upd_same) (r.mono e)⟩
    · by_cases z : b = a
      · rw [z, upd_same] at q
        rw [z, h]
        exact q
      · rw [upd_ne z] at q
        exact gh b o q
    · by_cases z : b = a
      · exact .inr z
      · rw [upd_ne z] at q
        exact .inl q
end
/-! ### the state -/
/-- tables of code objects: those of the maker defs -/
abbrev Tabs := List NdefX.NTab
structure SR (I : KI) (TT : Tabs) (B : Nat → Option V) (Z G : Hp) (τ : List Sl) (fp : Nat → Addr → Prop) (σ : L2.St) (H : Hp) : Prop where
  sub : ∀ b o, G b = some o → H b = some o
  ntb : ∀ b ps, G b ≠ some (.tbl ps)
  sh : ∀ (i : Nat) (t : T), τ[i]? = some (.sh t) → ∃ v, σ[i]? = some (some v) ∧ Rep I G v t
  ow : ∀ (i : Nat) (t : T), τ[i]? = some (.ow t) → ∃ v, σ[i]? = some (some v) ∧ Own I G H v t (fp i)
  bo : ∀ (i : Nat) (t : T), τ[i]? = some (.bo t) → ∃ v, B i = some v ∧ σ[i]? = some (some v) ∧ Own I G H v t (fp i)
  dis : ∀ i j b, fp i b → fp j b → i = j
  out : ∀ i b, fp i b → G b = none ∧ ∃ o, H b = some o ∧ ∀ ps, o ≠ .tbl ps
  emp : ∀ (i : Nat), (∀ t : T, τ[i]? ≠ some (.ow t) ∧ τ[i]? ≠ some (.bo t)) → ∀ b, ¬ fp i b
  len : τ.length = σ.length
  tabs : TabsG TT G H
  up : ∀ b, Z b ≠ none → H b ≠ none
  fr : ∀ (i : Nat) (t : T) b, τ[i]? = some (.ow t) → fp i b → Z b = none
structure Stage (fp : Nat → Addr → Prop) (G H : Hp) (fp' : Nat → Addr → Prop) (G' H' : Hp) : Prop where
  g : ∀ b o, G b = some o → G' b = some o
  h : ∀ b o, H b = some o → (∀ ps, o ≠ .tbl ps) → (∀ i, ¬ fp i b) → H' b = some o
  tb : ∀ b ps, H b = some (.tbl ps) → ∃ ps', H' b = some (.tbl ps')
  n : ∀ b, G' b ≠ none → G b ≠ none ∨ H b = none ∨ ∃ i, fp i b
  o : ∀ i b, fp' i b → fp i b ∨ H b = none
  l : ∀ b, H b ≠ none → H' b ≠ none
section
variable {fp fp' fp'' : Nat → Addr → Prop} {G G' G'' H H' H'' : Hp}
theorem Stage.refl : Stage fp G H fp G H := ⟨fun _ _ h => h, fun _ _ h _ _ => h, fun _ ps h => ⟨ps, h⟩, fun _ h => .inl h, fun i _ h => .inl h, fun _ h => h⟩
theorem Stage.trans (a : Stage fp G H fp' G' H') (b : Stage fp' G' H' fp'' G'' H'') : Stage fp G H fp'' G'' H'' := by
  have back : ∀ c, H' c = none → H c = none := fun c z => by
    cases q : H c with
    | none => rfl
    | some o => exact absurd z (a.l c (by rw [q]; simp))
  refine ⟨fun c o h => b.g c o (a.g c o h), fun c o h nt nf => b.h c o (a.h c o h nt nf) nt fun i q => ?_, fun c ps h => ?_, fun c h => ?_, fun i c h => ?_, fun c h => b.l c (a.l c h)⟩
  · rcases a.o i c q with z | z
    · exact nf i z
    · rw [h] at z; cases z
  · obtain ⟨ps', h1⟩ := a.tb c ps h
    exact b.tb c ps' h1
  · rcases b.n c h with z | z | ⟨i, z⟩
    · exact a.n c z
    · exact .inr (.inl (back c z))
    · rcases a.o i c z with w | w
      · exact .inr (.inr ⟨i, w⟩)
      · exact .inr (.inl w)
  · rcases b.o i c h with z | z
    · exact a.o i c z
    · exact .inr (back c z)
end
/-- a value's answer: G0 H0 .. now; fresh ones are new since H0 -/
inductive RV (I : KI) (H0 : Hp) (fp : Nat → Addr → Prop) (G H : Hp) : V → Sl → Prop
  | sh {v : V} {t : T} : Rep I G v t → RV I H0 fp G H v (.sh t)
  | ow {v : V} {t : T} {F : Addr → Prop} : Own I G H v t F → (∀ b, F b → H0 b = none ∧ G b = none ∧ ∀ i, ¬ fp i b) → RV I H0 fp G H v (.ow t)
section
variable {I : KI} {TT : Tabs} {B : Nat → Option V} {Z G G' H H' : Hp} {τ : List Sl} {fp fp' : Nat → Addr → Prop} {σ : L2.St}
theorem SR.get (s : SR I TT B Z G τ fp σ H) {i : Nat} {t : T} (e : (slAt τ i).val = some t) : ∃ v, σ[i]? = some (some v) ∧ (Rep I G v t ∨ Own I G H v t (fp i)) := by
  unfold slAt at e
  cases q : τ[i]? with
  | none => rw [q] at e; cases e
  | some x =>
    rw [q] at e
    cases x with
    | no => cases e
    | sh u => obtain rfl : u = t := Option.some.inj e; obtain ⟨v, h1, h2⟩ := s.sh i u q; exact ⟨v, h1, .inl h2⟩
    | ow u => obtain rfl : u = t := Option.some.inj e; obtain ⟨v, h1, h2⟩ := s.ow i u q; exact ⟨v, h1, .inr h2⟩
    | bo u => obtain rfl : u = t := Option.some.inj e; obtain ⟨v, _, h1, h2⟩ := s.bo i u q; exact ⟨v, h1, .inr h2⟩
/-- G grows by what is not owned -/
theorem SR.grow (s : SR I TT B Z G τ fp σ H) (g : ∀ b o, G b = some o → G' b = some o) (gh : ∀ b o, G' b = some o → H b = some o) (nt : ∀ b ps, G' b ≠ some (.tbl ps)) (nf : ∀ i b, fp i b → G' b = none) : SR I TT B Z G' τ fp σ H where
  sub := gh
  ntb := nt
  sh := fun i t e => let ⟨v, h1, h2⟩ := s.sh i t e; ⟨v, h1, h2.mono g⟩
  ow := fun i t e => let ⟨v, h1, h2⟩ := s.ow i t e; ⟨v, h1, h2.mono g fun _ _ => rfl⟩
  bo := fun i t e => let ⟨v, h0, h1, h2⟩ := s.bo i t e; ⟨v, h0, h1, h2.mono g fun _ _ => rfl⟩
  dis := s.dis
  out := fun i b h => ⟨nf i b h, (s.out i b h).2⟩
  emp := s.emp
  len := s.len
  tabs := s.tabs.keep g fun _ _ z => z
  up := s.up
  fr := s.fr
/-- H changes beside what is owned or frozen -/
theorem SR.heap (s : SR I TT B Z G τ fp σ H) (k : ∀ b o, H b = some o → (∀ ps, o ≠ .tbl ps) → H' b = some o) (tb : TabsG TT G H') (l : ∀ b, H b ≠ none → H' b ≠ none) : SR I TT B Z G τ fp σ H' where
  sub := fun b o e => k b o (s.sub b o e) fun ps q => s.ntb b ps (by rw [e, q])
  ntb := s.ntb
  sh := s.sh
  ow := fun i t e => let ⟨v, h1, h2⟩ := s.ow i t e; ⟨v, h1, h2.mono (fun _ _ h => h) fun b hb => by
    obtain ⟨o, e1, e2⟩ := h2.there b hb
    rw [e1]
    exact k b o e1 e2⟩
  bo := fun i t e => let ⟨v, h0, h1, h2⟩ := s.bo i t e; ⟨v, h0, h1, h2.mono (fun _ _ h => h) fun b hb => by
    obtain ⟨o, e1, e2⟩ := h2.there b hb
    rw [e1]
    exact k b o e1 e2⟩
  dis := s.dis
  out := fun i b h => by
    obtain ⟨h1, o, e1, e2⟩ := s.out i b h
    exact ⟨h1, o, k b o e1 e2, e2⟩
  emp := s.emp
  len := s.len
  tabs := tb
  up := fun b h => l b (s.up b h)
  fr := s.fr
/-- a new object, frozen or not -/
theorem tabsN_new {p : Addr} {o : HO} (t : TabsG TT G H) (n : H p = none) : TabsG TT G (upd H p o) := t.keep (fun _ _ z => z) fun b ps e => by
  rw [upd_ne (ne_of_none e n)]
  exact e
theorem SR.new (s : SR I TT B Z G τ fp σ H) {p : Addr} {o : HO} (n : H p = none) : SR I TT B Z G τ fp σ (upd H p o) := s.heap (fun b u e _ => by
  rw [upd_ne (ne_of_none e n)]
  exact e) (tabsN_new s.tabs n) fun b h => by
    by_cases z : b = p
    · rw [z, upd_same]; simp
    · rw [upd_ne z]; exact h
theorem SR.newF (s : SR I TT B Z G τ fp σ H) {p : Addr} {o : HO} (n : H p = none) (nt : ∀ ps, o ≠ .tbl ps) : SR I TT B Z (upd G p o) τ fp σ (upd H p o) := by
  have gp : G p = none := by
    cases q : G p with
    | none => rfl
    | some u => rw [s.sub p u q] at n; cases n
  refine (s.new (o := o) n).grow (fun b u e => ?_) (fun b u e => ?_) (fun b ps e => ?_) fun i b h => ?_
  · rw [upd_ne (ne_of_none e gp)]; exact e
  · by_cases z : b = p
    · rw [z, upd_same] at e ⊢; exact e
    · rw [upd_ne z] at e; rw [upd_ne z]; exact s.sub b u e
  · by_cases z : b = p
    · rw [z, upd_same] at e; exact nt ps (Option.some.inj e)
    · rw [upd_ne z] at e; exact s.ntb b ps e
  · obtain ⟨h1, o', h2, _⟩ := s.out i b h
    rw [upd_ne (ne_of_none h2 n)]; exact h1
theorem Stage.new {p : Addr} {o : HO} (n : H p = none) : Stage fp G H fp G (upd H p o) :=
  ⟨fun _ _ h => h, fun b u e _ _ => by rw [upd_ne (ne_of_none e n)]; exact e, fun b ps e => ⟨ps, by rw [upd_ne (ne_of_none e n)]; exact e⟩, fun _ h => .inl h, fun i _ h => .inl h, fun b h => by
    by_cases z : b = p
    · rw [z, upd_same]; simp
    · rw [upd_ne z]; exact h⟩
theorem Stage.newF {p : Addr} {o : HO} (n : H p = none) (gn : G p = none) : Stage fp G H fp (upd G p o) (upd H p o) :=
  ⟨fun b u e => by rw [upd_ne (ne_of_none e gn)]; exact e, (Stage.new (fp := fp) (G := G) n).h, (Stage.new (fp := fp) (G := G) n).tb, fun b h => by
    by_cases z : b = p
    · rw [z]; exact .inr (.inl n)
    · rw [upd_ne z] at h; exact .inl h, fun i _ h => .inl h, (Stage.new (fp := fp) (G := G) n).l⟩
/-- a value, frozen where it was fresh -/
theorem RV.freeze {H0 : Hp} {v : V} {r : Sl} {t : T} (q : RV I H0 fp G H v r) (e : r.val = some t) (s : SR I TT B Z G τ fp σ H) {fp0 : Nat → Addr → Prop} {G0 : Hp} (st : Stage fp0 G0 H0 fp G H) :
    ∃ G', SR I TT B Z G' τ fp σ H ∧ Stage fp0 G0 H0 fp G' H ∧ Rep I G' v t := by
  cases q with
  | sh h => cases e; exact ⟨G, s, st, h⟩
  | ow h hF =>
    cases e
    obtain ⟨G', g1, g2, g3, g4⟩ := h.freeze s.sub fun b hb => (hF b hb).2.1
    refine ⟨G', s.grow g1 g2 (fun b ps z => ?_) (fun i b hb => ?_), ⟨fun b o z => g1 b o (st.g b o z), st.h, st.tb, fun b z => ?_, st.o, st.l⟩, g4⟩
    · by_cases hb : G b = none
      · rcases g3 b (by rw [z]; simp) with w | w
        · exact w hb
        · obtain ⟨o, e1, e2⟩ := h.there b w
          have e3 := g2 b _ z
          rw [e1] at e3
          exact e2 ps (Option.some.inj e3)
      · cases hq : G b with
        | none => exact hb hq
        | some o =>
          have e3 := g1 b o hq
          rw [z] at e3
          exact s.ntb b ps (by rw [hq, ← e3])
    · cases hq : G' b with
      | none => rfl
      | some o =>
        rcases g3 b (by rw [hq]; simp) with w | w
        · exact absurd (s.out i b hb).1 w
        · exact absurd hb ((hF b w).2.2 i)
    · rcases g3 b z with w | w
      · exact st.n b w
      · exact .inr (.inl (hF b w).1)
end
end Py
end

section
set_option maxRecDepth 100000
set_option maxHeartbeats 1000000
/-! == of trees, by the machine's rules. -/
namespace Py
open PySem PySem.Spec PyProof.Rows L2 PySem.SeqAt
theorem relV_inj {x y : V} {u : Value} (h : RelV x u) (k : RelV y u) : x = y := by
  have key : ∀ {x : V} {u : Value}, RelV x u → (match u with | .none => some V.non | .bool b => some (.bl b) | .int i _ => some (.int i) | .str z _ => some (.str z) | .bytes b _ => some (.byt b) | .float b _ => some (.flt b) | .ref a => some (.ref a) | .type n => some (.ty n) | _ => none) = some x := by
    intro x u h
    cases x with
    | non => cases (show u = _ from h); rfl
    | bl b => cases (show u = _ from h); rfl
    | int i => obtain ⟨t, e⟩ := (show ∃ t, u = Value.int i t from h); cases e; rfl
    | str i => obtain ⟨t, e⟩ := (show ∃ t, u = Value.str i t from h); cases e; rfl
    | byt i => obtain ⟨t, e⟩ := (show ∃ t, u = Value.bytes i t from h); cases e; rfl
    | flt i => obtain ⟨t, e⟩ := (show ∃ t, u = Value.float i t from h); cases e; rfl
    | ref a => cases (show u = _ from h); rfl
    | ty a => cases (show u = _ from h); rfl
  have e1 := key h
  have e2 := key k
  rw [e1] at e2
  exact Option.some.inj e2
theorem vals_inj : ∀ {xs ys : List V} {us : List Value}, Vals xs us → Vals ys us → xs = ys
  | _, _, _, .nil, .nil => rfl
  | _, _, _, .cons a as, .cons b bs => by rw [relV_inj a b, vals_inj as bs]
section
variable {I : KI} {X : Cx} {pins : List (Addr × Obj)} {σ : L2.St} {H G : Hp} {s : Shared}
theorem rd_list (J : Inv X pins σ H s) {a : Addr} {xs : List V} (h : Rd H a (.lst xs)) : ∃ (its : List Value) (n : Nat), Vals xs its ∧ xs.length ≤ sizeLine ∧ s.heap.get? a = some { cls := .type "list", data := .seq its.toArray n } := by
  obtain ⟨z, its, n, r, e⟩ := h.ok J.hok
  exact ⟨its, n, r, z, e⟩
theorem isList_of {h : Heap} {a : Addr} {its : List Value} {n : Nat} (e : h.get? a = some { cls := .type "list", data := .seq its.toArray n }) : h.IsList a its.toArray := ⟨_, e, rfl, n, rfl⟩
theorem isTuple_of {h : Heap} {a : Addr} {its : Array Value} (p : IsTup h a its) : h.IsTuple a its := by
  obtain ⟨o, h1, h2, n, h3⟩ := p
  exact ⟨o, h1, h2, n, h3⟩
theorem eqTs_pair {n : Nat} : ∀ {as bs : List T} {k : Bool}, eqTs n as bs = some k → ∃ e : Nat → Bool, (∀ j a b, as[j]? = some a → bs[j]? = some b → eqN n a b = some (e j)) ∧ k = ((List.range (min as.length bs.length)).all e && as.length == bs.length)
  | [], [], k, h => by
    simp only [eqTs] at h; cases h
    exact ⟨fun _ => true, fun j a b ha => by simp at ha, by simp⟩
  | [], _ :: _, k, h => by
    simp only [eqTs] at h; cases h
    exact ⟨fun _ => true, fun j a b ha => by simp at ha, by simp⟩
  | _ :: _, [], k, h => by
    simp only [eqTs] at h; cases h
    exact ⟨fun _ => true, fun j a b ha hb => by simp at hb, by simp⟩
  | a :: as, b :: bs, k, h => by
    simp only [eqTs] at h
    split at h
    · rename_i x y hx hy
      cases h
      obtain ⟨e, h1, h2⟩ := eqTs_pair hy
      refine ⟨fun j => match j with | 0 => x | j + 1 => e j, fun j a' b' ha hb => ?_, ?_⟩
      · cases j with
        | zero => simp at ha hb; subst ha; subst hb; exact hx
        | succ j => exact h1 j a' b' (by simpa using ha) (by simpa using hb)
      · rw [h2]
        simp only [List.length_cons, Nat.succ_min_succ, List.range_succ_eq_map, List.all_cons, List.all_map]
        have : ((as.length + 1 == bs.length + 1) : Bool) = (as.length == bs.length) := by
          rw [Bool.eq_iff_iff]; simp
        rw [this, Bool.and_assoc]
        rfl
    · cases h
theorem eqTs_self {n : Nat} : ∀ {as bs : List T} {k : Bool}, eqTs n as bs = some k → as.length = bs.length → (∀ (j : Nat) (a b : T) (k : Bool), as[j]? = some a → bs[j]? = some b → eqN n a b = some k → k = true) → k = true := by
  intro as bs k h hl hj
  obtain ⟨e, h1, h2⟩ := eqTs_pair h
  rw [h2, Bool.and_eq_true]
  refine ⟨List.all_eq_true.mpr fun j hjm => ?_, by simpa using hl⟩
  have hj1 : j < min as.length bs.length := by simpa using hjm
  have ha : j < as.length := by omega
  have hb : j < bs.length := by omega
  exact hj j as[j] bs[j] _ (List.getElem?_eq_getElem ha) (List.getElem?_eq_getElem hb) (h1 j _ _ (List.getElem?_eq_getElem ha) (List.getElem?_eq_getElem hb))
/-- one value, two trees: equal where told -/
theorem eq_one (hK : I.K = X.K) (J : Inv X pins σ H s) (gh : ∀ b o, G b = some o → H b = some o) : ∀ (n : Nat) (t u : T) (x : V) (k : Bool), Rep I G x t → Rep I G x u → eqN n t u = some k → k = true := by
  have tupOf : ∀ {a : Addr} {xs : List V}, SqU I.K G a xs → ∃ its : List Value, Vals xs its ∧ IsTup s.heap a its.toArray := fun h => by
    rw [hK] at h
    obtain ⟨its, r, p, _⟩ := J.tuple (sqT_mono gh h.t)
    exact ⟨its, r, p⟩
  have lstOf : ∀ {a : Addr} {xs : List V}, Rd G a (.lst xs) → ∃ (its : List Value) (n : Nat), Vals xs its ∧ s.heap.get? a = some { cls := .type "list", data := .seq its.toArray n } := fun h => by
    obtain ⟨its, n, r, _, e⟩ := rd_list J (rd_mono gh h)
    exact ⟨its, n, r, e⟩
  have conf : ∀ {a : Addr} {xs ys : List V}, SqU I.K G a xs → Rd G a (.lst ys) → False := fun h1 h2 => by
    obtain ⟨its, r, o, q1, q2, _⟩ := tupOf h1
    obtain ⟨its2, m, r2, p2⟩ := lstOf h2
    rw [q1] at p2
    cases p2
    exact absurd (show Value.type "list" = Value.type "tuple" from q2) (by decide +kernel)
  intro n
  induction n with
  | zero =>
    intro t u x k h1 h2 e
    cases h1 with
    | non => cases h2; simp [eqN] at e; exact e.symm ▸ rfl
    | bl b => cases h2; simp [eqN] at e; exact e.symm ▸ rfl
    | int b => cases h2; simp [eqN] at e; exact e.symm ▸ rfl
    | str b => cases h2; simp [eqN] at e; exact e.symm ▸ rfl
    | tup hs hr => cases h2 with
      | lst hs2 hr2 => exact (conf hs hs2).elim
      | _ => simp [eqN] at e
    | lst hs hr => cases h2 with
      | tup hs2 hr2 => exact (conf hs2 hs).elim
      | _ => simp [eqN] at e
    | def_ _ => cases h2 <;> simp [eqN] at e
    | clo _ _ _ _ => cases h2 <;> simp [eqN] at e
    | exn _ _ => cases h2 <;> simp [eqN] at e
  | succ n ih =>
    intro t u x k h1 h2 e
    cases h1 with
    | non => cases h2; simp [eqN] at e; exact e.symm ▸ rfl
    | bl b => cases h2; simp [eqN] at e; exact e.symm ▸ rfl
    | int b => cases h2; simp [eqN] at e; exact e.symm ▸ rfl
    | str b => cases h2; simp [eqN] at e; exact e.symm ▸ rfl
    | @tup a xs ts hs hr =>
      obtain ⟨its, r, p⟩ := tupOf hs
      cases h2 with
      | @tup _ ys us hs2 hr2 =>
        obtain ⟨its2, r2, p2⟩ := tupOf hs2
        have ei : its = its2 := by
          obtain ⟨o, q1, _, m1, q2⟩ := p
          obtain ⟨o2, q3, _, m2, q4⟩ := p2
          rw [q1] at q3
          cases q3
          rw [q2] at q4
          simpa using (Data.seq.inj q4).1
        subst ei
        have ex := vals_inj r r2
        subst ex
        simp only [eqN] at e
        refine eqTs_self e (hr.length.symm.trans hr2.length) fun j a' b' k' ha hb hk => ?_
        obtain ⟨v, e1, q1⟩ := hr.get ha
        obtain ⟨w, e2, q2⟩ := hr2.get hb
        rw [e1] at e2
        cases e2
        exact ih _ _ _ _ q1 q2 hk
      | lst hs2 hr2 => exact (conf hs hs2).elim
      | _ => simp [eqN] at e
    | @lst a xs ts hs hr =>
      obtain ⟨its, m, r, p⟩ := lstOf hs
      cases h2 with
      | @lst _ ys us hs2 hr2 =>
        obtain ⟨its2, m2, r2, p2⟩ := lstOf hs2
        rw [p] at p2
        have ei : its = its2 := by
          have := (Data.seq.inj (congrArg Obj.data (Option.some.inj p2))).1
          simpa using this
        subst ei
        have ex := vals_inj r r2
        subst ex
        simp only [eqN] at e
        refine eqTs_self e (hr.length.symm.trans hr2.length) fun j a' b' k' ha hb hk => ?_
        obtain ⟨v, e1, q1⟩ := hr.get ha
        obtain ⟨w, e2, q2⟩ := hr2.get hb
        rw [e1] at e2
        cases e2
        exact ih _ _ _ _ q1 q2 hk
      | tup hs2 hr2 => exact (conf hs2 hs).elim
      | _ => simp [eqN] at e
    | def_ _ => cases h2 <;> simp [eqN] at e
    | clo _ _ _ _ => cases h2 <;> simp [eqN] at e
    | exn _ _ => cases h2 <;> simp [eqN] at e
/-- the kinds that differ, and scalars -/
theorem eq_flat (hK : I.K = X.K) (J : Inv X pins σ H s) (gh : ∀ b o, G b = some o → H b = some o) (n : Nat) (A : Around) (hu : A.units < cLine) (t u : T) (x y : V) (v w : Value) (k : Bool) (h1 : Rep I G x t) (h2 : Rep I G y u) (rx : RelV x v) (ry : RelV y w) (e : eqN n t u = some k)
    (nt : ∀ a b, t = .tup a → u ≠ .tup b) (nl : ∀ a b, t = .lst a → u ≠ .lst b) : EqAt A s v w k ∧ RcAt A s v w k := by
  have tupOf : ∀ {a : Addr} {xs : List V}, SqU I.K G a xs → ∃ its : List Value, Vals xs its ∧ s.heap.IsTuple a its.toArray := fun h => by
    rw [hK] at h
    obtain ⟨its, r, p, _⟩ := J.tuple (sqT_mono gh h.t)
    exact ⟨its, r, isTuple_of p⟩
  have lstOf : ∀ {a : Addr} {xs : List V}, Rd G a (.lst xs) → ∃ its : List Value, Vals xs its ∧ s.heap.IsList a its.toArray := fun h => by
    obtain ⟨its, n, r, _, e⟩ := rd_list J (rd_mono gh h)
    exact ⟨its, r, isList_of e⟩
  cases h1 with
  | non =>
    cases (show v = _ from rx)
    cases h2 with
    | non =>
      cases (show w = _ from ry)
      simp only [eqN] at e
      cases e; exact ⟨EqAt.same _, RcAt.none_none⟩
    | bl b2 =>
      cases (show w = _ from ry)
      simp only [eqN] at e
      cases e; exact ⟨EqAt.none_bool b2, RcAt.none_bool b2⟩
    | int b2 =>
      obtain ⟨t2, rfl⟩ := (show ∃ t, w = Value.int b2 t from ry)
      simp only [eqN] at e
      cases e; exact ⟨EqAt.none_int b2 t2, RcAt.none_int b2 t2⟩
    | str b2 =>
      obtain ⟨t2, rfl⟩ := (show ∃ t, w = Value.str b2 t from ry)
      simp only [eqN] at e
      cases e; exact ⟨EqAt.none_str b2 t2, RcAt.none_str b2 t2⟩
    | @tup a2 xs2 ts2 hs2 hr2 =>
      obtain ⟨its2, r2, p2⟩ := tupOf hs2
      cases (show w = _ from ry)
      simp only [eqN] at e
      cases e; exact ⟨EqAt.none_tuple p2 hu, RcAt.none_tuple p2 hu⟩
    | @lst a2 xs2 ts2 hs2 hr2 =>
      obtain ⟨its2, r2, p2⟩ := lstOf hs2
      cases (show w = _ from ry)
      simp only [eqN] at e
      cases e; exact ⟨EqAt.none_list p2 hu, RcAt.none_list p2 hu⟩
    | _ => simp [eqN] at e
  | bl b1 =>
    cases (show v = _ from rx)
    cases h2 with
    | non =>
      cases (show w = _ from ry)
      simp only [eqN] at e
      cases e; exact ⟨EqAt.bool_none b1, RcAt.bool_none b1⟩
    | bl b2 =>
      cases (show w = _ from ry)
      simp only [eqN] at e
      cases e; exact ⟨EqAt.bool_bool b1 b2, RcAt.bool_bool b1 b2⟩
    | int b2 =>
      obtain ⟨t2, rfl⟩ := (show ∃ t, w = Value.int b2 t from ry)
      simp only [eqN] at e
      cases e; exact ⟨by simpa using EqAt.bool_int b1 b2 t2, by simpa using RcAt.bool_int b1 b2 t2⟩
    | str b2 =>
      obtain ⟨t2, rfl⟩ := (show ∃ t, w = Value.str b2 t from ry)
      simp only [eqN] at e
      cases e; exact ⟨EqAt.bool_str b1 b2 t2, RcAt.bool_str b1 b2 t2⟩
    | @tup a2 xs2 ts2 hs2 hr2 =>
      obtain ⟨its2, r2, p2⟩ := tupOf hs2
      cases (show w = _ from ry)
      simp only [eqN] at e
      cases e; exact ⟨EqAt.bool_tuple b1 p2 hu, RcAt.bool_tuple b1 p2 hu⟩
    | @lst a2 xs2 ts2 hs2 hr2 =>
      obtain ⟨its2, r2, p2⟩ := lstOf hs2
      cases (show w = _ from ry)
      simp only [eqN] at e
      cases e; exact ⟨EqAt.bool_list b1 p2 hu, RcAt.bool_list b1 p2 hu⟩
    | _ => simp [eqN] at e
  | int b1 =>
    obtain ⟨t1, rfl⟩ := (show ∃ t, v = Value.int b1 t from rx)
    cases h2 with
    | non =>
      cases (show w = _ from ry)
      simp only [eqN] at e
      cases e; exact ⟨EqAt.int_none b1 t1, RcAt.int_none b1 t1⟩
    | bl b2 =>
      cases (show w = _ from ry)
      simp only [eqN] at e
      cases e; exact ⟨by simpa using EqAt.int_bool b1 t1 b2, by simpa using RcAt.int_bool b1 t1 b2⟩
    | int b2 =>
      obtain ⟨t2, rfl⟩ := (show ∃ t, w = Value.int b2 t from ry)
      simp only [eqN] at e
      cases e; exact ⟨EqAt.int_int b1 t1 b2 t2, RcAt.int_int b1 t1 b2 t2⟩
    | str b2 =>
      obtain ⟨t2, rfl⟩ := (show ∃ t, w = Value.str b2 t from ry)
      simp only [eqN] at e
      cases e; exact ⟨EqAt.int_str b1 t1 b2 t2, RcAt.int_str b1 t1 b2 t2⟩
    | @tup a2 xs2 ts2 hs2 hr2 =>
      obtain ⟨its2, r2, p2⟩ := tupOf hs2
      cases (show w = _ from ry)
      simp only [eqN] at e
      cases e; exact ⟨EqAt.int_tuple b1 t1 p2 hu, RcAt.int_tuple b1 t1 p2 hu⟩
    | @lst a2 xs2 ts2 hs2 hr2 =>
      obtain ⟨its2, r2, p2⟩ := lstOf hs2
      cases (show w = _ from ry)
      simp only [eqN] at e
      cases e; exact ⟨EqAt.int_list b1 t1 p2 hu, RcAt.int_list b1 t1 p2 hu⟩
    | _ => simp [eqN] at e
  | str b1 =>
    obtain ⟨t1, rfl⟩ := (show ∃ t, v = Value.str b1 t from rx)
    cases h2 with
    | non =>
      cases (show w = _ from ry)
      simp only [eqN] at e
      cases e; exact ⟨EqAt.str_none b1 t1, RcAt.str_none b1 t1⟩
    | bl b2 =>
      cases (show w = _ from ry)
      simp only [eqN] at e
      cases e; exact ⟨EqAt.str_bool b1 t1 b2, RcAt.str_bool b1 t1 b2⟩
    | int b2 =>
      obtain ⟨t2, rfl⟩ := (show ∃ t, w = Value.int b2 t from ry)
      simp only [eqN] at e
      cases e; exact ⟨EqAt.str_int b1 t1 b2 t2, RcAt.str_int b1 t1 b2 t2⟩
    | str b2 =>
      obtain ⟨t2, rfl⟩ := (show ∃ t, w = Value.str b2 t from ry)
      simp only [eqN] at e
      cases e; rw [show (b1.cps.toList == b2.cps.toList) = (b1 == b2) from str_beq b1 b2]; exact ⟨EqAt.str_str b1 t1 b2 t2, RcAt.str_str b1 t1 b2 t2⟩
    | @tup a2 xs2 ts2 hs2 hr2 =>
      obtain ⟨its2, r2, p2⟩ := tupOf hs2
      cases (show w = _ from ry)
      simp only [eqN] at e
      cases e; exact ⟨EqAt.str_tuple b1 t1 p2 hu, RcAt.str_tuple b1 t1 p2 hu⟩
    | @lst a2 xs2 ts2 hs2 hr2 =>
      obtain ⟨its2, r2, p2⟩ := lstOf hs2
      cases (show w = _ from ry)
      simp only [eqN] at e
      cases e; exact ⟨EqAt.str_list b1 t1 p2 hu, RcAt.str_list b1 t1 p2 hu⟩
    | _ => simp [eqN] at e
  | @tup a1 xs1 ts1 hs1 hr1 =>
    obtain ⟨its1, r1, p1⟩ := tupOf hs1
    cases (show v = _ from rx)
    cases h2 with
    | non =>
      cases (show w = _ from ry)
      simp only [eqN] at e
      cases e; exact ⟨EqAt.tuple_none p1 hu, RcAt.tuple_none p1 hu⟩
    | bl b2 =>
      cases (show w = _ from ry)
      simp only [eqN] at e
      cases e; exact ⟨EqAt.tuple_bool b2 p1 hu, RcAt.tuple_bool b2 p1 hu⟩
    | int b2 =>
      obtain ⟨t2, rfl⟩ := (show ∃ t, w = Value.int b2 t from ry)
      simp only [eqN] at e
      cases e; exact ⟨EqAt.tuple_int b2 t2 p1 hu, RcAt.tuple_int b2 t2 p1 hu⟩
    | str b2 =>
      obtain ⟨t2, rfl⟩ := (show ∃ t, w = Value.str b2 t from ry)
      simp only [eqN] at e
      cases e; exact ⟨EqAt.tuple_str b2 t2 p1 hu, RcAt.tuple_str b2 t2 p1 hu⟩
    | @tup a2 xs2 ts2 hs2 hr2 => exact (nt _ _ rfl rfl).elim
    | @lst a2 xs2 ts2 hs2 hr2 =>
      obtain ⟨its2, r2, p2⟩ := lstOf hs2
      cases (show w = _ from ry)
      simp only [eqN] at e
      cases e; exact ⟨EqAt.tuple_list p1 p2 hu, RcAt.tuple_list p1 p2 hu⟩
    | _ => simp [eqN] at e
  | @lst a1 xs1 ts1 hs1 hr1 =>
    obtain ⟨its1, r1, p1⟩ := lstOf hs1
    cases (show v = _ from rx)
    cases h2 with
    | non =>
      cases (show w = _ from ry)
      simp only [eqN] at e
      cases e; exact ⟨EqAt.list_none p1 hu, RcAt.list_none p1 hu⟩
    | bl b2 =>
      cases (show w = _ from ry)
      simp only [eqN] at e
      cases e; exact ⟨EqAt.list_bool b2 p1 hu, RcAt.list_bool b2 p1 hu⟩
    | int b2 =>
      obtain ⟨t2, rfl⟩ := (show ∃ t, w = Value.int b2 t from ry)
      simp only [eqN] at e
      cases e; exact ⟨EqAt.list_int b2 t2 p1 hu, RcAt.list_int b2 t2 p1 hu⟩
    | str b2 =>
      obtain ⟨t2, rfl⟩ := (show ∃ t, w = Value.str b2 t from ry)
      simp only [eqN] at e
      cases e; exact ⟨EqAt.list_str b2 t2 p1 hu, RcAt.list_str b2 t2 p1 hu⟩
    | @tup a2 xs2 ts2 hs2 hr2 =>
      obtain ⟨its2, r2, p2⟩ := tupOf hs2
      cases (show w = _ from ry)
      simp only [eqN] at e
      cases e; exact ⟨EqAt.list_tuple p1 p2 hu, RcAt.list_tuple p1 p2 hu⟩
    | @lst a2 xs2 ts2 hs2 hr2 => exact (nl _ _ rfl rfl).elim
    | _ => simp [eqN] at e
  | _ => cases h2 <;> simp [eqN] at e
/-- the machine's == of two values, as the trees tell it -/
theorem eq_at (hK : I.K = X.K) (J : Inv X pins σ H s) (gh : ∀ b o, G b = some o → H b = some o) : ∀ (n : Nat) (A : Around), A.units + n < cLine → ∀ (t u : T) (x y : V) (v w : Value) (k : Bool), Rep I G x t → Rep I G y u → RelV x v → RelV y w → eqN n t u = some k →
    EqAt A s v w k ∧ RcAt A s v w k := by
  have tupOf : ∀ {a : Addr} {xs : List V}, SqU I.K G a xs → ∃ its : List Value, Vals xs its ∧ s.heap.IsTuple a its.toArray := fun h => by
    rw [hK] at h
    obtain ⟨its, r, p, _⟩ := J.tuple (sqT_mono gh h.t)
    exact ⟨its, r, isTuple_of p⟩
  have lstOf : ∀ {a : Addr} {xs : List V}, Rd G a (.lst xs) → ∃ its : List Value, Vals xs its ∧ s.heap.IsList a its.toArray := fun h => by
    obtain ⟨its, n, r, _, e⟩ := rd_list J (rd_mono gh h)
    exact ⟨its, r, isList_of e⟩
  have refs : ∀ {n : Nat} {A : Around} {a b : Addr} {t u : T} {k : Bool}, Rep I G (.ref a) t → Rep I G (.ref b) u → eqN n t u = some k → RcAt A s (.ref a) (.ref b) k → EqAt A s (.ref a) (.ref b) k := fun {n A a b t u k} h1 h2 e rc => by
    by_cases z : a = b
    · subst z
      have := eq_one hK J gh n t u _ k h1 h2 e
      subst this
      exact EqAt.same _
    · exact EqAt.of_refs z rc
  intro n
  induction n with
  | zero =>
    intro A hA t u x y v w k h1 h2 rx ry e
    refine eq_flat hK J gh 0 A (by omega) t u x y v w k h1 h2 rx ry e (fun a b e1 e2 => ?_) fun a b e1 e2 => ?_
    · rw [e1, e2] at e; simp [eqN] at e
    · rw [e1, e2] at e; simp [eqN] at e
  | succ n ih =>
    intro A hA t u x y v w k h1 h2 rx ry e
    have hu : A.units < cLine := by omega
    have hA1 : A.in1.units + n < cLine := by
      show A.units + 1 + n < cLine
      omega
    by_cases ht : ∃ a b, t = .tup a ∧ u = .tup b
    · obtain ⟨ta, tb, rfl, rfl⟩ := ht
      cases h1 with
      | @tup a xs _ hs hr =>
      cases h2 with
      | @tup b ys _ hs2 hr2 =>
      cases (show v = _ from rx)
      cases (show w = _ from ry)
      obtain ⟨its, r, p⟩ := tupOf hs
      obtain ⟨its2, r2, p2⟩ := tupOf hs2
      obtain ⟨f, f1, f2⟩ := eqTs_pair (show eqTs n ta tb = some k by simpa only [eqN] using e)
      have rc : RcAt A s (.ref a) (.ref b) k := by
        have l1 : its.length = ta.length := r.length.symm.trans hr.length
        have l2 : its2.length = tb.length := r2.length.symm.trans hr2.length
        have := RcAt.tuples (A := A) (e := f) p p2 hu fun j h3 h4 => by
          have j1 : j < ta.length := by simpa [l1] using h3
          have j2 : j < tb.length := by simpa [l2] using h4
          obtain ⟨z1, e1, q1⟩ := hr.get (List.getElem?_eq_getElem j1)
          obtain ⟨z2, e2, q2⟩ := hr2.get (List.getElem?_eq_getElem j2)
          obtain ⟨w1, g1, s1⟩ := r.get e1
          obtain ⟨w2, g2, s2⟩ := r2.get e2
          have k1 : its.toArray[j] = w1 := by
            have := List.getElem?_eq_some_iff.mp g1
            obtain ⟨_, hh⟩ := this
            simpa using hh
          have k2 : its2.toArray[j] = w2 := by
            have := List.getElem?_eq_some_iff.mp g2
            obtain ⟨_, hh⟩ := this
            simpa using hh
          rw [k1, k2]
          exact (ih A.in1 hA1 _ _ z1 z2 w1 w2 _ q1 q2 s1 s2 (f1 j _ _ (List.getElem?_eq_getElem j1) (List.getElem?_eq_getElem j2))).1
        rw [f2, ← l1, ← l2]
        simpa using this
      exact ⟨refs (.tup hs hr) (.tup hs2 hr2) e rc, rc⟩
    · by_cases hl : ∃ a b, t = .lst a ∧ u = .lst b
      · obtain ⟨ta, tb, rfl, rfl⟩ := hl
        cases h1 with
        | @lst a xs _ hs hr =>
        cases h2 with
        | @lst b ys _ hs2 hr2 =>
        cases (show v = _ from rx)
        cases (show w = _ from ry)
        obtain ⟨its, r, p⟩ := lstOf hs
        obtain ⟨its2, r2, p2⟩ := lstOf hs2
        obtain ⟨f, f1, f2⟩ := eqTs_pair (show eqTs n ta tb = some k by simpa only [eqN] using e)
        have l1 : its.length = ta.length := r.length.symm.trans hr.length
        have l2 : its2.length = tb.length := r2.length.symm.trans hr2.length
        have rc : RcAt A s (.ref a) (.ref b) k := by
          by_cases hz : its.toArray.size = its2.toArray.size
          · have := RcAt.lists (A := A) (e := f) p p2 hz hu fun j h3 h4 => by
              have j1 : j < ta.length := by simpa [l1] using h3
              have j2 : j < tb.length := by simpa [l2] using h4
              obtain ⟨z1, e1, q1⟩ := hr.get (List.getElem?_eq_getElem j1)
              obtain ⟨z2, e2, q2⟩ := hr2.get (List.getElem?_eq_getElem j2)
              obtain ⟨w1, g1, s1⟩ := r.get e1
              obtain ⟨w2, g2, s2⟩ := r2.get e2
              have k1 : its.toArray[j] = w1 := by
                have := List.getElem?_eq_some_iff.mp g1
                obtain ⟨_, hh⟩ := this
                simpa using hh
              have k2 : its2.toArray[j] = w2 := by
                have := List.getElem?_eq_some_iff.mp g2
                obtain ⟨_, hh⟩ := this
                simpa using hh
              rw [k1, k2]
              exact (ih A.in1 hA1 _ _ z1 z2 w1 w2 _ q1 q2 s1 s2 (f1 j _ _ (List.getElem?_eq_getElem j1) (List.getElem?_eq_getElem j2))).1
            have hz2 : ta.length = tb.length := by simpa [l1, l2] using hz
            have e3 : k = (List.range its.toArray.size).all f := by
              rw [f2, ← hz2, Nat.min_self, beq_self_eq_true, Bool.and_true]
              simp [l1]
            rw [e3]
            exact this
          · have e3 : k = false := by
              rw [f2, ← l1, ← l2]
              have : (its.length == its2.length) = false := beq_eq_false_iff_ne.mpr (by simpa using hz)
              rw [this, Bool.and_false]
            rw [e3]
            exact RcAt.lists_lengths p p2 (by simpa using hz) hu
        exact ⟨refs (.lst hs hr) (.lst hs2 hr2) e rc, rc⟩
      · exact eq_flat hK J gh (n + 1) A hu t u x y v w k h1 h2 rx ry e (fun a b e1 e2 => ht ⟨a, b, e1, e2⟩) fun a b e1 e2 => hl ⟨a, b, e1, e2⟩
end
end Py
end

section
set_option maxRecDepth 100000
set_option maxHeartbeats 1000000
/-! Operations on values. -/
namespace Py
open PySem PySem.Spec PyProof.Rows L2 PySem.SeqAt
abbrev VK := L2.VK
/-- what an operation may hand back -/
inductive Out (I : KI) (G H : Hp) : V → Hp → Hp → Sl → Prop
  | old {v : V} {t : T} : Rep I G v t → Out I G H v G H (.sh t)
  | tup {p : Addr} {xs : List V} {ts : List T} {ob : Obj} : H p = none → Reps I G xs ts → ob.cls = .type "tuple" → ob.dict = none → Out I G H (.ref p) (upd G p (.frz ob (.tup xs))) (upd H p (.frz ob (.tup xs))) (.sh (.tup ts))
  | lst {p : Addr} {xs : List V} {ts : List T} : H p = none → Reps I G xs ts → Out I G H (.ref p) G (upd H p (.lst xs)) (.ow (.lst ts))
def RepO (I : KI) (G H : Hp) (v : V) (t : T) : Prop := Rep I G v t ∨ ∃ F, Own I G H v t F
section
variable {I : KI} {TT : Tabs} {B : Nat → Option V} {Z G H H0 G0 : Hp} {τ : List Sl} {fp fp0 : Nat → Addr → Prop} {σ : L2.St}
theorem g_none (gh : ∀ b o, G b = some o → H b = some o) {p : Addr} (n : H p = none) : G p = none := by
  cases q : G p with
  | none => rfl
  | some u => rw [gh p u q] at n; cases n
theorem out_ok {v : V} {G' H' : Hp} {r : Sl} (o : Out I G H v G' H' r) (s : SR I TT B Z G τ fp σ H) (st : Stage fp0 G0 H0 fp G H) : SR I TT B Z G' τ fp σ H' ∧ Stage fp0 G0 H0 fp G' H' ∧ RV I H0 fp G' H' v r := by
  cases o with
  | old h => exact ⟨s, st, .sh h⟩
  | @tup p xs ts ob n h hc hd =>
    have gn := g_none s.sub n
    refine ⟨s.newF n (fun ps z => by cases z), st.trans (.newF n gn), .sh (.tup (.inl ⟨ob, upd_same, hc, hd⟩) (h.mono fun b u e => ?_))⟩
    rw [upd_ne (ne_of_none e gn)]
    exact e
  | @lst p xs ts n h =>
    refine ⟨s.new n, st.trans (.new n), .ow (.lst upd_same h) fun b e => ?_⟩
    cases e
    refine ⟨?_, g_none s.sub n, fun i q => ?_⟩
    · cases q : H0 p with
      | none => rfl
      | some u => exact absurd n (st.l p (by rw [q]; simp))
    · obtain ⟨_, o, h2, _⟩ := s.out i p q
      rw [n] at h2; cases h2
theorem repO_H (gh : ∀ b o, G b = some o → H b = some o) {v : V} {t : T} (h : RepO I G H v t) : Rep I H v t := by
  rcases h with h | ⟨F, h⟩
  · exact h.mono gh
  · cases h with
    | lst h r => exact .lst (.inl h) (r.mono gh)
theorem repO_lst (gh : ∀ b o, G b = some o → H b = some o) {v : V} {ts : List T} (h : RepO I G H v (.lst ts)) : ∃ a xs, v = .ref a ∧ Rd H a (.lst xs) ∧ Reps I G xs ts := by
  rcases h with h | ⟨F, h⟩
  · cases h with
    | lst h r => exact ⟨_, _, rfl, rd_mono gh h, r⟩
  · cases h with
    | lst h r => exact ⟨_, _, rfl, .inl h, r⟩
theorem repO_tup (gh : ∀ b o, G b = some o → H b = some o) {v : V} {ts : List T} (h : RepO I G H v (.tup ts)) : ∃ a xs, v = .ref a ∧ SqU I.K H a xs ∧ Reps I G xs ts ∧ Rep I G v (.tup ts) := by
  rcases h with h | ⟨F, h⟩
  · cases h with
    | tup h r => exact ⟨_, _, rfl, sqU_mono gh h, r, .tup h r⟩
  · cases h
theorem repO_int {v : V} {i : Int} (h : RepO I G H v (.int i)) : v = .int i := by
  rcases h with h | ⟨F, h⟩ <;> cases h
  rfl
theorem repO_bl {v : V} {i : Bool} (h : RepO I G H v (.bl i)) : v = .bl i := by
  rcases h with h | ⟨F, h⟩ <;> cases h
  rfl
theorem repO_non {v : V} (h : RepO I G H v .non) : v = .non := by
  rcases h with h | ⟨F, h⟩ <;> cases h
  rfl
theorem repO_str {v : V} {z : Sy} (h : RepO I G H v (.str z)) : v = .str ⟨z.toArray⟩ := by
  rcases h with h | ⟨F, h⟩
  · cases h with
    | str x => simp
  · cases h
theorem rep_str (z : Sy) : Rep I G (.str ⟨z.toArray⟩) (.str z) := by
  have := Rep.str (I := I) (G := G) ⟨z.toArray⟩
  simpa using this
end
/-! ### two-place operators -/
def rB (I : KI) (g : T → T → Option Sl) : R2 := fun x y H Q => ∃ G tx ty r, (∀ b o, G b = some o → H b = some o) ∧ RepO I G H x tx ∧ RepO I G H y ty ∧ g tx ty = some r ∧ ∀ v G' H', Out I G H v G' H' r → Q v H'
def opA : Bop → Operator
  | .add => .Add | .sub => .Sub | .mul => .Mult | .fdiv => .FloorDiv | .mod => .Mod | .pow => .Pow | .band => .BitAnd | .bor => .BitOr | .shl => .LShift
theorem fits_le {α : Type} {l : List α} (h : fits l = true) : l.length ≤ sizeMost := of_decide_eq_true h
theorem two_le {a b : Nat} (h1 : a ≤ sizeMost) (h2 : b ≤ sizeMost) : a + b ≤ sizeLine := by
  show a + b ≤ 2 ^ 24
  have : sizeMost = 1048576 := rfl
  omega
theorem one_le {a : Nat} (h1 : a ≤ sizeMost) : a ≤ sizeLine := by
  show a ≤ 2 ^ 24
  have : sizeMost = 1048576 := rfl
  omega
section
variable {I : KI} {X : Cx}
theorem str_app (a b : Sy) : (⟨a.toArray⟩ : Str) ++ (⟨b.toArray⟩ : Str) = ⟨(a ++ b).toArray⟩ := by
  show (⟨a.toArray ++ b.toArray⟩ : Str) = _
  simp
theorem len_str (a : Sy) : Str.length ⟨a.toArray⟩ = a.length := by
  show a.toArray.size = _
  simp
theorem tnew {pins : List (Addr × Obj)} {σ : L2.St} {H : Hp} {s : Shared} {xs : List V} {its : List Value} {t' : Nat} (J : Inv X pins σ H s) (r : Vals xs its) (hz : xs.length ≤ sizeLine) :
    Inv X pins σ (upd H s.heap.objs.size (.frz { cls := .type "tuple", data := .seq its.toArray } (.tup xs))) { s with heap := s.heap.push { cls := .type "tuple", data := .seq its.toArray }, toks := t' } :=
  J.laid (fun _ _ q => Heap.get?_push_of_some _ q) (Nat.le_refl _) ⟨Heap.get?_push_size _ rfl, hz, its, r, IsTup.new _ _⟩
theorem bop_ok (hK : I.K = X.K) : ∀ o, o ∉ [Bop.band, .bor, .shl] → OpR X (binaryOp (opA o)) (rB I (bopV o)) := by
  intro o ho pins s σ H x y v u Q J rx ry h
  obtain ⟨G, tx, ty, r, gh, hx, hy, hg, q⟩ := h
  cases o with
  | add =>
    cases tx <;> cases ty <;> (try (simp only [bopV, reduceCtorEq] at hg; done))
    · cases repO_int hx; cases repO_int hy
      cases hg
      exact op_add pins s σ H _ _ v u Q J rx ry ⟨_, _, rfl, rfl, q _ _ _ (.old (.int _))⟩
    · rename_i a b
      cases repO_str hx; cases repO_str hy
      simp only [bopV] at hg
      split at hg
      · rename_i hf
        rw [Bool.and_eq_true] at hf
        cases hg
        refine op_add_str pins s σ H _ _ v u Q J rx ry ⟨_, _, rfl, rfl, ?_, ?_⟩
        · rw [len_str, len_str]; exact two_le (fits_le hf.1) (fits_le hf.2)
        · rw [str_app]; exact q _ _ _ (.old (rep_str _))
      · cases hg
    · rename_i a b
      obtain ⟨p, xs, rfl, s1, r1, k1⟩ := repO_tup gh hx
      obtain ⟨p', ys, rfl, s2, r2, k2⟩ := repO_tup gh hy
      simp only [bopV] at hg
      split at hg
      · rename_i hf
        rw [Bool.and_eq_true] at hf
        cases hg
        rw [hK] at s1 s2
        cases (show v = _ from rx)
        cases (show u = _ from ry)
        obtain ⟨its, z1, p1, _⟩ := J.tuple s1.t
        obtain ⟨its2, z2, p2, _⟩ := J.tuple s2.t
        have l1 : xs.length + ys.length ≤ sizeLine := by rw [r1.length, r2.length]; exact two_le (fits_le hf.1) (fits_le hf.2)
        by_cases hx0 : its = []
        · subst hx0
          cases z1
          cases r1
          exact cat_tup0 p1 p2 ⟨.ref p', H, J, rfl, q _ _ _ (.old k2)⟩
        · refine HT.cat_tup p1 p2 hx0 (fun e => ?_) (fun e => ?_) (by rw [← z1.length, ← z2.length]; exact l1)
          · subst e
            cases z2
            cases r2
            exact ⟨.ref p, H, J, rfl, q _ _ _ (.old (show Rep I G (.ref p) (.tup (a ++ [])) by rw [List.append_nil]; exact k1))⟩
          · exact ⟨.ref s.heap.objs.size, _, tnew (t' := s.toks) J (z1.append z2) (by rw [List.length_append]; exact l1), rfl, q _ _ _ (.tup J.fresh (r1.append r2) rfl rfl)⟩
      · cases hg
    · rename_i a b
      obtain ⟨p, xs, rfl, s1, r1⟩ := repO_lst gh hx
      obtain ⟨p2, ys, rfl, s2, r2⟩ := repO_lst gh hy
      simp only [bopV] at hg
      split at hg
      · rename_i hf
        rw [Bool.and_eq_true] at hf
        cases hg
        cases (show v = _ from rx)
        cases (show u = _ from ry)
        obtain ⟨its, n, z1, _, e1⟩ := rd_list J s1
        obtain ⟨its2, n2, z2, _, e2⟩ := rd_list J s2
        have l1 : xs.length + ys.length ≤ sizeLine := by rw [r1.length, r2.length]; exact two_le (fits_le hf.1) (fits_le hf.2)
        refine PySem.P.add_list e1 e2 ?_ (by rw [List.size_toArray, List.size_toArray, ← z1.length, ← z2.length]; exact l1)
        have ea : its.toArray ++ its2.toArray = (its ++ its2).toArray := by simp
        rw [ea]
        exact ⟨.ref _, _, J.lnew (t' := s.toks) (z1.append z2) (by rw [List.length_append]; exact l1), rfl, q _ _ _ (.lst J.fresh (r1.append r2))⟩
      · cases hg
  | sub =>
    cases tx <;> cases ty <;> (try (simp only [bopV, reduceCtorEq] at hg; done))
    cases repO_int hx; cases repO_int hy
    cases hg
    exact op_sub pins s σ H _ _ v u Q J rx ry ⟨_, _, rfl, rfl, q _ _ _ (.old (.int _))⟩
  | mul =>
    cases tx <;> cases ty <;> (try (simp only [bopV, reduceCtorEq] at hg; done))
    · cases repO_int hx; cases repO_int hy
      simp only [bopV] at hg
      split at hg
      · rename_i hf
        cases hg
        refine op_mul pins s σ H _ _ v u Q J rx ry ⟨_, _, rfl, rfl, ?_, q _ _ _ (.old (.int _))⟩
        rw [Bool.or_eq_true, decide_eq_true_eq, decide_eq_true_eq] at hf
        rcases hf with hf | hf
        · exact .inl ⟨by omega, by omega⟩
        · exact .inr ⟨by omega, by omega⟩
      · cases hg
  | fdiv =>
    cases tx <;> cases ty <;> (try (simp only [bopV, reduceCtorEq] at hg; done))
    cases repO_int hx; cases repO_int hy
    simp only [bopV] at hg
    split at hg
    · rename_i hf
      rw [Bool.and_eq_true, decide_eq_true_eq, decide_eq_true_eq] at hf
      cases hg
      exact op_fdiv pins s σ H _ _ v u Q J rx ry ⟨_, _, rfl, rfl, hf, q _ _ _ (.old (.int _))⟩
    · cases hg
  | mod =>
    cases tx <;> cases ty <;> (try (simp only [bopV, reduceCtorEq] at hg; done))
    cases repO_int hx; cases repO_int hy
    simp only [bopV] at hg
    split at hg
    · rename_i hf
      rw [decide_eq_true_eq] at hf
      cases hg
      exact op_mod pins s σ H _ _ v u Q J rx ry ⟨_, _, rfl, rfl, hf, q _ _ _ (.old (.int _))⟩
    · cases hg
  | pow =>
    cases tx <;> cases ty <;> (try (simp only [bopV, reduceCtorEq] at hg; done))
    cases repO_int hx; cases repO_int hy
    simp only [bopV] at hg
    split at hg
    · rename_i hf
      simp only [Bool.and_eq_true, decide_eq_true_eq] at hf
      cases hg
      refine op_pow pins s σ H _ _ v u Q J rx ry ⟨_, _, rfl, rfl, ⟨hf.1.1, by omega, ?_⟩, q _ _ _ (.old (.int _))⟩
      exact Nat.lt_trans hf.2 (by decide)
    · cases hg
  | band => exact absurd (by simp) ho
  | bor => exact absurd (by simp) ho
  | shl => exact absurd (by simp) ho
end
end Py
end

section
set_option maxRecDepth 100000
set_option maxHeartbeats 1000000
/-! != of trees. -/
namespace Py
open PySem PySem.Spec PyProof.Rows L2 PySem.SeqAt
section
variable {I : KI} {X : Cx} {pins : List (Addr × Obj)} {σ : L2.St} {H G : Hp} {s : Shared}
/-- the kinds that differ, and scalars -/
theorem ne_flat (hK : I.K = X.K) (J : Inv X pins σ H s) (gh : ∀ b o, G b = some o → H b = some o) (n : Nat) (A : Around) (hu : A.units < cLine) (t u : T) (x y : V) (v w : Value) (k : Bool) (h1 : Rep I G x t) (h2 : Rep I G y u) (rx : RelV x v) (ry : RelV y w) (e : eqN n t u = some k)
    (nt : ∀ a b, t = .tup a → u ≠ .tup b) (nl : ∀ a b, t = .lst a → u ≠ .lst b) : RcNeAt A s v w (!k) := by
  have tupOf : ∀ {a : Addr} {xs : List V}, SqU I.K G a xs → ∃ its : List Value, Vals xs its ∧ s.heap.IsTuple a its.toArray := fun h => by
    rw [hK] at h
    obtain ⟨its, r, p, _⟩ := J.tuple (sqT_mono gh h.t)
    exact ⟨its, r, isTuple_of p⟩
  have lstOf : ∀ {a : Addr} {xs : List V}, Rd G a (.lst xs) → ∃ its : List Value, Vals xs its ∧ s.heap.IsList a its.toArray := fun h => by
    obtain ⟨its, n, r, _, e⟩ := rd_list J (rd_mono gh h)
    exact ⟨its, r, isList_of e⟩
  cases h1 with
  | non =>
    cases (show v = _ from rx)
    cases h2 with
    | non =>
      cases (show w = _ from ry)
      simp only [eqN] at e
      cases e; exact RcNeAt.none_none
    | bl b2 =>
      cases (show w = _ from ry)
      simp only [eqN] at e
      cases e; exact RcNeAt.none_bool b2
    | int b2 =>
      obtain ⟨t2, rfl⟩ := (show ∃ t, w = Value.int b2 t from ry)
      simp only [eqN] at e
      cases e; exact RcNeAt.none_int b2 t2
    | str b2 =>
      obtain ⟨t2, rfl⟩ := (show ∃ t, w = Value.str b2 t from ry)
      simp only [eqN] at e
      cases e; exact RcNeAt.none_str b2 t2
    | @tup a2 xs2 ts2 hs2 hr2 =>
      obtain ⟨its2, r2, p2⟩ := tupOf hs2
      cases (show w = _ from ry)
      simp only [eqN] at e
      cases e; exact RcNeAt.none_tuple p2 hu
    | @lst a2 xs2 ts2 hs2 hr2 =>
      obtain ⟨its2, r2, p2⟩ := lstOf hs2
      cases (show w = _ from ry)
      simp only [eqN] at e
      cases e; exact RcNeAt.none_list p2 hu
    | _ => simp [eqN] at e
  | bl b1 =>
    cases (show v = _ from rx)
    cases h2 with
    | non =>
      cases (show w = _ from ry)
      simp only [eqN] at e
      cases e; exact RcNeAt.bool_none b1
    | bl b2 =>
      cases (show w = _ from ry)
      simp only [eqN] at e
      cases e; exact RcNeAt.bool_bool b1 b2
    | int b2 =>
      obtain ⟨t2, rfl⟩ := (show ∃ t, w = Value.int b2 t from ry)
      simp only [eqN] at e
      cases e; exact (by simpa using RcNeAt.bool_int b1 b2 t2)
    | str b2 =>
      obtain ⟨t2, rfl⟩ := (show ∃ t, w = Value.str b2 t from ry)
      simp only [eqN] at e
      cases e; exact RcNeAt.bool_str b1 b2 t2
    | @tup a2 xs2 ts2 hs2 hr2 =>
      obtain ⟨its2, r2, p2⟩ := tupOf hs2
      cases (show w = _ from ry)
      simp only [eqN] at e
      cases e; exact RcNeAt.bool_tuple b1 p2 hu
    | @lst a2 xs2 ts2 hs2 hr2 =>
      obtain ⟨its2, r2, p2⟩ := lstOf hs2
      cases (show w = _ from ry)
      simp only [eqN] at e
      cases e; exact RcNeAt.bool_list b1 p2 hu
    | _ => simp [eqN] at e
  | int b1 =>
    obtain ⟨t1, rfl⟩ := (show ∃ t, v = Value.int b1 t from rx)
    cases h2 with
    | non =>
      cases (show w = _ from ry)
      simp only [eqN] at e
      cases e; exact RcNeAt.int_none b1 t1
    | bl b2 =>
      cases (show w = _ from ry)
      simp only [eqN] at e
      cases e; exact (by simpa using RcNeAt.int_bool b1 t1 b2)
    | int b2 =>
      obtain ⟨t2, rfl⟩ := (show ∃ t, w = Value.int b2 t from ry)
      simp only [eqN] at e
      cases e; exact RcNeAt.int_int b1 t1 b2 t2
    | str b2 =>
      obtain ⟨t2, rfl⟩ := (show ∃ t, w = Value.str b2 t from ry)
      simp only [eqN] at e
      cases e; exact RcNeAt.int_str b1 t1 b2 t2
    | @tup a2 xs2 ts2 hs2 hr2 =>
      obtain ⟨its2, r2, p2⟩ := tupOf hs2
      cases (show w = _ from ry)
      simp only [eqN] at e
      cases e; exact RcNeAt.int_tuple b1 t1 p2 hu
    | @lst a2 xs2 ts2 hs2 hr2 =>
      obtain ⟨its2, r2, p2⟩ := lstOf hs2
      cases (show w = _ from ry)
      simp only [eqN] at e
      cases e; exact RcNeAt.int_list b1 t1 p2 hu
    | _ => simp [eqN] at e
  | str b1 =>
    obtain ⟨t1, rfl⟩ := (show ∃ t, v = Value.str b1 t from rx)
    cases h2 with
    | non =>
      cases (show w = _ from ry)
      simp only [eqN] at e
      cases e; exact RcNeAt.str_none b1 t1
    | bl b2 =>
      cases (show w = _ from ry)
      simp only [eqN] at e
      cases e; exact RcNeAt.str_bool b1 t1 b2
    | int b2 =>
      obtain ⟨t2, rfl⟩ := (show ∃ t, w = Value.int b2 t from ry)
      simp only [eqN] at e
      cases e; exact RcNeAt.str_int b1 t1 b2 t2
    | str b2 =>
      obtain ⟨t2, rfl⟩ := (show ∃ t, w = Value.str b2 t from ry)
      simp only [eqN] at e
      cases e; rw [show (b1.cps.toList == b2.cps.toList) = (b1 == b2) from str_beq b1 b2]; exact RcNeAt.str_str b1 t1 b2 t2
    | @tup a2 xs2 ts2 hs2 hr2 =>
      obtain ⟨its2, r2, p2⟩ := tupOf hs2
      cases (show w = _ from ry)
      simp only [eqN] at e
      cases e; exact RcNeAt.str_tuple b1 t1 p2 hu
    | @lst a2 xs2 ts2 hs2 hr2 =>
      obtain ⟨its2, r2, p2⟩ := lstOf hs2
      cases (show w = _ from ry)
      simp only [eqN] at e
      cases e; exact RcNeAt.str_list b1 t1 p2 hu
    | _ => simp [eqN] at e
  | @tup a1 xs1 ts1 hs1 hr1 =>
    obtain ⟨its1, r1, p1⟩ := tupOf hs1
    cases (show v = _ from rx)
    cases h2 with
    | non =>
      cases (show w = _ from ry)
      simp only [eqN] at e
      cases e; exact RcNeAt.tuple_none p1 hu
    | bl b2 =>
      cases (show w = _ from ry)
      simp only [eqN] at e
      cases e; exact RcNeAt.tuple_bool b2 p1 hu
    | int b2 =>
      obtain ⟨t2, rfl⟩ := (show ∃ t, w = Value.int b2 t from ry)
      simp only [eqN] at e
      cases e; exact RcNeAt.tuple_int b2 t2 p1 hu
    | str b2 =>
      obtain ⟨t2, rfl⟩ := (show ∃ t, w = Value.str b2 t from ry)
      simp only [eqN] at e
      cases e; exact RcNeAt.tuple_str b2 t2 p1 hu
    | @tup a2 xs2 ts2 hs2 hr2 => exact (nt _ _ rfl rfl).elim
    | @lst a2 xs2 ts2 hs2 hr2 =>
      obtain ⟨its2, r2, p2⟩ := lstOf hs2
      cases (show w = _ from ry)
      simp only [eqN] at e
      cases e; exact RcNeAt.tuple_list p1 p2 hu
    | _ => simp [eqN] at e
  | @lst a1 xs1 ts1 hs1 hr1 =>
    obtain ⟨its1, r1, p1⟩ := lstOf hs1
    cases (show v = _ from rx)
    cases h2 with
    | non =>
      cases (show w = _ from ry)
      simp only [eqN] at e
      cases e; exact RcNeAt.list_none p1 hu
    | bl b2 =>
      cases (show w = _ from ry)
      simp only [eqN] at e
      cases e; exact RcNeAt.list_bool b2 p1 hu
    | int b2 =>
      obtain ⟨t2, rfl⟩ := (show ∃ t, w = Value.int b2 t from ry)
      simp only [eqN] at e
      cases e; exact RcNeAt.list_int b2 t2 p1 hu
    | str b2 =>
      obtain ⟨t2, rfl⟩ := (show ∃ t, w = Value.str b2 t from ry)
      simp only [eqN] at e
      cases e; exact RcNeAt.list_str b2 t2 p1 hu
    | @tup a2 xs2 ts2 hs2 hr2 =>
      obtain ⟨its2, r2, p2⟩ := tupOf hs2
      cases (show w = _ from ry)
      simp only [eqN] at e
      cases e; exact RcNeAt.list_tuple p1 p2 hu
    | @lst a2 xs2 ts2 hs2 hr2 => exact (nl _ _ rfl rfl).elim
    | _ => simp [eqN] at e
  | _ => cases h2 <;> simp [eqN] at e
theorem ne_at (hK : I.K = X.K) (J : Inv X pins σ H s) (gh : ∀ b o, G b = some o → H b = some o) : ∀ (n : Nat) (A : Around), A.units + n < cLine → ∀ (t u : T) (x y : V) (v w : Value) (k : Bool), Rep I G x t → Rep I G y u → RelV x v → RelV y w → eqN n t u = some k →
    RcNeAt A s v w (!k) := by
  have tupOf : ∀ {a : Addr} {xs : List V}, SqU I.K G a xs → ∃ its : List Value, Vals xs its ∧ s.heap.IsTuple a its.toArray := fun h => by
    rw [hK] at h
    obtain ⟨its, r, p, _⟩ := J.tuple (sqT_mono gh h.t)
    exact ⟨its, r, isTuple_of p⟩
  have lstOf : ∀ {a : Addr} {xs : List V}, Rd G a (.lst xs) → ∃ its : List Value, Vals xs its ∧ s.heap.IsList a its.toArray := fun h => by
    obtain ⟨its, n, r, _, e⟩ := rd_list J (rd_mono gh h)
    exact ⟨its, r, isList_of e⟩
  intro n
  cases n with
  | zero =>
    intro A hA t u x y v w k h1 h2 rx ry e
    refine ne_flat hK J gh 0 A (by omega) t u x y v w k h1 h2 rx ry e (fun a b e1 e2 => ?_) fun a b e1 e2 => ?_
    · rw [e1, e2] at e; simp [eqN] at e
    · rw [e1, e2] at e; simp [eqN] at e
  | succ n =>
    intro A hA t u x y v w k h1 h2 rx ry e
    have hu : A.units < cLine := by omega
    have hA1 : A.in1.units + n < cLine := by
      show A.units + 1 + n < cLine
      omega
    have pts : ∀ {xs ys : List V} {its its2 : List Value} {ta tb : List T} {f : Nat → Bool}, Reps I G xs ta → Reps I G ys tb → Vals xs its → Vals ys its2 → (∀ (j : Nat) (a b : T), ta[j]? = some a → tb[j]? = some b → eqN n a b = some (f j)) →
        ∀ j (h3 : j < its.toArray.size) (h4 : j < its2.toArray.size), EqAt A.in1 s its.toArray[j] its2.toArray[j] (f j) := fun {xs ys its its2 ta tb f} hr hr2 r r2 f1 j h3 h4 => by
      have l1 : its.length = ta.length := r.length.symm.trans hr.length
      have l2 : its2.length = tb.length := r2.length.symm.trans hr2.length
      have j1 : j < ta.length := by simpa [l1] using h3
      have j2 : j < tb.length := by simpa [l2] using h4
      obtain ⟨z1, e1, q1⟩ := hr.get (List.getElem?_eq_getElem j1)
      obtain ⟨z2, e2, q2⟩ := hr2.get (List.getElem?_eq_getElem j2)
      obtain ⟨w1, g1, s1⟩ := r.get e1
      obtain ⟨w2, g2, s2⟩ := r2.get e2
      have k1 : its.toArray[j] = w1 := by
        obtain ⟨_, hh⟩ := List.getElem?_eq_some_iff.mp g1
        simpa using hh
      have k2 : its2.toArray[j] = w2 := by
        obtain ⟨_, hh⟩ := List.getElem?_eq_some_iff.mp g2
        simpa using hh
      rw [k1, k2]
      exact (eq_at hK J gh n A.in1 hA1 _ _ z1 z2 w1 w2 _ q1 q2 s1 s2 (f1 j _ _ (List.getElem?_eq_getElem j1) (List.getElem?_eq_getElem j2))).1
    by_cases ht : ∃ a b, t = .tup a ∧ u = .tup b
    · obtain ⟨ta, tb, rfl, rfl⟩ := ht
      cases h1 with
      | @tup a xs _ hs hr =>
      cases h2 with
      | @tup b ys _ hs2 hr2 =>
      cases (show v = _ from rx)
      cases (show w = _ from ry)
      obtain ⟨its, r, p⟩ := tupOf hs
      obtain ⟨its2, r2, p2⟩ := tupOf hs2
      obtain ⟨f, f1, f2⟩ := eqTs_pair (show eqTs n ta tb = some k by simpa only [eqN] using e)
      have l1 : its.length = ta.length := r.length.symm.trans hr.length
      have l2 : its2.length = tb.length := r2.length.symm.trans hr2.length
      have := RcNeAt.tuples (A := A) (e := f) p p2 hu (pts hr hr2 r r2 f1)
      rw [f2, ← l1, ← l2]
      simpa using this
    · by_cases hl : ∃ a b, t = .lst a ∧ u = .lst b
      · obtain ⟨ta, tb, rfl, rfl⟩ := hl
        cases h1 with
        | @lst a xs _ hs hr =>
        cases h2 with
        | @lst b ys _ hs2 hr2 =>
        cases (show v = _ from rx)
        cases (show w = _ from ry)
        obtain ⟨its, r, p⟩ := lstOf hs
        obtain ⟨its2, r2, p2⟩ := lstOf hs2
        obtain ⟨f, f1, f2⟩ := eqTs_pair (show eqTs n ta tb = some k by simpa only [eqN] using e)
        have l1 : its.length = ta.length := r.length.symm.trans hr.length
        have l2 : its2.length = tb.length := r2.length.symm.trans hr2.length
        by_cases hz : its.toArray.size = its2.toArray.size
        · have := RcNeAt.lists (A := A) (e := f) p p2 hz hu (pts hr hr2 r r2 f1)
          have hz2 : ta.length = tb.length := by simpa [l1, l2] using hz
          have e3 : k = (List.range its.toArray.size).all f := by
            rw [f2, ← hz2, Nat.min_self, beq_self_eq_true, Bool.and_true]
            simp [l1]
          rw [e3]
          exact this
        · have e3 : k = false := by
            rw [f2, ← l1, ← l2]
            have : (its.length == its2.length) = false := beq_eq_false_iff_ne.mpr (by simpa using hz)
            rw [this, Bool.and_false]
          rw [e3]
          exact RcNeAt.lists_lengths p p2 (by simpa using hz) hu
      · exact ne_flat hK J gh (n + 1) A hu t u x y v w k h1 h2 rx ry e (fun a b e1 e2 => ht ⟨a, b, e1, e2⟩) fun a b e1 e2 => hl ⟨a, b, e1, e2⟩
end
end Py
end

section
set_option maxRecDepth 100000
set_option maxHeartbeats 1000000
/-! Comparisons. -/
namespace Py
open PySem PySem.Spec PyProof.Rows L2 PySem.SeqAt
def cmpA : Cop → CmpOp
  | .eq => .Eq | .ne => .NotEq | .lt => .Lt | .le => .LtE | .gt => .Gt | .ge => .GtE | .in_ => .In | .nin => .NotIn | .is_ => .Is | .isn => .IsNot
theorem ltSy_eq : ∀ a b : Sy, ltSy a b = decide (a < b)
  | [], [] => by simp [ltSy]
  | [], _ :: _ => by simp [ltSy]
  | _ :: _, [] => by simp [ltSy]
  | a :: as, b :: bs => by
    simp only [ltSy, List.cons_lt_cons_iff]
    by_cases h : a = b
    · subst h
      simp [ltSy_eq as bs]
    · simp [h]
theorem eqsTo_spec {x : T} : ∀ {l : List T} {bs : List Bool}, eqsTo x l = some bs → bs.length = l.length ∧ ∀ (j : Nat) (t : T) (b : Bool), l[j]? = some t → bs[j]? = some b → eqT t x = some b
  | [], bs, h => by
    simp only [eqsTo] at h; cases h
    exact ⟨rfl, fun j t b ht => by simp at ht⟩
  | y :: ys, bs, h => by
    simp only [eqsTo] at h
    split at h
    · rename_i b0 bs0 h1 h2
      cases h
      obtain ⟨l1, l2⟩ := eqsTo_spec h2
      refine ⟨by simp [l1], fun j t b ht hb => ?_⟩
      cases j with
      | zero => simp at ht hb; subst ht; subst hb; exact h1
      | succ j => exact l2 j t b (by simpa using ht) (by simpa using hb)
    · cases h
section
variable {I : KI} {X : Cx} {pins : List (Addr × Obj)} {σ : L2.St} {H G : Hp} {s : Shared}
open Classical in
/-- which items are equal to x, by value -/
noncomputable def hitAt (items : List Value) (bs : List Bool) (y : Value) : Bool := decide (∃ j : Nat, items[j]? = some y ∧ bs[j]? = some true)
theorem hitAt_iff {items : List Value} {bs : List Bool} {y : Value} : hitAt items bs y = true ↔ ∃ j : Nat, items[j]? = some y ∧ bs[j]? = some true := by
  unfold hitAt
  simp
theorem hits (hK : I.K = X.K) (J : Inv X pins σ H s) (gh : ∀ b o, G b = some o → H b = some o) {A : Around} (hA : A.units + deepMost < cLine) {x : T} {vx : V} {v : Value} {xs : List V} {ts : List T} {items : List Value} {bs : List Bool} (h1 : Rep I G vx x) (rx : RelV vx v) (hr : Reps I G xs ts) (r : Vals xs items) (e : eqsTo x ts = some bs) :
    (∀ y, y ∈ items.toArray → EqAt A s y v (hitAt items bs y)) ∧ items.toArray.any (hitAt items bs) = bs.any id := by
  obtain ⟨l1, l2⟩ := eqsTo_spec e
  have lt : items.length = ts.length := r.length.symm.trans hr.length
  have at_ : ∀ (j : Nat) (y : Value) (b : Bool), items[j]? = some y → bs[j]? = some b → EqAt A s y v b := fun j y b hy hb => by
    have hj : j < ts.length := by rw [← lt]; exact (List.getElem?_eq_some_iff.mp hy).1
    obtain ⟨z, e1, q1⟩ := hr.get (List.getElem?_eq_getElem hj)
    obtain ⟨w, e2, q2⟩ := r.get e1
    rw [hy] at e2
    cases e2
    exact (eq_at hK J gh deepMost A hA _ _ z vx y v b q1 h1 q2 rx (l2 j _ b (List.getElem?_eq_getElem hj) hb)).1
  have hit : ∀ (j : Nat) (y : Value) (b : Bool), items[j]? = some y → bs[j]? = some b → b = true → hitAt items bs y = true := fun j y b hy hb e => by
    subst e
    exact hitAt_iff.mpr ⟨j, hy, hb⟩
  constructor
  · intro y hy
    obtain ⟨j, hj⟩ := List.getElem?_of_mem (by simpa using hy : y ∈ items)
    have hjl : j < bs.length := by rw [l1, ← lt]; exact (List.getElem?_eq_some_iff.mp hj).1
    cases q : hitAt items bs y with
    | true =>
      obtain ⟨i, h3, h4⟩ := hitAt_iff.mp q
      exact at_ i y true h3 h4
    | false =>
      have hb : bs[j]? = some bs[j] := List.getElem?_eq_getElem hjl
      cases z : bs[j] with
      | true =>
        rw [z] at hb
        rw [hit j y true hj hb rfl] at q
        cases q
      | false =>
        rw [z] at hb
        exact at_ j y false hj hb
  · rw [Bool.eq_iff_iff]
    simp only [List.any_toArray, List.any_eq_true, id]
    constructor
    · rintro ⟨y, hy, hq⟩
      obtain ⟨i, _, h4⟩ := hitAt_iff.mp hq
      exact ⟨true, List.mem_of_getElem? h4, rfl⟩
    · rintro ⟨b, hb, hq⟩
      obtain ⟨j, hj⟩ := List.getElem?_of_mem hb
      have hjl : j < items.length := by rw [lt, ← l1]; exact (List.getElem?_eq_some_iff.mp hj).1
      exact ⟨items[j], List.getElem_mem hjl, hit j _ b (List.getElem?_eq_getElem hjl) hj hq⟩
end
theorem ltTs_pair {n : Nat} : ∀ {as bs : List T} {k : Bool}, ltTs n as bs = some k → ∃ e r : Nat → Bool, (∀ (j : Nat) (a b : T), as[j]? = some a → bs[j]? = some b → eqN n a b = some (e j) ∧ (e j = false → ltN n a b = some (r j))) ∧ k = firstLt e r (decide (as.length < bs.length)) (List.range (min as.length bs.length))
  | [], [], k, h => by
    simp only [ltTs] at h; cases h
    exact ⟨fun _ => true, fun _ => true, fun j a b ha => by simp at ha, by simp [firstLt]⟩
  | [], _ :: _, k, h => by
    simp only [ltTs] at h; cases h
    exact ⟨fun _ => true, fun _ => true, fun j a b ha => by simp at ha, by simp [firstLt]⟩
  | _ :: _, [], k, h => by
    simp only [ltTs] at h; cases h
    exact ⟨fun _ => true, fun _ => true, fun j a b ha hb => by simp at hb, by simp [firstLt]⟩
  | a :: as, b :: bs, k, h => by
    simp only [ltTs] at h
    have shift : ∀ (e r : Nat → Bool) (x y : Bool) (fin : Bool) (m : Nat), firstLt (fun j => match j with | 0 => x | j + 1 => e j) (fun j => match j with | 0 => y | j + 1 => r j) fin ((List.range m).map Nat.succ) = firstLt e r fin (List.range m) := by
      intro e r x y fin m
      generalize List.range m = l
      induction l with
      | nil => rfl
      | cons j t ih => simp only [List.map_cons, firstLt, ih]
    have hd : decide ((a :: as).length < (b :: bs).length) = decide (as.length < bs.length) := by simp
    split at h
    · rename_i k' hx hy
      cases h
      obtain ⟨e, r, h1, h2⟩ := ltTs_pair hy
      refine ⟨fun j => match j with | 0 => true | j + 1 => e j, fun j => match j with | 0 => true | j + 1 => r j, fun j a' b' ha hb => ?_, ?_⟩
      · cases j with
        | zero => simp at ha hb; subst ha; subst hb; exact ⟨hx, fun z => by cases z⟩
        | succ j => exact h1 j a' b' (by simpa using ha) (by simpa using hb)
      · rw [h2, hd, List.length_cons, List.length_cons, Nat.succ_min_succ, List.range_succ_eq_map, firstLt_yes rfl, shift]
    · rename_i k' hx hy
      obtain ⟨e, r, h1, h2⟩ := ltTs_pair hy
      refine ⟨fun j => match j with | 0 => false | j + 1 => e j, fun j => match j with | 0 => k | j + 1 => r j, fun j a' b' ha hb => ?_, ?_⟩
      · cases j with
        | zero => simp at ha hb; subst ha; subst hb; exact ⟨hx, fun _ => h⟩
        | succ j => exact h1 j a' b' (by simpa using ha) (by simpa using hb)
      · rw [hd, List.length_cons, List.length_cons, Nat.succ_min_succ, List.range_succ_eq_map, firstLt_no rfl]
    · cases h
section
variable {I : KI} {X : Cx} {pins : List (Addr × Obj)} {σ : L2.St} {H G : Hp} {s : Shared}
theorem lt_at (hK : I.K = X.K) (J : Inv X pins σ H s) (gh : ∀ b o, G b = some o → H b = some o) : ∀ (n : Nat) (A : Around), A.units + n + 1 < cLine → ∀ (t u : T) (x y : V) (v w : Value) (k : Bool), Rep I G x t → Rep I G y u → RelV x v → RelV y w → ltN n t u = some k →
    RcLt A s v w k := by
  have tupOf : ∀ {a : Addr} {xs : List V}, SqU I.K G a xs → ∃ its : List Value, Vals xs its ∧ s.heap.IsTuple a its.toArray := fun h => by
    rw [hK] at h
    obtain ⟨its, r, p, _⟩ := J.tuple (sqT_mono gh h.t)
    exact ⟨its, r, isTuple_of p⟩
  intro n
  induction n with
  | zero =>
    intro A hA t u x y v w k h1 h2 rx ry e
    cases h1 <;> cases h2 <;> simp only [ltN, reduceCtorEq] at e
    · rename_i a b
      cases (show v = _ from rx); cases (show w = _ from ry)
      cases e
      have := PySem.W.rcLt_alike (.bool a) (.bool b) A s (.bool a) (.bool b) _ _ (.bool a) (.bool b) rfl (by simp) (by simp [PyData.depth]; omega)
      rw [PySem.W.dataLt_bool] at this
      cases a <;> cases b <;> exact this
    · rename_i a b
      obtain ⟨t1, rfl⟩ := (show ∃ t, v = Value.int a t from rx)
      obtain ⟨t2, rfl⟩ := (show ∃ t, w = Value.int b t from ry)
      cases e
      exact fun _ _ _ _ h => PyProof.Rows.lt_int h
    · rename_i a b
      obtain ⟨t1, rfl⟩ := (show ∃ t, v = Value.str a t from rx)
      obtain ⟨t2, rfl⟩ := (show ∃ t, w = Value.str b t from ry)
      cases e
      have := PySem.W.rcLt_alike (.str a) (.str b) A s (.str a t1) (.str b t2) _ _ (.str a t1) (.str b t2) rfl (by simp) (by simp [PyData.depth]; omega)
      rw [PySem.W.dataLt_str] at this
      rw [ltSy_eq]
      exact this
  | succ n ih =>
    intro A hA t u x y v w k h1 h2 rx ry e
    have hu : A.units < cLine := by omega
    have hA1 : A.in1.units + n + 1 < cLine := by
      show A.units + 1 + n + 1 < cLine
      omega
    have hA2 : A.in1.units + n < cLine := by omega
    cases h1 <;> cases h2 <;> simp only [ltN, reduceCtorEq] at e
    · rename_i a b
      cases (show v = _ from rx); cases (show w = _ from ry)
      cases e
      have := PySem.W.rcLt_alike (.bool a) (.bool b) A s (.bool a) (.bool b) _ _ (.bool a) (.bool b) rfl (by simp) (by simp [PyData.depth]; omega)
      rw [PySem.W.dataLt_bool] at this
      cases a <;> cases b <;> exact this
    · rename_i a b
      obtain ⟨t1, rfl⟩ := (show ∃ t, v = Value.int a t from rx)
      obtain ⟨t2, rfl⟩ := (show ∃ t, w = Value.int b t from ry)
      cases e
      exact fun _ _ _ _ h => PyProof.Rows.lt_int h
    · rename_i a b
      obtain ⟨t1, rfl⟩ := (show ∃ t, v = Value.str a t from rx)
      obtain ⟨t2, rfl⟩ := (show ∃ t, w = Value.str b t from ry)
      cases e
      have := PySem.W.rcLt_alike (.str a) (.str b) A s (.str a t1) (.str b t2) _ _ (.str a t1) (.str b t2) rfl (by simp) (by simp [PyData.depth]; omega)
      rw [PySem.W.dataLt_str] at this
      rw [ltSy_eq]
      exact this
    · rename_i a xs ta hs hr b ys tb hs2 hr2
      cases (show v = _ from rx)
      cases (show w = _ from ry)
      obtain ⟨its, r, p⟩ := tupOf hs
      obtain ⟨its2, r2, p2⟩ := tupOf hs2
      obtain ⟨f, g, f1, f2⟩ := ltTs_pair e
      have l1 : its.length = ta.length := r.length.symm.trans hr.length
      have l2 : its2.length = tb.length := r2.length.symm.trans hr2.length
      have pt : ∀ j (h3 : j < its.toArray.size) (h4 : j < its2.toArray.size), EqAt A.in1 s its.toArray[j] its2.toArray[j] (f j) ∧ (f j = false → RcLt A.in1 s its.toArray[j] its2.toArray[j] (g j)) := fun j h3 h4 => by
        have j1 : j < ta.length := by simpa [l1] using h3
        have j2 : j < tb.length := by simpa [l2] using h4
        obtain ⟨z1, e1, q1⟩ := hr.get (List.getElem?_eq_getElem j1)
        obtain ⟨z2, e2, q2⟩ := hr2.get (List.getElem?_eq_getElem j2)
        obtain ⟨w1, g1, s1⟩ := r.get e1
        obtain ⟨w2, g2, s2⟩ := r2.get e2
        have k1 : its.toArray[j] = w1 := by
          obtain ⟨_, hh⟩ := List.getElem?_eq_some_iff.mp g1
          simpa using hh
        have k2 : its2.toArray[j] = w2 := by
          obtain ⟨_, hh⟩ := List.getElem?_eq_some_iff.mp g2
          simpa using hh
        rw [k1, k2]
        obtain ⟨n1, n2⟩ := f1 j _ _ (List.getElem?_eq_getElem j1) (List.getElem?_eq_getElem j2)
        exact ⟨(eq_at hK J gh n A.in1 hA2 _ _ z1 z2 w1 w2 _ q1 q2 s1 s2 n1).1, fun z => ih A.in1 hA1 _ _ z1 z2 w1 w2 _ q1 q2 s1 s2 (n2 z)⟩
      have := RcLt.tuples (A := A) (e := f) (r := g) p p2 hu (fun j h3 h4 => (pt j h3 h4).1) fun j h3 h4 => (pt j h3 h4).2
      rw [f2, ← l1, ← l2]
      simpa using this
end
section
variable {I : KI} {X : Cx}
def cmpB (o : Cop) (a b : T) : Option Sl := (cmpV o a b).map fun k => .sh (.bl k)
theorem cmp_ok (hK : I.K = X.K) (hu : X.A.units + 64 < cLine) (o : Cop) : OpR X (compareOp (cmpA o)) (rB I (cmpB o)) := by
  intro pins s σ H x y v u Q J rx ry h
  obtain ⟨G, tx, ty, r, gh, hx, hy, hg, q⟩ := h
  have hu1 : X.A.units + deepMost < cLine := by have : deepMost = 50 := rfl; omega
  have hA1 : X.A.in1.units + deepMost < cLine := by
    show X.A.units + 1 + deepMost < cLine
    have : deepMost = 50 := rfl
    omega
  unfold cmpB at hg
  obtain ⟨k, hk, e⟩ := Option.map_eq_some_iff.mp hg
  cases e
  have fin : EP X pins σ Q (.bool k) s := ⟨.bl k, H, J, rfl, q _ _ _ (.old (.bl k))⟩
  have HX := repO_H gh hx
  have HY := repO_H gh hy
  have ss : ∀ b o, H b = some o → H b = some o := fun _ _ h => h
  have noDct : ∀ {v : V} {a b : List T}, RepO I G H v (.dct a b) → False := fun h => by
    rcases h with h | ⟨F, h⟩ <;> cases h
  have noIns : ∀ {v : V} {a : Nat} {b : List T}, RepO I G H v (.ins a b) → False := fun h => by
    rcases h with h | ⟨F, h⟩ <;> cases h
  have refOf : ∀ {v : V} {t : T}, RepO I G H v t → (∃ l, t = .tup l) ∨ (∃ l, t = .lst l) ∨ (∃ c l, t = .exn c l) → v ≠ .non := fun {v t} h k z => by
    subst z
    rcases h with h | ⟨F, h⟩
    · cases h
      rcases k with ⟨_, k⟩ | ⟨_, k⟩ | ⟨_, _, k⟩ <;> cases k
    · cases h
  cases o with
  | eq => exact (eq_at hK J ss deepMost X.A hu1 _ _ _ _ _ _ _ HX HY rx ry hk).2 _ _ _ _ fin
  | ne =>
    simp only [cmpV, Option.map_eq_some_iff] at hk
    obtain ⟨b, hb, e⟩ := hk
    subst e
    exact ne_at hK J ss deepMost X.A hu1 _ _ _ _ _ _ _ HX HY rx ry hb _ _ _ _ fin
  | lt => exact lt_at hK J ss deepMost X.A (by have : deepMost = 50 := rfl; omega) _ _ _ _ _ _ _ HX HY rx ry hk _ _ _ _ fin
  | gt =>
    cases tx <;> cases ty <;> (try (simp only [cmpV, ltT, ltN, reduceCtorEq] at hk; done))
    · cases repO_int hx; cases repO_int hy
      simp only [cmpV] at hk; cases hk
      exact op_gt pins s σ H _ _ v u Q J rx ry ⟨_, _, rfl, rfl, q _ _ _ (.old (.bl _))⟩
    · cases repO_str hx; cases repO_str hy
      simp only [cmpV, ltT, ltN] at hk; cases hk
      refine op_gt_str pins s σ H _ _ v u Q J rx ry ⟨_, _, rfl, rfl, ?_⟩
      have := q _ _ _ (.old (.bl _))
      rw [ltSy_eq] at this
      simpa using this
  | le =>
    cases tx <;> cases ty <;> (try (simp only [cmpV, reduceCtorEq] at hk; done))
    cases repO_int hx; cases repO_int hy
    simp only [cmpV] at hk; cases hk
    exact op_le pins s σ H _ _ v u Q J rx ry ⟨_, _, rfl, rfl, q _ _ _ (.old (.bl _))⟩
  | ge =>
    cases tx <;> cases ty <;> (try (simp only [cmpV, reduceCtorEq] at hk; done))
    cases repO_int hx; cases repO_int hy
    simp only [cmpV] at hk; cases hk
    exact op_ge pins s σ H _ _ v u Q J rx ry ⟨_, _, rfl, rfl, q _ _ _ (.old (.bl _))⟩
  | in_ =>
    cases ty <;> (try (cases tx <;> simp only [cmpV, reduceCtorEq] at hk; done))
    · rename_i z
      cases tx <;> (try (simp only [cmpV, reduceCtorEq] at hk; done))
      rename_i c
      cases c with
      | nil => simp only [cmpV, reduceCtorEq] at hk
      | cons c cs =>
        cases cs with
        | cons _ _ => simp only [cmpV, reduceCtorEq] at hk
        | nil =>
          cases repO_str hx; cases repO_str hy
          simp only [cmpV] at hk; cases hk
          refine op_in_sign pins s σ H _ _ v u Q J rx ry ⟨c, ⟨z.toArray⟩, by simp, rfl, ?_⟩
          have := q _ _ _ (.old (.bl _))
          simpa using this
    · rename_i z
      simp only [cmpV, inTs, Option.map_eq_some_iff] at hk
      obtain ⟨bs, h1, h2⟩ := hk
      obtain ⟨p, xs, rfl, s1, r1, k1⟩ := repO_tup gh hy
      rw [hK] at s1
      cases (show u = _ from ry)
      obtain ⟨its, r, p1, _⟩ := J.tuple s1.t
      obtain ⟨m1, m2⟩ := hits hK J ss hA1 HX rx (r1.mono gh) r h1
      refine in_tupleAt _ (isTuple_of p1) m1 ?_
      rw [m2, h2]
      exact fin
    · rename_i z
      simp only [cmpV, inTs, Option.map_eq_some_iff] at hk
      obtain ⟨bs, h1, h2⟩ := hk
      obtain ⟨p, xs, rfl, s1, r1⟩ := repO_lst gh hy
      cases (show u = _ from ry)
      obtain ⟨its, n, r, _, p1⟩ := rd_list J s1
      obtain ⟨m1, m2⟩ := hits hK J ss hA1 HX rx (r1.mono gh) r h1
      refine in_listAt _ (isList_of p1) m1 ?_
      rw [m2, h2]
      exact fin
    · exact (noDct hy).elim
  | nin =>
    cases ty <;> (try (cases tx <;> simp only [cmpV, reduceCtorEq] at hk; done))
    · rename_i z
      cases tx <;> (try (simp only [cmpV, reduceCtorEq] at hk; done))
      rename_i c
      cases c with
      | nil => simp only [cmpV, reduceCtorEq] at hk
      | cons c cs =>
        cases cs with
        | cons _ _ => simp only [cmpV, reduceCtorEq] at hk
        | nil =>
          cases repO_str hx; cases repO_str hy
          simp only [cmpV] at hk; cases hk
          refine op_notIn_sign pins s σ H _ _ v u Q J rx ry ⟨c, ⟨z.toArray⟩, by simp, rfl, ?_⟩
          have := q _ _ _ (.old (.bl _))
          simpa using this
    · rename_i z
      simp only [cmpV, inTs, Option.map_map, Option.map_eq_some_iff, Function.comp] at hk
      obtain ⟨bs, h1, h2⟩ := hk
      obtain ⟨p, xs, rfl, s1, r1, k1⟩ := repO_tup gh hy
      rw [hK] at s1
      cases (show u = _ from ry)
      obtain ⟨its, r, p1, _⟩ := J.tuple s1.t
      obtain ⟨m1, m2⟩ := hits hK J ss hA1 HX rx (r1.mono gh) r h1
      refine notIn_tupleAt _ (isTuple_of p1) m1 ?_
      rw [m2, h2]
      exact fin
    · rename_i z
      simp only [cmpV, inTs, Option.map_map, Option.map_eq_some_iff, Function.comp] at hk
      obtain ⟨bs, h1, h2⟩ := hk
      obtain ⟨p, xs, rfl, s1, r1⟩ := repO_lst gh hy
      cases (show u = _ from ry)
      obtain ⟨its, n, r, _, p1⟩ := rd_list J s1
      obtain ⟨m1, m2⟩ := hits hK J ss hA1 HX rx (r1.mono gh) r h1
      refine notIn_listAt _ (isList_of p1) m1 ?_
      rw [m2, h2]
      exact fin
    · exact (noDct hy).elim
  | is_ =>
    by_cases hn : ty = .non
    · subst hn
      cases repO_non hy
      refine op_isN pins s σ H _ _ v u Q J rx ry ⟨rfl, ?_⟩
      have e : decide (x = V.non) = k := by
        cases tx <;> simp only [cmpV, Option.some.injEq, reduceCtorEq] at hk <;> subst hk
        · cases repO_non hx; rfl
        · cases repO_bl hx; rfl
        · cases repO_int hx; rfl
        · cases repO_str hx; rfl
        · exact decide_eq_false (refOf hx (.inl ⟨_, rfl⟩))
        · exact decide_eq_false (refOf hx (.inr (.inl ⟨_, rfl⟩)))
        · exact (noDct hx).elim
        · exact (noIns hx).elim
        · exact decide_eq_false (refOf hx (.inr (.inr ⟨_, _, rfl⟩)))
      rw [e]
      exact q _ _ _ (.old (.bl _))
    · cases tx <;> cases ty <;> (try (simp only [cmpV, reduceCtorEq] at hk; done)) <;> (try exact (hn rfl).elim)
      rename_i a b
      cases repO_bl hx; cases repO_bl hy
      simp only [cmpV] at hk; cases hk
      refine op_is_bl pins s σ H _ _ v u Q J rx ry ⟨_, _, rfl, rfl, ?_⟩
      have := q _ _ _ (.old (.bl _))
      rw [show (a == b) = decide (a = b) by rw [Bool.eq_iff_iff]; simp] at this
      exact this
  | isn =>
    by_cases hn : ty = .non
    · subst hn
      cases repO_non hy
      refine op_notN pins s σ H _ _ v u Q J rx ry ⟨rfl, ?_⟩
      have e : (!decide (x = V.non)) = k := by
        cases tx <;> simp only [cmpV, Option.some.injEq, reduceCtorEq] at hk <;> subst hk
        · cases repO_non hx; rfl
        · cases repO_bl hx; rfl
        · cases repO_int hx; rfl
        · cases repO_str hx; rfl
        · rw [decide_eq_false (refOf hx (.inl ⟨_, rfl⟩))]; rfl
        · rw [decide_eq_false (refOf hx (.inr (.inl ⟨_, rfl⟩)))]; rfl
        · exact (noDct hx).elim
        · exact (noIns hx).elim
        · rw [decide_eq_false (refOf hx (.inr (.inr ⟨_, _, rfl⟩)))]; rfl
      rw [e]
      exact q _ _ _ (.old (.bl _))
    · cases tx <;> cases ty <;> (try (simp only [cmpV, reduceCtorEq] at hk; done)) <;> (try exact (hn rfl).elim)
      rename_i a b
      cases repO_bl hx; cases repO_bl hy
      simp only [cmpV] at hk; cases hk
      refine op_isnot_bl pins s σ H _ _ v u Q J rx ry ⟨_, _, rfl, rfl, ?_⟩
      have := q _ _ _ (.old (.bl _))
      rw [show (a != b) = !decide (a = b) by cases a <;> cases b <;> rfl] at this
      exact this
end
end Py
end

section
set_option maxRecDepth 100000
set_option maxHeartbeats 1000000
/-! Subscripts, slices, isinstance, stores, methods that change. -/
namespace Py
open PySem PySem.Spec PyProof.Rows L2 PySem.SeqAt
section
variable {I : KI} {X : Cx} {G H : Hp}
theorem no_dct {v : V} {a b : List T} (h : RepO I G H v (.dct a b)) : False := by
  rcases h with h | ⟨F, h⟩ <;> cases h
theorem no_ins {v : V} {a : Nat} {b : List T} (h : RepO I G H v (.ins a b)) : False := by
  rcases h with h | ⟨F, h⟩ <;> cases h
theorem ix_ok (hK : I.K = X.K) : IxR X (rB I fun a b => (subV a b).map .sh) := by
  intro va sl pins s σ H x y v u Q J rx ry h hs
  obtain ⟨G, tx, ty, r, gh, hx, hy, hg, q⟩ := h
  rw [Option.map_eq_some_iff] at hg
  obtain ⟨t, hg, rfl⟩ := hg
  cases tx with
  | lst l =>
    cases ty <;> (try (simp only [subV, reduceCtorEq] at hg; done))
    cases repO_int hy
    obtain ⟨p, xs, rfl, s1, r1⟩ := repO_lst gh hx
    simp only [subV, Option.bind_eq_some_iff] at hg
    obtain ⟨k, h1, h2⟩ := hg
    obtain ⟨w, e1, e2⟩ := r1.get h2
    refine ix_list va sl pins s σ H _ _ v u Q J rx ry ⟨p, xs, _, w, rfl, rfl, .inl s1, ?_, q _ _ _ (.old e2)⟩ hs
    unfold atI
    rw [r1.length, show ixN l.length _ = some k from h1]
    exact e1
  | tup l =>
    cases ty <;> (try (simp only [subV, reduceCtorEq] at hg; done))
    cases repO_int hy
    obtain ⟨p, xs, rfl, s1, r1, k1⟩ := repO_tup gh hx
    rw [hK] at s1
    simp only [subV, Option.bind_eq_some_iff] at hg
    obtain ⟨k, h1, h2⟩ := hg
    obtain ⟨w, e1, e2⟩ := r1.get h2
    refine ix_tup va sl pins s σ H _ _ v u Q J rx ry ⟨p, xs, _, w, rfl, rfl, s1.t, ?_, q _ _ _ (.old e2)⟩ hs
    unfold atI
    rw [r1.length, show ixN l.length _ = some k from h1]
    exact e1
  | str z =>
    cases ty <;> (try (simp only [subV, reduceCtorEq] at hg; done))
    cases repO_int hy
    cases repO_str hx
    simp only [subV] at hg
    split at hg
    · rename_i hf
      simp only [Option.bind_eq_some_iff, Option.map_eq_some_iff] at hg
      obtain ⟨k, h1, c, h2, rfl⟩ := hg
      refine ix_str va sl pins s σ H _ _ v u Q J rx ry ⟨_, _, c, rfl, rfl, ?_, ?_, q _ _ _ (.old (rep_str [c]))⟩ hs
      · rw [len_str]; exact one_le (fits_le hf)
      · unfold atI
        rw [show ixN (List.length (⟨z.toArray⟩ : Str).cps.toList) _ = some k from h1]
        exact h2
    · cases hg
  | dct ks vs => exact (no_dct hx).elim
  | _ => cases ty <;> simp only [subV, reduceCtorEq] at hg
def rSl (I : KI) : V → Option Int → Option Int → Hp → VK → Prop := fun x lo hi H Q => ∃ G tx r, (∀ b o, G b = some o → H b = some o) ∧ RepO I G H x tx ∧ sliV tx lo hi = some r ∧ ∀ v G' H', Out I G H v G' H' r → Q v H'
theorem out_cast {v : V} {G' H' : Hp} {a b : Sl} (e : b = a) (h : Out I G H v G' H' a) : Out I G H v G' H' b := e ▸ h
theorem cutAt_ix (n d : Nat) (o : Option Int) : cutAt n d o = HT.sIx n d o := by
  cases o <;> rfl
theorem cutV_cut {α : Type} (l : List α) (lo hi : Option Int) : cut l lo hi = (l.drop (HT.sIx l.length 0 lo)).take (HT.sIx l.length l.length hi - HT.sIx l.length 0 lo) := by
  unfold cut
  rw [cutAt_ix, cutAt_ix]
theorem sl_ok (hK : I.K = X.K) : SlR X (rSl I) := by
  intro pins s σ H x v vl vu lo hi sl Q J rx hs pl pu h
  obtain ⟨G, tx, r, gh, hx, hg, q⟩ := h
  cases tx with
  | tup l =>
    simp only [sliV, Option.some.injEq] at hg
    subst hg
    obtain ⟨p, xs, rfl, s1, r1, k1⟩ := repO_tup gh hx
    rw [hK] at s1
    cases (show v = _ from rx)
    obtain ⟨its, r, ht, hz⟩ := J.tuple s1.t
    have hlen : its.toArray.size = xs.length := by rw [List.size_toArray]; exact r.length.symm
    refine ⟨"tuple", _, PyProof.Rows.slot_tuple_getitem.lookup, ht.typeIs, ?_⟩
    by_cases hw : HT.sIx its.toArray.size 0 lo = 0 ∧ HT.sIx its.toArray.size its.toArray.size hi = its.toArray.size
    · refine getItem_tuple_whole ht hs pl pu hw ⟨.ref p, H, J, rfl, q _ _ _ (.old ?_)⟩
      rw [hlen] at hw
      have e : cut l lo hi = l := by
        rw [cutV_cut, ← r1.length, hw.1, hw.2, r1.length]
        simp
      rw [e]
      exact k1
    · refine HT.getItem_tuple_cut ht hs pl pu hw ?_ (by rw [hlen]; exact hz)
      have hl : ((xs.drop (HT.sIx its.toArray.size 0 lo)).take (HT.sIx its.toArray.size its.toArray.size hi - HT.sIx its.toArray.size 0 lo)).length ≤ sizeLine := by
        rw [List.length_take, List.length_drop]
        omega
      refine ⟨.ref s.heap.objs.size, _, tnew (t' := s.toks) J ((r.drop (HT.sIx its.toArray.size 0 lo)).take (HT.sIx its.toArray.size its.toArray.size hi - HT.sIx its.toArray.size 0 lo)) hl, rfl, q _ _ _ (out_cast ?_ (.tup J.fresh ((r1.drop _).take _) rfl rfl))⟩
      rw [cutV_cut, ← r1.length, ← hlen]
  | lst l =>
    simp only [sliV, Option.some.injEq] at hg
    subst hg
    obtain ⟨p, xs, rfl, s1, r1⟩ := repO_lst gh hx
    refine sl_list pins s σ H _ v vl vu lo hi sl Q J rx hs pl pu ⟨p, xs, rfl, .inl s1, fun p hp => q _ _ _ (out_cast ?_ (.lst hp ((r1.drop _).take _)))⟩
    rw [cutV_cut, ← r1.length]
  | _ => simp only [sliV, reduceCtorEq] at hg
/-! isinstance -/
def clsV : Cls → String
  | .int => "int" | .bool => "bool" | .str => "str" | .tuple => "tuple" | .list => "list" | .dict => "dict" | .own _ => "" | .valueError => ""
def tyT : T → String
  | .non => "NoneType" | .bl _ => "bool" | .int _ => "int" | .str _ => "str" | .tup _ => "tuple" | .lst _ => "list" | _ => ""
theorem tyx {x : V} {t : T} (gh : ∀ b o, G b = some o → H b = some o) (h : RepO I G H x t) (ht : tyT t ≠ "") : TyX I.K H x (.type (tyT t)) := by
  cases t with
  | non => cases repO_non h; exact .base .non
  | bl b => cases repO_bl h; exact .base (.bl _)
  | int i => cases repO_int h; exact .base (.int _)
  | str z => cases repO_str h; exact .base (.str _)
  | tup l =>
    obtain ⟨p, xs, rfl, s1, _, _⟩ := repO_tup gh h
    rcases s1 with ⟨ob, h1, _⟩ | ⟨o, its, n, h1, h2, _⟩
    · exact .fTuple h1
    · exact .kTuple h1 h2
  | lst l =>
    obtain ⟨p, xs, rfl, s1, _⟩ := repO_lst gh h
    rcases s1 with h1 | ⟨ob, h1⟩
    · exact .base (.lst h1)
    · exact .base (.frz h1)
  | _ => exact absurd rfl ht
theorem kits {sub : Nat → Nat → Bool} {t : T} {c : Cls} {b : Bool} (h : isOf sub t c = some b) : tyT t ≠ "" ∧ kitB (tyT t) (clsV c) = some b := by
  cases t <;> cases c <;> simp only [isOf, Option.some.injEq, reduceCtorEq] at h <;> subst h <;> exact ⟨by show _ ≠ _; simp only [tyT, ne_eq, String.reduceEq, not_false_eq_true], by show kitB (_ : String) _ = _; simp only [tyT, clsV]; decide +kernel⟩
def rIs (I : KI) (sub : Nat → Nat → Bool) (c : Cls) : List V → Hp → VK → Prop := fun xs H Q => ∃ G x t b, (∀ b o, G b = some o → H b = some o) ∧ xs = [x, .ty (clsV c)] ∧ RepO I G H x t ∧ isOf sub t c = some b ∧ Q (.bl b) H
theorem isi_ok (hK : I.K = X.K) {sub : Nat → Nat → Bool} {c : Cls} : CallR X (.builtin "isinstance") (rIs I sub c) := by
  intro pins s σ H xs us Q J r h
  obtain ⟨G, x, t, b, gh, rfl, hx, hb, q⟩ := h
  obtain ⟨h1, h2⟩ := kits hb
  have ty := tyx gh hx h1
  rw [hK] at ty
  exact call_isi pins s σ H _ us Q J r ⟨x, _, _, _, b, rfl, .ty _, ty, kit_ty h2, q⟩
/-! a place stored -/
def rSet (I : KI) : TSet := fun o i v H Q => ∃ G p xs l k w t', o = .ref p ∧ (∀ b o, G b = some o → H b = some o) ∧ H p = some (.lst xs) ∧ Reps I G xs l ∧ RepO I G H i k ∧ Rep I G v w ∧ setV (.lst l) k w = some (.lst t') ∧ ∀ ys, Reps I G ys t' → Q (upd H p (.lst ys))
theorem set_ok : PSet X (rSet I) := by
  intro pins s σ H o i v ov iv u Q J ro ri rv h
  obtain ⟨G, p, xs, l, k, w, t', rfl, gh, hp, r1, hk, hw, hs, q⟩ := h
  cases k <;> (try (simp only [setV, reduceCtorEq] at hs; done))
  cases repO_int hk
  simp only [setV, Option.map_eq_some_iff, T.lst.injEq] at hs
  obtain ⟨j, h1, rfl⟩ := hs
  exact set_list pins s σ H _ _ v ov iv u Q J ro ri rv ⟨p, xs, _, j, rfl, rfl, hp, by rw [r1.length]; exact h1, q _ (r1.set j hw)⟩
/-! methods that change a list -/
def rMut (I : KI) (m : Mut) : V → List V → Hp → VK → Prop := fun x vs H Q => ∃ G p xs l ts t' res, x = .ref p ∧ (∀ b o, G b = some o → H b = some o) ∧ H p = some (.lst xs) ∧ Reps I G xs l ∧ Reps I G vs ts ∧ mutV m (.lst l) ts = some (res, .lst t') ∧
  ∀ v ys, Rep I G v res → Reps I G ys t' → Q v (upd H p (.lst ys))
def mutId : Mut → String
  | .append => "list.append" | .extend => "list.extend" | .pop => "list.pop" | .popAt => "list.pop" | .setd => "" | .setdApp => ""
def mutName : Mut → String
  | .append => "append" | .extend => "extend" | .pop => "pop" | .popAt => "pop" | .setd => "" | .setdApp => ""
theorem reps1 {vs : List V} {t : T} (h : Reps I G vs [t]) : ∃ v, vs = [v] ∧ Rep I G v t := by
  cases h with
  | cons h r => cases r; exact ⟨_, rfl, h⟩
theorem rep_int {v : V} {i : Int} (h : Rep I G v (.int i)) : v = .int i := by cases h; rfl
theorem mut_append : MtM X "list.append" (rMut I .append) := by
  intro pins s σ H x vs v us Q J rx rv h
  obtain ⟨G, p, xs, l, ts, t', res, rfl, gh, hp, r1, hv, hm, q⟩ := h
  match ts, hm, hv with
  | [y], hm, hv =>
    simp only [mutV] at hm
    split at hm
    · rename_i hf
      simp only [Option.some.injEq, Prod.mk.injEq, T.lst.injEq] at hm
      obtain ⟨rfl, rfl⟩ := hm
      obtain ⟨w, rfl, hw⟩ := reps1 hv
      have hf := of_decide_eq_true hf
      refine mt_append pins s σ H _ _ v us Q J rx rv ⟨p, xs, w, rfl, rfl, hp, ?_, q _ _ .non (r1.append (.cons hw .nil))⟩
      rw [r1.length]
      have : sizeMost = 1048576 := rfl
      show _ < 2 ^ 24
      omega
    · cases hm
  | [], hm, hv => simp [mutV] at hm
  | _ :: _ :: _, hm, hv => simp [mutV] at hm
theorem mut_pop : MtM X "list.pop" (rMut I .pop) := by
  intro pins s σ H x vs v us Q J rx rv h
  obtain ⟨G, p, xs, l, ts, t', res, rfl, gh, hp, r1, hv, hm, q⟩ := h
  match ts, hm, hv with
  | _ :: _, hm, hv => simp [mutV] at hm
  | [], hm, hv =>
    cases hv
    simp only [mutV] at hm
    split at hm
    · rename_i y e
      simp only [Option.some.injEq, Prod.mk.injEq, T.lst.injEq] at hm
      obtain ⟨rfl, rfl⟩ := hm
      rw [List.getLast?_eq_getElem?] at e
      obtain ⟨w, e1, e2⟩ := r1.get e
      refine mt_pop pins s σ H _ _ v us Q J rx rv ⟨p, xs, w, rfl, rfl, hp, by rw [r1.length]; exact e1, q _ _ e2 ?_⟩
      rw [List.dropLast_eq_take, List.dropLast_eq_take, r1.length]
      exact r1.take _
    · cases hm
theorem mut_popAt : MtM X "list.pop" (rMut I .popAt) := by
  intro pins s σ H x vs v us Q J rx rv h
  obtain ⟨G, p, xs, l, ts, t', res, rfl, gh, hp, r1, hv, hm, q⟩ := h
  match ts, hm, hv with
  | [], hm, hv => simp [mutV] at hm
  | _ :: _ :: _, hm, hv => simp [mutV] at hm
  | [y], hm, hv =>
    obtain ⟨w, rfl, hw⟩ := reps1 hv
    cases y <;> (try (simp only [mutV, reduceCtorEq] at hm; done))
    cases rep_int hw
    simp only [mutV, Option.bind_eq_some_iff, Option.map_eq_some_iff, Prod.mk.injEq, T.lst.injEq] at hm
    obtain ⟨k, h1, y, h2, rfl, rfl⟩ := hm
    obtain ⟨w, e1, e2⟩ := r1.get h2
    obtain ⟨i1, i2, i3, i4⟩ := ixN_seq (show ixN l.length _ = some k from h1)
    obtain ⟨z, _⟩ := J.lstM hp
    have e3 := sizeLine_eq
    rw [r1.length] at z
    refine mt_popAt pins s σ H _ _ v us Q J rx rv ⟨p, xs, _, k, w, rfl, rfl, hp, by omega, by omega, by rw [r1.length]; exact i1, e1, q _ _ e2 (r1.eraseIdx k)⟩
end
end Py
end

section
set_option maxRecDepth 100000
set_option maxHeartbeats 1000000
/-! Built-in functions, index. -/
namespace Py
open PySem PySem.Spec PyProof.Rows L2 PySem.SeqAt PySem.W
/-! data -/
theorem toDs_map : ∀ l : List T, toDs l = l.map toD
  | [] => rfl
  | x :: xs => by rw [toDs, toDs_map xs]; rfl
theorem isDs_all {n : Nat} : ∀ {l : List T}, isDs n l = true → ∀ x ∈ l, isD n x = true
  | [], _, x, h => by cases h
  | y :: ys, h, x, hx => by
    rw [isDs, Bool.and_eq_true] at h
    rcases List.mem_cons.mp hx with rfl | hx
    · exact h.1
    · exact isDs_all h.2 x hx
theorem ofD_toD : ∀ (n : Nat) (t : T), isD n t = true → ofD (toD t) = t := by
  intro n
  induction n with
  | zero =>
    intro t h
    cases t <;> simp only [isD, reduceCtorEq, Bool.false_eq_true] at h <;> simp [toD, ofD]
  | succ n ih =>
    have key : ∀ l : List T, isDs n l = true → ofDs (toDs l) = l := by
      intro l
      induction l with
      | nil => intro _; rfl
      | cons x xs ih2 =>
        intro h
        rw [isDs, Bool.and_eq_true] at h
        rw [toDs, ofDs, ih x h.1, ih2 h.2]
    intro t h
    cases t <;> simp only [isD, reduceCtorEq, Bool.false_eq_true] at h <;> simp only [toD, ofD] <;> simp [key, h]
theorem depth_toD : ∀ (n : Nat) (t : T), isD n t = true → (toD t).depth ≤ n := by
  intro n
  induction n with
  | zero =>
    intro t h
    cases t <;> simp only [isD, reduceCtorEq, Bool.false_eq_true] at h <;> exact Nat.le_refl _
  | succ n ih =>
    have key : ∀ l : List T, isDs n l = true → PyData.depthAll (toDs l) ≤ n := by
      intro l
      induction l with
      | nil => intro _; exact Nat.zero_le _
      | cons x xs ih2 =>
        intro h
        rw [isDs, Bool.and_eq_true] at h
        rw [toDs]
        exact Nat.max_le.mpr ⟨ih x h.1, ih2 h.2⟩
    intro t h
    cases t <;> simp only [isD, reduceCtorEq, Bool.false_eq_true] at h <;> simp only [toD] <;> first | exact Nat.zero_le _ | exact Nat.succ_le_succ (key _ h)
theorem depths_toD {n : Nat} : ∀ {l : List T}, isDs n l = true → PyData.depthAll (toDs l) ≤ n
  | [], _ => Nat.zero_le _
  | x :: xs, h => by
    rw [isDs, Bool.and_eq_true] at h
    rw [toDs]
    exact Nat.max_le.mpr ⟨depth_toD n x h.1, depths_toD h.2⟩
theorem toD_ne {n : Nat} {t : T} (h : isD n t = true) : toD t ≠ .none := by
  cases t <;> cases n <;> simp only [isD, reduceCtorEq, Bool.false_eq_true] at h <;> simp [toD]
section
variable {I : KI} {X : Cx} {G H : Hp} {pins : List (Addr × Obj)} {σ : L2.St} {s : Shared}
theorem reads_of (hK : I.K = X.K) (J : Inv X pins σ H s) : ∀ (n : Nat) (t : T) (v : V) (u : Value), isD n t = true → Rep I H v t → RelV v u → ∃ as, Reads s.heap u (toD t) as := by
  intro n
  have flat : ∀ (n : Nat) (t : T) (v : V) (u : Value), isData0 t = true → isD n t = true → Rep I H v t → RelV v u → ∃ as, Reads s.heap u (toD t) as := by
    intro n t v u h0 h r e
    cases t <;> simp only [isData0, Bool.false_eq_true] at h0
    · cases n <;> simp [isD] at h
    · cases r; cases e; exact ⟨_, .bool _⟩
    · cases r; obtain ⟨t, rfl⟩ := e; exact ⟨_, .int _ _⟩
    · cases r
      obtain ⟨t, rfl⟩ := e
      rename_i x
      refine ⟨[], (?_ : Reads s.heap _ (.str ⟨x.cps.toList.toArray⟩) _)⟩
      have : (⟨x.cps.toList.toArray⟩ : Str) = x := by simp
      rw [this]
      exact .str _ _
  induction n with
  | zero =>
    intro t v u h r e
    cases t <;> simp only [isD, reduceCtorEq, Bool.false_eq_true] at h <;> exact flat 0 _ v u rfl rfl r e
  | succ n ih =>
    have key : ∀ (l : List T) (vs : List V) (us : List Value), isDs n l = true → Reps I H vs l → Vals vs us → ∃ as, ReadsAll s.heap us (toDs l) as := by
      intro l
      induction l with
      | nil =>
        intro vs us _ r e
        cases r
        cases e
        exact ⟨_, .nil⟩
      | cons x xs ih2 =>
        intro vs us h r e
        rw [isDs, Bool.and_eq_true] at h
        cases r with
        | cons r1 r2 =>
          cases e with
          | cons e1 e2 =>
            obtain ⟨as, q1⟩ := ih x _ _ h.1 r1 e1
            obtain ⟨bs, q2⟩ := ih2 _ _ h.2 r2 e2
            exact ⟨_, .cons q1 q2⟩
    intro t v u h r e
    cases t with
    | tup l =>
      simp only [isD] at h
      cases r with
      | tup h1 h2 =>
        cases (show u = _ from e)
        rw [hK] at h1
        obtain ⟨its, rv, ⟨o, e1, e2, m, e3⟩, _⟩ := J.tuple h1.t
        obtain ⟨as, q⟩ := key l _ its h h2 rv
        exact ⟨_, .tuple e1 e2 e3 (by simpa using q)⟩
    | lst l =>
      simp only [isD] at h
      cases r with
      | lst h1 h2 =>
        cases (show u = _ from e)
        obtain ⟨its, m, rv, _, e1⟩ := rd_list J h1
        obtain ⟨as, q⟩ := key l _ its h h2 rv
        exact ⟨_, .list e1 rfl rfl (by simpa using q)⟩
    | bl b => exact flat 1 _ v u rfl rfl r e
    | int i => exact flat 1 _ v u rfl rfl r e
    | str z => exact flat 1 _ v u rfl rfl r e
    | _ => simp only [isD, reduceCtorEq, Bool.false_eq_true] at h
theorem readsAll_of (hK : I.K = X.K) (J : Inv X pins σ H s) {n : Nat} : ∀ (l : List T) (vs : List V) (us : List Value), isDs n l = true → Reps I H vs l → Vals vs us → ∃ as, ReadsAll s.heap us (toDs l) as
  | [], _, _, _, .nil, .nil => ⟨_, .nil⟩
  | x :: xs, _, _, h, .cons r1 r2, .cons e1 e2 => by
    rw [isDs, Bool.and_eq_true] at h
    obtain ⟨as, q1⟩ := reads_of hK J n x _ _ h.1 r1 e1
    obtain ⟨bs, q2⟩ := readsAll_of hK J xs _ _ h.2 r2 e2
    exact ⟨_, .cons q1 q2⟩
/-! the calls -/
def RepOs (I : KI) (G H : Hp) : List V → List T → Prop := Paired (RepO I G H)
def rBl (I : KI) (g : List T → Option Sl) : List V → Hp → VK → Prop := fun xs H Q => ∃ G ts r, (∀ b o, G b = some o → H b = some o) ∧ RepOs I G H xs ts ∧ g ts = some r ∧ ∀ v G' H', Out I G H v G' H' r → Q v H'
theorem ro1 {xs : List V} {a : T} (h : RepOs I G H xs [a]) : ∃ x, xs = [x] ∧ RepO I G H x a := by
  cases h with
  | cons h r => cases r; exact ⟨_, rfl, h⟩
theorem ro2 {xs : List V} {a b : T} (h : RepOs I G H xs [a, b]) : ∃ x y, xs = [x, y] ∧ RepO I G H x a ∧ RepO I G H y b := by
  cases h with
  | cons h r =>
    cases r with
    | cons h2 r2 => cases r2; exact ⟨_, _, rfl, h, h2⟩
theorem blt_len (hK : I.K = X.K) : CallR X (.builtin "len") (rBl I (bltV .len)) := by
  intro pins s σ H xs us Q J rs h
  obtain ⟨G, ts, r, gh, hx, hg, q⟩ := h
  match ts, hg, hx with
  | [], hg, _ => simp [bltV] at hg
  | _ :: _ :: _, hg, _ => simp [bltV] at hg
  | [t], hg, hx =>
    obtain ⟨x, rfl, hy⟩ := ro1 hx
    cases t with
    | lst l =>
      simp only [bltV, Option.some.injEq] at hg
      subst hg
      obtain ⟨p, xs, rfl, s1, r1⟩ := repO_lst gh hy
      refine call_len_seq pins s σ H _ us Q J rs ⟨p, xs, rfl, .inl (.inl s1), ?_⟩
      rw [r1.length]
      exact q _ _ _ (.old (.int _))
    | tup l =>
      simp only [bltV, Option.some.injEq] at hg
      subst hg
      obtain ⟨p, xs, rfl, s1, r1, k1⟩ := repO_tup gh hy
      rw [hK] at s1
      refine call_len_seq pins s σ H _ us Q J rs ⟨p, xs, rfl, .inr s1.t, ?_⟩
      rw [r1.length]
      exact q _ _ _ (.old (.int _))
    | str z =>
      simp only [bltV] at hg
      split at hg
      · rename_i hf
        cases hg
        cases repO_str hy
        refine call_len_str pins s σ H _ us Q J rs ⟨_, rfl, ?_, ?_⟩
        · rw [len_str]; exact one_le (fits_le hf)
        · rw [len_str]; exact q _ _ _ (.old (.int _))
      · cases hg
    | dct ks vs => exact (no_dct hy).elim
    | _ => simp [bltV] at hg
theorem bltV_int (ts : List T) : bltV .int ts = (match ts with
    | [.int i] => some (.sh (.int i))
    | [.bl b] => some (.sh (.int (if b then 1 else 0)))
    | _ => none) := by
  rcases ts with _ | ⟨t, _ | ⟨u, r⟩⟩
  · rfl
  · cases t <;> rfl
  · cases t <;> rfl
theorem blt_int : CallR X (.type "int") (rBl I (bltV .int)) := by
  intro pins s σ H xs us Q J rs h
  obtain ⟨G, ts, r, gh, hx, hg, q⟩ := h
  rw [bltV_int] at hg
  split at hg
  · cases hg
    obtain ⟨x, rfl, hy⟩ := ro1 hx
    cases repO_int hy
    exact call_int1 pins s σ H _ us Q J rs (.inl ⟨_, rfl, q _ _ _ (.old (.int _))⟩)
  · cases hg
    obtain ⟨x, rfl, hy⟩ := ro1 hx
    cases repO_bl hy
    exact call_int1 pins s σ H _ us Q J rs (.inr ⟨_, rfl, q _ _ _ (.old (.int _))⟩)
  · cases hg
theorem blt_abs : CallR X (.builtin "abs") (rBl I (bltV .abs)) := by
  intro pins s σ H xs us Q J rs h
  obtain ⟨G, ts, r, gh, hx, hg, q⟩ := h
  match ts, hg, hx with
  | [], hg, _ => simp [bltV] at hg
  | _ :: _ :: _, hg, _ => simp [bltV] at hg
  | [t], hg, hx =>
    obtain ⟨x, rfl, hy⟩ := ro1 hx
    cases t <;> simp only [bltV, reduceCtorEq, Option.some.injEq] at hg
    subst hg
    cases repO_int hy
    have e : ∀ i : Int, (if i < 0 then -i else i) = (i.natAbs : Int) := fun i => by
      split <;> omega
    refine call_abs pins s σ H _ us Q J rs ⟨_, rfl, ?_⟩
    rw [e]
    exact q _ _ _ (.old (.int _))
/-- a row of truth values -/
theorem bls_all : ∀ {xs : List V} {l : List T}, Reps I G xs l → (∀ t ∈ l, ∃ b, t = .bl b) → ∃ bs : List Bool, xs = bs.map V.bl ∧ l = bs.map T.bl
  | _, _, .nil, _ => ⟨[], rfl, rfl⟩
  | _, _, .cons (t := t) h r, k => by
    obtain ⟨b, rfl⟩ := k t List.mem_cons_self
    cases h
    obtain ⟨bs, rfl, rfl⟩ := bls_all r fun t ht => k t (List.mem_cons_of_mem _ ht)
    exact ⟨b :: bs, rfl, rfl⟩
end
theorem bools_map : ∀ {l : List T} {bs : List Bool}, bools l = some bs → l = bs.map T.bl
  | [], bs, h => by simp only [bools] at h; cases h; rfl
  | t :: r, bs, h => by
    cases t <;> simp only [bools, reduceCtorEq, Option.map_eq_some_iff] at h
    obtain ⟨bs', h1, rfl⟩ := h
    rw [bools_map h1]
    rfl
section
variable {I : KI} {X : Cx} {G H : Hp} {pins : List (Addr × Obj)} {σ : L2.St} {s : Shared}
theorem reps_bools : ∀ {xs : List V} {bs : List Bool}, Reps I G xs (bs.map T.bl) → xs = bs.map V.bl
  | _, [], .nil => rfl
  | _, b :: bs, .cons h r => by
    cases h
    rw [reps_bools r]
    rfl
theorem bltV_all (ts : List T) : bltV .all ts = (match ts with
    | [.lst l] => (bools l).map fun bs => .sh (.bl (bs.all id))
    | _ => none) := by
  rcases ts with _ | ⟨t, _ | ⟨u, r⟩⟩
  · rfl
  · cases t <;> rfl
  · cases t <;> rfl
theorem blt_all (hc : X.calm = true) : CallR X (.builtin "all") (rBl I (bltV .all)) := by
  intro pins s σ H xs us Q J rs h
  obtain ⟨G, ts, r, gh, hx, hg, q⟩ := h
  rw [bltV_all] at hg
  split at hg
  · rw [Option.map_eq_some_iff] at hg
    obtain ⟨bs, h1, rfl⟩ := hg
    rw [bools_map h1] at hx
    obtain ⟨x, rfl, hy⟩ := ro1 hx
    obtain ⟨p, xs, rfl, s1, r1⟩ := repO_lst gh hy
    rw [reps_bools r1] at s1
    exact cr_all hc pins s σ H _ us Q J rs ⟨p, bs, rfl, .inl s1, q _ _ _ (.old (.bl _))⟩
  · cases hg
theorem bltV_any (ts : List T) : bltV .any ts = (match ts with
    | [.lst l] => (bools l).map fun bs => .sh (.bl (bs.any id))
    | _ => none) := by
  rcases ts with _ | ⟨t, _ | ⟨u, r⟩⟩
  · rfl
  · cases t <;> rfl
  · cases t <;> rfl
theorem blt_any (hc : X.calm = true) : CallR X (.builtin "any") (rBl I (bltV .any)) := by
  intro pins s σ H xs us Q J rs h
  obtain ⟨G, ts, r, gh, hx, hg, q⟩ := h
  rw [bltV_any] at hg
  split at hg
  · rw [Option.map_eq_some_iff] at hg
    obtain ⟨bs, h1, rfl⟩ := hg
    rw [bools_map h1] at hx
    obtain ⟨x, rfl, hy⟩ := ro1 hx
    obtain ⟨p, xs, rfl, s1, r1⟩ := repO_lst gh hy
    rw [reps_bools r1] at s1
    exact cr_any hc pins s σ H _ us Q J rs ⟨p, bs, rfl, .inl s1, q _ _ _ (.old (.bl _))⟩
  · cases hg
theorem blt_list (hK : I.K = X.K) : CallR X (.type "list") (rBl I (bltV .list)) := by
  intro pins s σ H xs us Q J rs h
  obtain ⟨G, ts, r, gh, hx, hg, q⟩ := h
  match ts, hg, hx with
  | [], hg, _ => simp [bltV] at hg
  | _ :: _ :: _, hg, _ => simp [bltV] at hg
  | [t], hg, hx =>
    obtain ⟨x, rfl, hy⟩ := ro1 hx
    cases t <;> simp only [bltV, reduceCtorEq, Option.some.injEq] at hg
    · subst hg
      obtain ⟨p, xs, rfl, s1, r1, k1⟩ := repO_tup gh hy
      rw [hK] at s1
      exact call_list_of pins s σ H _ us Q J rs ⟨p, xs, rfl, .inr s1.t, fun l hl => q _ _ _ (.lst hl r1)⟩
    · subst hg
      obtain ⟨p, xs, rfl, s1, r1⟩ := repO_lst gh hy
      exact call_list_of pins s σ H _ us Q J rs ⟨p, xs, rfl, .inl (.inl s1), fun l hl => q _ _ _ (.lst hl r1)⟩
theorem blt_tuple (hK : I.K = X.K) : CallR X (.type "tuple") (rBl I (bltV .tuple)) := by
  intro pins s σ H xs us Q J rs h
  obtain ⟨G, ts, r, gh, hx, hg, q⟩ := h
  match ts, hg, hx with
  | [], hg, _ => simp [bltV] at hg
  | _ :: _ :: _, hg, _ => simp [bltV] at hg
  | [t], hg, hx =>
    obtain ⟨x, rfl, hy⟩ := ro1 hx
    cases t <;> simp only [bltV, reduceCtorEq, Option.some.injEq] at hg
    · subst hg
      obtain ⟨p, xs, rfl, s1, r1, k1⟩ := repO_tup gh hy
      rw [hK] at s1
      exact call_tuple_of pins s σ H _ us Q J rs ⟨p, xs, rfl, .inr ⟨s1.t, q _ _ _ (.old k1)⟩⟩
    · subst hg
      obtain ⟨p, xs, rfl, s1, r1⟩ := repO_lst gh hy
      obtain ⟨u, rfl, rx⟩ := L2.vals1 rs
      cases rx
      obtain ⟨its, r', pl, hz⟩ := J.list (.inl s1)
      have hlen := r'.length
      refine call_tuple_list pl.isList (fun h' kp => ?_) (by simp only [List.size_toArray] <;> omega)
      have I1 : Inv X pins σ H { s with heap := h' } := J.kept (t' := s.toks) kp
      exact ⟨.ref h'.objs.size, _, tnew (s := { s with heap := h' }) (t' := s.toks) I1 r' hz, rfl, q _ _ _ (.tup I1.fresh r1 rfl rfl)⟩
theorem blt_divmod : CallR X (.builtin "divmod") (rBl I (bltV .divmod)) := by
  intro pins s σ H xs us Q J rs h
  obtain ⟨G, ts, r, gh, hx, hg, q⟩ := h
  match ts, hg, hx with
  | [], hg, _ => simp [bltV] at hg
  | [_], hg, _ => simp [bltV] at hg
  | _ :: _ :: _ :: _, hg, _ => simp [bltV] at hg
  | [a, b], hg, hx =>
    obtain ⟨x, y, rfl, hz1, hz2⟩ := ro2 hx
    cases a <;> cases b <;> simp only [bltV, reduceCtorEq] at hg
    rename_i i j
    cases repO_int hz1
    cases repO_int hz2
    split at hg
    · rename_i hf
      rw [Bool.and_eq_true, decide_eq_true_eq, decide_eq_true_eq] at hf
      obtain ⟨h1, h2⟩ := hf
      cases hg
      obtain ⟨u, w', rfl, ⟨t, rfl⟩, ⟨t', rfl⟩⟩ := L2.vals2 rs
      refine divmod_int (by omega) ?_ (.inl (PyProof.noPylong_small (by omega)))
      rw [Int.fdiv_eq_ediv_of_nonneg i (by omega), Int.fmod_eq_emod_of_nonneg i (by omega)]
      refine ⟨.ref s.heap.objs.size, _, tnew (t' := s.toks + 1 + 1) J (xs := [.int (i / j), .int (i % j)]) (its := [.int (i / j) s.toks, .int (i % j) (s.toks + 1)]) (.cons ⟨_, rfl⟩ (.cons ⟨_, rfl⟩ .nil)) (by show 2 ≤ sizeLine; decide), rfl, q _ _ _ (.tup J.fresh (.cons (.int _) (.cons (.int _) .nil)) rfl rfl)⟩
    · cases hg
theorem okD_alike {a : T} {r : List T} (h : okD (a :: r) = true) : isDs deepMost (a :: r) = true ∧ AlikeAll (toD a :: toDs r) := by
  unfold okD at h
  rw [Bool.and_eq_true, List.all_eq_true] at h
  obtain ⟨h1, h2⟩ := h
  refine ⟨h1, fun x hx y hy => ?_, fun x hx => ?_⟩
  · have e : toD a :: toDs r = (a :: r).map toD := by rw [toDs_map]; rfl
    rw [e] at hx hy
    obtain ⟨t, ht, rfl⟩ := List.mem_map.mp hx
    obtain ⟨t2, ht2, rfl⟩ := List.mem_map.mp hy
    exact List.all_eq_true.mp (h2 t ht) t2 ht2
  · have e : toD a :: toDs r = (a :: r).map toD := by rw [toDs_map]; rfl
    rw [e] at hx
    obtain ⟨t, ht, rfl⟩ := List.mem_map.mp hx
    exact toD_ne (isDs_all h1 t ht)
theorem bltV_max (ts : List T) : bltV .max ts = (match ts with
    | [.int a, .int b] => some (.sh (.int (if a < b then b else a)))
    | [.lst (a :: r)] => if okD (a :: r) then some (.sh (maxT a r)) else none
    | _ => none) := by
  rcases ts with _ | ⟨t, _ | ⟨u, _ | ⟨w, r⟩⟩⟩
  · rfl
  · cases t with
    | lst l => cases l <;> rfl
    | _ => rfl
  · cases t with
    | int a => cases u <;> rfl
    | lst l => cases l <;> rfl
    | _ => rfl
  · cases t with
    | int a => cases u <;> rfl
    | lst l => cases l <;> rfl
    | _ => rfl
theorem blt_max (hK : I.K = X.K) (hc : X.calm = true) (hu : X.A.units + 64 < cLine) : CallR X (.builtin "max") (rBl I (bltV .max)) := by
  intro pins s σ H xs us Q J rs h
  obtain ⟨G, ts, r, gh, hx, hg, q⟩ := h
  rw [bltV_max] at hg
  split at hg
  · rename_i i j
    cases hg
    obtain ⟨x, y, rfl, hz1, hz2⟩ := ro2 hx
    cases repO_int hz1
    cases repO_int hz2
    refine call_max2 hc pins s σ H _ us Q J rs ⟨i, j, rfl, ?_⟩
    exact q _ _ _ (.old (.int _))
  · rename_i a l
    split at hg
    · rename_i hok
      cases hg
      obtain ⟨hd, hal⟩ := okD_alike hok
      obtain ⟨x, rfl, hy⟩ := ro1 hx
      obtain ⟨p, xs, rfl, s1, r1⟩ := repO_lst gh hy
      obtain ⟨u, rfl, rx⟩ := L2.vals1 rs
      cases rx
      obtain ⟨its, rv, pl, hz⟩ := J.list (.inl s1)
      obtain ⟨as, hr⟩ := readsAll_of hK J (a :: l) xs its hd (r1.mono gh) rv
      refine max_list_data (x := toD a) (xs := toDs l) (J.ok.hd hc) pl.isList (by simpa [toDs] using hr) hal ?_ fun i v h' tk bs hv rd hk => ?_
      · have := depths_toD hd
        rw [toDs] at this
        show X.A.units + 1 + PyData.depthAll (toD a :: toDs l) < cLine
        have e : deepMost = 50 := rfl
        omega
      · have J' : Inv X pins σ H { s with heap := h', toks := tk } := J.kept (t' := tk) hk
        have hv' : its[i]? = some v := by simpa using hv
        have hi : i < xs.length := by
          rw [rv.length]
          exact (List.getElem?_eq_some_iff.mp hv').1
        obtain ⟨w, hw, rw'⟩ := rv.get (i := i) (x := xs[i]) (List.getElem?_eq_getElem hi)
        rw [hv'] at hw
        cases hw
        obtain ⟨t, ht, rt⟩ := r1.getV (k := i) (v := xs[i]) (List.getElem?_eq_getElem hi)
        have hdt := isDs_all hd t (List.mem_of_getElem? ht)
        obtain ⟨cs, rd2⟩ := reads_of hK J' deepMost t xs[i] v hdt (rt.mono gh) rw'
        have hmem : toD t ∈ toD a :: toDs l := by
          have e : toD a :: toDs l = (a :: l).map toD := by rw [toDs_map]; rfl
          rw [e]
          exact List.mem_map.mpr ⟨t, List.mem_of_getElem? ht, rfl⟩
        have hmax : maxD (toD a) (toDs l) ∈ toD a :: toDs l := by
          have key : ∀ (l : List PyData) (x : PyData), maxD x l ∈ x :: l := by
            intro l
            induction l with
            | nil => intro x; exact List.mem_cons_self
            | cons y ys ih =>
              intro x
              show maxD (if dataLt x y then y else x) ys ∈ _
              rcases List.mem_cons.mp (ih (if dataLt x y then y else x)) with h | h
              · rw [h]
                split
                · exact List.mem_cons_of_mem _ List.mem_cons_self
                · exact List.mem_cons_self
              · exact List.mem_cons_of_mem _ (List.mem_cons_of_mem _ h)
          exact key _ _
        have e := alike_unique _ _ _ _ _ (hal.1 _ hmem _ hmax) rd2 rd
        have e2 : maxT a l = t := by
          show ofD (maxD (toD a) (toDs l)) = t
          rw [← e, ofD_toD deepMost t hdt]
        rw [e2] at q
        exact ⟨xs[i], H, J', rw', q _ _ _ (.old rt)⟩
    · cases hg
  · cases hg
theorem each_of_vals (R : Value → V × T → Prop) : ∀ {xs : List V} {l : List T} {its : List Value}, Reps I G xs l → Vals xs its → (∀ v t u, t ∈ l → Rep I G v t → RelV v u → R u (v, t)) → EachIs R its (xs.zip l)
  | _, _, _, .nil, .nil, _ => .nil
  | _, _, _, .cons h r, .cons e es, k => .cons (k _ _ _ List.mem_cons_self h e) (each_of_vals R r es fun v t u ht => k v t u (List.mem_cons_of_mem _ ht))
theorem out_each : ∀ {out : List Value} {bs : List (V × T)}, EachIs (fun u (p : V × T) => RelV p.1 u ∧ Rep I G p.1 p.2) out bs → Vals (bs.map (·.1)) out ∧ Reps I G (bs.map (·.1)) (bs.map (·.2))
  | _, _, .nil => ⟨.nil, .nil⟩
  | _, _, .cons h r => ⟨.cons h.1 (out_each r).1, .cons h.2 (out_each r).2⟩
theorem zip_snd : ∀ {xs : List V} {l : List T}, xs.length = l.length → (xs.zip l).map (·.2) = l
  | [], [], _ => rfl
  | x :: xs, t :: l, h => by
    show t :: (xs.zip l).map (·.2) = _
    rw [zip_snd (by simpa using h)]
theorem blt_sorted (hK : I.K = X.K) (hu : X.A.units + 64 < cLine) : CallR X (.builtin "sorted") (rBl I (bltV .sorted)) := by
  intro pins s σ H xs us Q J rs h
  obtain ⟨G, ts, r, gh, hx, hg, q⟩ := h
  match ts, hg, hx with
  | [], hg, _ => simp [bltV] at hg
  | _ :: _ :: _, hg, _ => simp [bltV] at hg
  | [t], hg, hx =>
    obtain ⟨x, rfl, hy⟩ := ro1 hx
    cases t <;> simp only [bltV, reduceCtorEq] at hg
    rename_i l
    split at hg
    · rename_i hok
      cases hg
      obtain ⟨p, xs, rfl, s1, r1⟩ := repO_lst gh hy
      obtain ⟨u, rfl, rx⟩ := L2.vals1 rs
      cases rx
      obtain ⟨its, rv, pl, hz⟩ := J.list (.inl s1)
      unfold okSort at hok
      rw [Bool.and_eq_true] at hok
      obtain ⟨hok, hsh⟩ := hok
      unfold okD at hok
      rw [Bool.and_eq_true, List.all_eq_true] at hok
      obtain ⟨hd, hal⟩ := hok
      have hmem : ∀ p : V × T, p ∈ xs.zip l → p.2 ∈ l := fun p hp => (List.of_mem_zip hp).2
      refine sorted_data (bs := xs.zip l) (enc := fun p : V × T => toD p.2) (R := fun u (p : V × T) => RelV p.1 u ∧ Rep I G p.1 p.2) pl.isList
        (each_of_vals _ r1 rv fun v t u _ h e => ⟨e, h⟩) (each_of_vals _ r1 rv fun v t u ht h e => reads_of hK J deepMost t v u (isDs_all hd t ht) (h.mono gh) e) ?_ ?_ ?_ ?_ fun out hl he => ?_
      · intro d hd' d' hd''
        obtain ⟨p, hp, rfl⟩ := List.mem_map.mp hd'
        obtain ⟨p', hp', rfl⟩ := List.mem_map.mp hd''
        exact List.all_eq_true.mp (hal _ (hmem p hp)) _ (hmem p' hp')
      · rw [Bool.or_eq_true, List.all_eq_true, List.all_eq_true] at hsh
        rcases hsh with hsh | hsh
        · refine .inl fun d hd' => ?_
          obtain ⟨p, hp, rfl⟩ := List.mem_map.mp hd'
          have := hsh _ (hmem p hp)
          unfold tupD at this
          split at this
          · rename_i e
            show ∃ x r, toD p.2 = _
            rw [e]
            exact ⟨_, _, by rw [toD, toDs]⟩
          · cases this
        · refine .inr fun d hd' => ?_
          obtain ⟨p, hp, rfl⟩ := List.mem_map.mp hd'
          have h1 := hsh _ (hmem p hp)
          have h2 := toD_ne (isDs_all hd _ (hmem p hp))
          refine ⟨h2, fun ys e => ?_⟩
          have e : toD p.2 = .tuple ys := e
          cases ht : p.2 <;> rw [ht] at e h1 <;> simp [toD] at e h1
      · rw [List.length_zip]
        exact Nat.le_trans (Nat.min_le_left _ _) hz
      · intro p hp
        have := depth_toD deepMost _ (isDs_all hd _ (hmem p hp))
        show X.A.units + 2 + (toD p.2).depth < cLine
        have e : deepMost = 50 := rfl
        omega
      · obtain ⟨o1, o2⟩ := out_each he
        obtain ⟨ep, he'⟩ := PyProof.Rows.sortedAll_at s.heap its out.toArray
        have hml : (List.map (fun x : V × T => x.2) ((xs.zip l).mergeSort (dataLe false fun p : V × T => toD p.2))) = sortD l := by
          unfold sortD
          have hz2 : (xs.zip l).map (·.2) = l := zip_snd r1.length
          conv => rhs; rw [← hz2]
          exact List.map_mergeSort (r := dataLe false fun p : V × T => toD p.2) (s := dataLe false toD) (f := Prod.snd) (fun a ha b hb => rfl)
        rw [hml] at o2
        have hlen : (List.map (fun x : V × T => x.1) ((xs.zip l).mergeSort (dataLe false fun p : V × T => toD p.2))).length ≤ sizeLine := by
          rw [List.length_map, List.length_mergeSort, List.length_zip]
          exact Nat.le_trans (Nat.min_le_left _ _) hz
        exact ⟨.ref _, upd H (s.heap.objs.size + 1) (.lst _), J.laid (t' := s.toks) (fun _ _ => PyProof.Rows.sortedAll_old) (Nat.le_succ _) ⟨hlen, out, ep, o1, he'⟩, rfl, q _ _ _ (.lst (J.hok.fresh (Nat.le_succ _)) o2)⟩
    · cases hg
end
end Py
end

section
set_option maxRecDepth 100000
set_option maxHeartbeats 1000000
/-! Methods that only look. -/
namespace Py
open PySem PySem.Spec PyProof.Rows L2 PySem.SeqAt
section
variable {I : KI} {X : Cx} {G H : Hp} {pins : List (Addr × Obj)} {σ : L2.St} {s : Shared}
def rMt (I : KI) (m : Mth) (ty : String) : V → List V → Hp → VK → Prop := fun x xs H Q => ∃ G tx ts r, (∀ b o, G b = some o → H b = some o) ∧ tyT tx = ty ∧ RepO I G H x tx ∧ RepOs I G H xs ts ∧ mthV m (tx :: ts) = some r ∧ ∀ v G' H', Out I G H v G' H' r → Q v H'
/-- what a method call asks of the receiver -/
theorem ty_of (hK : I.K = X.K) (J : Inv X pins σ H s) (gh : ∀ b o, G b = some o → H b = some o) {x : V} {v : Value} {t : T} (h : RepO I G H x t) (r : RelV x v) (ht : tyT t = "list" ∨ tyT t = "tuple" ∨ tyT t = "str") :
    s.TypeIs v (tyT t) ∧ ∀ a, v = .ref a → ∃ ob, s.heap.get? a = some ob ∧ ob.dict = none := by
  cases t with
  | lst l =>
    obtain ⟨p, xs, rfl, s1, r1⟩ := repO_lst gh h
    exact tyV_is (T := "list") J r (.inl ⟨rfl, xs, .inl s1⟩)
  | tup l =>
    obtain ⟨p, xs, rfl, s1, r1, k1⟩ := repO_tup gh h
    cases (show v = _ from r)
    rw [hK] at s1
    rcases s1 with ⟨ob, h1, h2, h3⟩ | ⟨o, its, n, h1, h2, h3, _⟩
    · obtain ⟨e, _⟩ := J.hok p _ h1
      exact ⟨⟨ob, e, h2⟩, fun a z => by cases z; exact ⟨ob, e, h3⟩⟩
    · exact ⟨⟨o, J.kIn p o h1, h2⟩, fun a z => by cases z; exact ⟨o, J.kIn p o h1, h3⟩⟩
  | str z =>
    cases repO_str h
    obtain ⟨t, rfl⟩ := (show ∃ t, v = Value.str _ t from r)
    exact ⟨typeIs_str s _ t, fun _ e => nomatch e⟩
  | _ => rcases ht with h | h | h <;> exact absurd h (by simp [tyT])
/-! flat things -/
theorem flat_eq {x y : V} {a b : T} (ha : isData0 a = true) (hb : isData0 b = true) (h1 : Rep I G x a) (h2 : Rep I G y b) : flatV x = true ∧ eqT a b = some (eqV x y) := by
  have es : ∀ p q : Str, (p.cps.toList == q.cps.toList) = (p == q) := fun p q => by
    rw [Bool.eq_iff_iff, beq_iff_eq, beq_iff_eq]
    constructor
    · intro e
      cases p; cases q
      simpa using e
    · intro e; rw [e]
  cases a <;> simp only [isData0, Bool.false_eq_true] at ha <;> cases b <;> simp only [isData0, Bool.false_eq_true] at hb <;> cases h1 <;> cases h2 <;> refine ⟨rfl, ?_⟩ <;> simp [eqT, eqN, eqV, es]
theorem flats : ∀ {xs : List V} {l : List T}, Reps I G xs l → l.all isData0 = true → xs.all flatV = true
  | _, _, .nil, _ => rfl
  | _, _, .cons (t := t) h r, k => by
    rw [List.all_cons, Bool.and_eq_true] at k
    rw [List.all_cons, (flat_eq k.1 k.1 h h).1, flats r k.2]
    rfl
theorem idx_at {x : T} {l : List T} {y : V} {xs : List V} {k : Nat} (hx : isData0 x = true) (hl : l.all isData0 = true) (rx : Rep I G y x) (r : Reps I G xs l) (h : ixTs x l = some k) :
    ∃ z, xs[k]? = some z ∧ eqV z y = true ∧ ∀ (m : Nat) (z' : V), m < k → xs[m]? = some z' → eqV z' y = false := by
  unfold ixTs at h
  rw [Option.bind_eq_some_iff] at h
  obtain ⟨bs, h1, h2⟩ := h
  obtain ⟨l1, l2⟩ := eqsTo_spec h1
  unfold List.idxOf? at h2
  rw [List.findIdx?_eq_some_iff_getElem] at h2
  obtain ⟨hk, h3, h4⟩ := h2
  have hlen := r.length
  have at_ : ∀ (m : Nat) (hm : m < bs.length), ∃ z, xs[m]? = some z ∧ eqV z y = bs[m] := fun m hm => by
    have hm2 : m < l.length := by rw [← l1]; exact hm
    obtain ⟨z, e1, e2⟩ := r.get (List.getElem?_eq_getElem hm2)
    refine ⟨z, e1, ?_⟩
    have hz := List.all_eq_true.mp hl _ (List.getElem_mem hm2)
    have q := l2 m _ _ (List.getElem?_eq_getElem hm2) (List.getElem?_eq_getElem hm)
    rw [(flat_eq hz hx e2 rx).2] at q
    exact Option.some.inj q
  obtain ⟨z, e1, e2⟩ := at_ k hk
  refine ⟨z, e1, by rw [e2]; simpa using h3, fun m z' hm e => ?_⟩
  obtain ⟨w, f1, f2⟩ := at_ m (by omega)
  rw [e] at f1
  cases f1
  rw [f2]
  have := h4 m hm
  simpa using this
theorem repO_flat (gh : ∀ b o, G b = some o → H b = some o) {v : V} {t : T} (h : RepO I G H v t) (k : isData0 t = true) : Rep I G v t := by
  rcases h with h | ⟨F, h⟩
  · exact h
  · cases h; cases k
theorem idx_list : MtR X "list.index" (rMt I .index "list") := by
  intro pins s σ H x xs v us Q J rx rs h
  obtain ⟨G, tx, ts, r, gh, hty, hx, hy, hm, q⟩ := h
  cases tx <;> simp only [tyT, String.reduceEq] at hty
  rename_i l
  rcases ts with _ | ⟨y, _ | ⟨y2, r2⟩⟩
  · simp [mthV] at hm
  · simp only [mthV] at hm
    split at hm
    · rename_i hf
      rw [Bool.and_eq_true] at hf
      rw [Option.map_eq_some_iff] at hm
      obtain ⟨k, h1, rfl⟩ := hm
      obtain ⟨w, rfl, hw⟩ := ro1 hy
      have hw := repO_flat gh hw hf.1
      obtain ⟨p, xs, rfl, s1, r1⟩ := repO_lst gh hx
      obtain ⟨z, e1, e2, e3⟩ := idx_at hf.1 hf.2 hw r1 h1
      exact mt_index pins s σ H _ _ v us Q J rx rs ⟨p, xs, w, k, z, rfl, rfl, .inl s1, (flat_eq hf.1 hf.1 hw hw).1, flats r1 hf.2, e1, e2, e3, q _ _ _ (.old (.int _))⟩
    · cases hm
  · simp [mthV] at hm
theorem idx_tup (hK : I.K = X.K) : MtR X "tuple.index" (rMt I .index "tuple") := by
  intro pins s σ H x xs v us Q J rx rs h
  obtain ⟨G, tx, ts, r, gh, hty, hx, hy, hm, q⟩ := h
  cases tx <;> simp only [tyT, String.reduceEq] at hty
  rename_i l
  rcases ts with _ | ⟨y, _ | ⟨y2, r2⟩⟩
  · simp [mthV] at hm
  · simp only [mthV] at hm
    split at hm
    · rename_i hf
      rw [Bool.and_eq_true] at hf
      rw [Option.map_eq_some_iff] at hm
      obtain ⟨k, h1, rfl⟩ := hm
      obtain ⟨w, rfl, hw⟩ := ro1 hy
      have hw := repO_flat gh hw hf.1
      obtain ⟨p, xs, rfl, s1, r1, k1⟩ := repO_tup gh hx
      rw [hK] at s1
      obtain ⟨z, e1, e2, e3⟩ := idx_at hf.1 hf.2 hw r1 h1
      have fy := (flat_eq hf.1 hf.1 hw hw).1
      have fys := flats r1 hf.2
      cases (show v = _ from rx)
      obtain ⟨uy, rfl, ry⟩ := L2.vals1 rs
      obtain ⟨its, rv, pl, hz⟩ := J.tuple s1.t
      obtain ⟨⟨cls, dd, dt, sl⟩, ho, hc, n, hd⟩ := pl
      simp only at hc hd
      subst hc
      subst hd
      obtain ⟨u, hu, ru⟩ := rv.get e1
      obtain ⟨hjl, hje⟩ := List.getElem?_eq_some_iff.mp hu
      have hvl := rv.length
      have hj : k < its.toArray.size := by simpa using hjl
      refine call_meets PySem.F.slot_tuple_index ⟨_, ho, rfl⟩ PySem.F.entry_tuple_index (PySem.F.args_tuple_index_2 _ _)
        (TI.tuple_indexAt p its.toArray n dd sl uy (eqU w) k hj ?_ ?_) ⟨ho, fun u' hu' => mem_eqAt ry fy rv fys u' (by simpa using hu'), ?_⟩
      · have q1 : its.toArray[k] = u := by simpa using hje
        rw [q1, eqU_of ru (flat_at fys e1)]
        exact e2
      · intro m hm hmj
        have hml : m < its.length := by simpa using hm
        have hmy : m < xs.length := by omega
        have hy' : xs[m]? = some xs[m] := List.getElem?_eq_getElem hmy
        obtain ⟨u2, hu2, ru2⟩ := rv.get hy'
        obtain ⟨_, hme⟩ := List.getElem?_eq_some_iff.mp hu2
        have q1 : its.toArray[m] = u2 := by simpa using hme
        rw [q1, eqU_of ru2 (flat_at fys hy')]
        exact e3 m _ hmj hy'
      · exact ⟨.int (k : Nat), H, J.tok _, ⟨_, rfl⟩, q _ _ _ (.old (.int _))⟩
    · cases hm
  · simp [mthV] at hm
end
end Py
end

section
set_option maxRecDepth 100000
set_option maxHeartbeats 1000000
/-! Readings: what the evaluator says, as the hand layer asks for it. -/
namespace Py
open PySem PySem.Spec PyProof.Rows L2
structure Wd where
  I : KI
  TT : Tabs
  B : Nat → Option V
  Z : Hp
  Γ : Env
abbrev Wd.SR (w : Wd) (G : Hp) (τ : S) (fp : Nat → Addr → Prop) (σ : L2.St) (H : Hp) : Prop := Py.SR w.I w.TT w.B w.Z G τ fp σ H
def okX {α : Type} (x : Rx α) (k : α → S → Prop) : Prop := match x with
  | .ok a τ => k a τ
  | _ => False
theorem okX_bind {α β : Type} {x : Rx α} {f : α → S → Rx β} {k : β → S → Prop} : okX (x.bind f) k ↔ okX x fun a τ => okX (f a τ) k := by
  cases x <;> exact Iff.rfl
theorem okX_lift {α : Type} {o : Option α} {τ : S} {k : α → S → Prop} : okX (lift o τ) k ↔ ∃ a, o = some a ∧ k a τ := by
  cases o with
  | none => constructor
            · intro h; exact h.elim
            · rintro ⟨a, h, _⟩; cases h
  | some a => constructor
              · intro h; exact ⟨a, rfl, h⟩
              · rintro ⟨b, h, q⟩; cases h; exact q
theorem okX_mono {α : Type} {x : Rx α} {k k' : α → S → Prop} (h : okX x k) (m : ∀ a τ, k a τ → k' a τ) : okX x k' := by
  cases x with
  | ok a τ => exact m a τ h
  | ex c fs τ => exact h.elim
  | bad => exact h.elim
section
variable (w : Wd)
def rE (e : E) : TE := fun σ H Q => ∃ G τ fp, w.SR G τ fp σ H ∧ okX (ev w.Γ e τ) fun r τ' => ∀ v G' H' fp', w.SR G' τ' fp' σ H' → Stage fp G H fp' G' H' → RV w.I H fp' G' H' v r → Q v H'
def rV (e : E) : TE := fun σ H Q => ∃ G τ fp, w.SR G τ fp σ H ∧ okX (evT w.Γ e τ) fun t τ' => ∀ v G' H' fp', w.SR G' τ' fp' σ H' → Stage fp G H fp' G' H' → Rep w.I G' v t → Q v H'
def rT (e : E) : TT := fun σ H Q => ∃ G τ fp, w.SR G τ fp σ H ∧ okX (evB w.Γ e τ) fun b τ' => ∀ G' H' fp', w.SR G' τ' fp' σ H' → Stage fp G H fp' G' H' → Q b H'
def rX : E → TE
  | .pk i => tVar i
  | .bw i => tVar i
  | e => rV w e
def Args (I : KI) (G H : Hp) (σ : L2.St) : Es → List V → List T → Prop
  | .nil, vs, ts => vs = [] ∧ ts = []
  | .cons (.pk _) r, vs, ts => ∃ v us t ys, vs = v :: us ∧ ts = t :: ys ∧ RepO I G H v t ∧ Args I G H σ r us ys
  | .cons (.bw i) r, vs, ts => ∃ v us, vs = v :: us ∧ σ[i]? = some (some v) ∧ Args I G H σ r us ts
  | .cons _ r, vs, ts => ∃ v us t ys, vs = v :: us ∧ ts = t :: ys ∧ Rep I G v t ∧ Args I G H σ r us ys
  | .star _ r, vs, ts => ∃ xs us l ys, vs = xs ++ us ∧ ts = l ++ ys ∧ Reps I G xs l ∧ Args I G H σ r us ys
def rA (es : Es) : TA := fun σ H Q => ∃ G τ fp, w.SR G τ fp σ H ∧ okX (evs w.Γ es τ) fun ts τ' => ∀ vs G' H' fp', w.SR G' τ' fp' σ H' → Stage fp G H fp' G' H' → Args w.I G' H' σ es vs ts → Q vs H'
def tArgs : Es → TA
  | .nil => tNil
  | .cons e r => tCons (rX w e) (tArgs r)
  | .star e r => StX.tStar w.I.K (rV w e) (tArgs r)
end
section
variable {w : Wd} {e : E} {es : Es} {σ : L2.St} {H : Hp}
theorem rV_rE {Q : VK} (h : rV w e σ H Q) : rE w e σ H Q := by
  obtain ⟨G, τ, fp, s, h⟩ := h
  refine ⟨G, τ, fp, s, ?_⟩
  unfold evT at h
  rw [okX_bind] at h
  refine okX_mono h fun r τ' h v G' H' fp' s' st q => ?_
  rw [okX_lift] at h
  obtain ⟨t, e1, k⟩ := h
  obtain ⟨G2, s2, st2, q2⟩ := q.freeze e1 s' st
  exact k v G2 H' fp' s2 st2 q2
theorem args_cons {I : KI} {G : Hp} {v : V} {us : List V} {t : T} {ys : List T} {r : Es} (h : Rep I G v t) (a : Args I G H σ r us ys) (n1 : ∀ i, e ≠ .pk i) (n2 : ∀ i, e ≠ .bw i) : Args I G H σ (.cons e r) (v :: us) (t :: ys) := by
  cases e <;> first | exact ⟨v, us, t, ys, rfl, rfl, h, a⟩ | exact absurd rfl (n1 _) | exact absurd rfl (n2 _)
theorem evs_cons {Γ : Env} {r : Es} {τ : S} (n1 : ∀ i, e ≠ .pk i) (n2 : ∀ i, e ≠ .bw i) : evs Γ (.cons e r) τ = (evT Γ e τ).bind fun t τ => (evs Γ r τ).bind fun ts τ => .ok (t :: ts) τ := by
  cases e <;> first | (simp only [evs]; done) | exact absurd rfl (n1 _) | exact absurd rfl (n2 _)
theorem rX_plain (n1 : ∀ i, e ≠ .pk i) (n2 : ∀ i, e ≠ .bw i) : rX w e = rV w e := by
  cases e <;> first | rfl | exact absurd rfl (n1 _) | exact absurd rfl (n2 _)
theorem rA_args : ∀ {es : Es} {σ : L2.St} {H : Hp} {Q : List V → Hp → Prop}, rA w es σ H Q → tArgs w es σ H Q := by
  intro es
  match es with
  | .nil =>
    intro σ H Q h
    obtain ⟨G, τ, fp, s, h⟩ := h
    unfold evs at h
    exact h [] G H fp s .refl ⟨rfl, rfl⟩
  | .star e r =>
    intro σ H Q h
    obtain ⟨G, τ, fp, s, h⟩ := h
    unfold evs at h
    rw [okX_bind] at h
    refine ⟨G, τ, fp, s, okX_mono h fun t τ1 h v G1 H1 fp1 s1 st1 q1 => ?_⟩
    have key : ∀ l, okX ((evs w.Γ r τ1).bind fun ts τ => .ok (l ++ ts) τ) (fun ts τ' => ∀ vs G' H' fp', w.SR G' τ' fp' σ H' → Stage fp G H fp' G' H' → Args w.I G' H' σ (.star e r) vs ts → Q vs H') →
        ∀ xs, Reps w.I G1 xs l → tArgs w r σ H1 fun ys H2 => Q (xs ++ ys) H2 := by
      intro l h xs hx
      rw [okX_bind] at h
      refine rA_args ⟨G1, τ1, fp1, s1, okX_mono h fun ts τ2 h vs G2 H2 fp2 s2 st2 a => ?_⟩
      exact h _ G2 H2 fp2 s2 (st1.trans st2) ⟨xs, vs, l, ts, rfl, rfl, hx.mono st2.g, a⟩
    rw [okX_bind] at h
    have h' : (∃ l, (t = .tup l ∨ t = .lst l)) ∧ ∀ l, (t = .tup l ∨ t = .lst l) → okX ((evs w.Γ r τ1).bind fun ts τ => .ok (l ++ ts) τ) (fun ts τ' => ∀ vs G' H' fp', w.SR G' τ' fp' σ H' → Stage fp G H fp' G' H' → Args w.I G' H' σ (.star e r) vs ts → Q vs H') := by
      cases hx : evs w.Γ r τ1 with
      | ok ts τ2 =>
        rw [hx] at h
        cases t <;> first
          | exact h.elim
          | exact ⟨⟨_, .inl rfl⟩, fun l hl => by rcases hl with hl | hl <;> cases hl; exact h⟩
          | exact ⟨⟨_, .inr rfl⟩, fun l hl => by rcases hl with hl | hl <;> cases hl; exact h⟩
      | ex _ _ _ => rw [hx] at h; exact h.elim
      | bad => rw [hx] at h; exact h.elim
    obtain ⟨⟨l, hl⟩, h'⟩ := h'
    have h2 := h' l hl
    rcases hl with rfl | rfl
    · cases q1 with
      | tup hs hr => exact ⟨_, _, rfl, .inl (sqU_mono s1.sub hs).t, key l h2 _ hr⟩
    · cases q1 with
      | lst hs hr => exact ⟨_, _, rfl, .inr (.inl (rd_mono s1.sub hs)), key l h2 _ hr⟩
  | .cons e r =>
    intro σ H Q h
    obtain ⟨G, τ, fp, s, h⟩ := h
    by_cases p1 : ∃ i, e = .pk i
    · obtain ⟨i, rfl⟩ := p1
      unfold evs at h
      rw [okX_bind, okX_lift] at h
      obtain ⟨t0, e0, h⟩ := h
      obtain ⟨v, hv, _⟩ := s.get e0
      refine ⟨v, hv, rA_args ⟨G, τ, fp, s, ?_⟩⟩
      rw [okX_bind] at h
      refine okX_mono h fun ts τ2 h vs G2 H2 fp2 s2 st2 a => ?_
      rw [okX_bind, okX_lift] at h
      obtain ⟨t, e1, h⟩ := h
      obtain ⟨v', hv', o⟩ := s2.get e1
      rw [hv] at hv'
      cases hv'
      exact h _ G2 H2 fp2 s2 st2 ⟨v, vs, t, ts, rfl, rfl, o.imp id fun o => ⟨_, o⟩, a⟩
    · by_cases p2 : ∃ i, e = .bw i
      · obtain ⟨i, rfl⟩ := p2
        unfold evs at h
        rw [okX_bind, okX_lift] at h
        obtain ⟨t0, e0, h⟩ := h
        obtain ⟨v, hv, _⟩ := s.get e0
        refine ⟨v, hv, rA_args ⟨G, τ, fp, s, ?_⟩⟩
        exact okX_mono h fun ts τ2 h vs G2 H2 fp2 s2 st2 a => h _ G2 H2 fp2 s2 st2 ⟨v, vs, rfl, hv, a⟩
      · have n1 : ∀ i, e ≠ .pk i := fun i z => p1 ⟨i, z⟩
        have n2 : ∀ i, e ≠ .bw i := fun i z => p2 ⟨i, z⟩
        rw [evs_cons n1 n2, okX_bind] at h
        show rX w e σ H fun x H1 => tArgs w r σ H1 fun xs H2 => Q (x :: xs) H2
        rw [rX_plain n1 n2]
        refine ⟨G, τ, fp, s, okX_mono h fun t τ1 h v G1 H1 fp1 s1 st1 q1 => ?_⟩
        rw [okX_bind] at h
        refine rA_args ⟨G1, τ1, fp1, s1, okX_mono h fun ts τ2 h vs G2 H2 fp2 s2 st2 a => ?_⟩
        exact h _ G2 H2 fp2 s2 (st1.trans st2) (args_cons (q1.mono st2.g) a n1 n2)
termination_by es => es
/-- values alone, some only looked at -/
def noBw : Es → Bool
  | .nil => true
  | .cons (.bw _) _ => false
  | .cons _ r => noBw r
  | .star _ r => noBw r
/-- values alone -/
def noPk : Es → Bool
  | .nil => true
  | .cons (.bw _) _ => false
  | .cons (.pk _) _ => false
  | .cons _ r => noPk r
  | .star _ r => noPk r
def noStarE : Es → Bool
  | .nil => true
  | .cons _ r => noStarE r
  | .star _ _ => false
theorem Args.reps {I : KI} {G : Hp} : ∀ {es : Es} {vs : List V} {ts : List T}, noPk es = true → Args I G H σ es vs ts → Reps I G vs ts
  | .nil, _, _, _, ⟨h1, h2⟩ => by subst h1 h2; exact .nil
  | .star e r, _, _, n, ⟨xs, us, l, ys, h1, h2, h3, h4⟩ => by subst h1 h2; exact h3.append (Args.reps (es := r) n h4)
  | .cons e r, _, _, n, a => by
    cases e <;> first
      | (simp only [noPk, Bool.false_eq_true] at n; done)
      | (obtain ⟨v, us, t, ys, h1, h2, h3, h4⟩ := a
         subst h1 h2
         exact .cons h3 (Args.reps (es := r) n h4))
theorem repOs_of {I : KI} {G : Hp} : ∀ {vs : List V} {ts : List T}, Reps I G vs ts → RepOs I G H vs ts
  | _, _, .nil => .nil
  | _, _, .cons h r => .cons (.inl h) (repOs_of r)
theorem repOs_app {I : KI} {G : Hp} : ∀ {vs us : List V} {ts ys : List T}, RepOs I G H vs ts → RepOs I G H us ys → RepOs I G H (vs ++ us) (ts ++ ys)
  | _, _, _, _, .nil, h => h
  | _, _, _, _, .cons h r, s => .cons h (repOs_app r s)
theorem Args.repOs {I : KI} {G : Hp} : ∀ {es : Es} {vs : List V} {ts : List T}, noBw es = true → Args I G H σ es vs ts → RepOs I G H vs ts
  | .nil, _, _, _, ⟨h1, h2⟩ => by subst h1 h2; exact .nil
  | .star e r, _, _, n, ⟨xs, us, l, ys, h1, h2, h3, h4⟩ => by subst h1 h2; exact repOs_app (repOs_of h3) (Args.repOs (es := r) n h4)
  | .cons e r, _, _, n, a => by
    cases e <;> first
      | (simp only [noBw, Bool.false_eq_true] at n; done)
      | (obtain ⟨v, us, t, ys, h1, h2, h3, h4⟩ := a
         subst h1 h2
         first
           | exact .cons h3 (Args.repOs (es := r) n h4)
           | exact .cons (.inl h3) (Args.repOs (es := r) n h4))
/-- an operation on values -/
theorem rE_op {f : List T → Option Sl} {Q : VK} (he : ∀ τ, ev w.Γ e τ = (evs w.Γ es τ).bind fun ts τ => lift (f ts) τ) (n : noBw es = true) (h : rE w e σ H Q) : rA w es σ H fun vs H1 => rBl w.I f vs H1 Q := by
  obtain ⟨G, τ, fp, s, h⟩ := h
  rw [he, okX_bind] at h
  refine ⟨G, τ, fp, s, okX_mono h fun ts τ1 h vs G1 H1 fp1 s1 st1 a => ?_⟩
  rw [okX_lift] at h
  obtain ⟨r, e1, h⟩ := h
  refine ⟨G1, ts, r, s1.sub, a.repOs n, e1, fun v G2 H2 o => ?_⟩
  obtain ⟨s2, st2, q⟩ := out_ok o s1 st1
  exact h v G2 H2 fp1 s2 st2 q
/-- .. that keeps them -/
def rSt (I : KI) (f : List T → Option Sl) : List V → Hp → VK → Prop := fun xs H Q => ∃ G ts r, (∀ b o, G b = some o → H b = some o) ∧ Reps I G xs ts ∧ f ts = some r ∧ ∀ v G' H', Out I G H v G' H' r → Q v H'
theorem rE_st {f : List T → Option Sl} {Q : VK} (he : ∀ τ, ev w.Γ e τ = (evs w.Γ es τ).bind fun ts τ => lift (f ts) τ) (n : noPk es = true) (h : rE w e σ H Q) : rA w es σ H fun vs H1 => rSt w.I f vs H1 Q := by
  obtain ⟨G, τ, fp, s, h⟩ := h
  rw [he, okX_bind] at h
  refine ⟨G, τ, fp, s, okX_mono h fun ts τ1 h vs G1 H1 fp1 s1 st1 a => ?_⟩
  rw [okX_lift] at h
  obtain ⟨r, e1, h⟩ := h
  refine ⟨G1, ts, r, s1.sub, a.reps n, e1, fun v G2 H2 o => ?_⟩
  obtain ⟨s2, st2, q⟩ := out_ok o s1 st1
  exact h v G2 H2 fp1 s2 st2 q
end
theorem PE.imp {X : Cx} {a : Expr} {t t' : TE} (h : PE X a t) (m : ∀ σ H Q, t' σ H Q → t σ H Q) : PE X a t' := ⟨fun pins s σ H Q I q => h.run pins s σ H Q I (m σ H Q q)⟩
theorem PT.imp {X : Cx} {a : Expr} {t t' : TT} (h : PT X a t) (m : ∀ σ H Q, t' σ H Q → t σ H Q) : PT X a t' := ⟨fun pins s σ H Q I q => h.run pins s σ H Q I (m σ H Q q)⟩
theorem PA.imp {X : Cx} {a : List Expr} {t t' : TA} (h : PA X a t) (m : ∀ σ H Q, t' σ H Q → t σ H Q) : PA X a t' := ⟨fun pos pins s σ H Q I q => h.run pos pins s σ H Q I (m σ H Q q)⟩
end Py
end

section
set_option maxRecDepth 100000
set_option maxHeartbeats 1000000
/-! What a call asks, what it gives. -/
namespace Py
open PySem PySem.Spec PyProof.Rows L2
def reBo : List Sl → List T → List Sl
  | .bo _ :: as, t :: ts => .bo t :: reBo as ts
  | a :: as, ts => a :: reBo as ts
  | [], _ => []
/-- a def's promise -/
def spC (w : Wd) (f : Nat) (vs : List V) (H : Hp) (Q : VK) : Prop := ∃ G as fp, Py.SR w.I w.TT (fun i => vs[i]?) H G as fp (vs.map some) H ∧ ∃ r outs, w.Γ.run f as = .ok r outs ∧
  ∀ v G' H' fp', Py.SR w.I w.TT (fun i => vs[i]?) H G' (reBo as outs) fp' (vs.map some) H' → Stage fp G H fp' G' H' → RV w.I H fp' G' H' v r → Q v H'
def bwAt : Es → Nat → Option Nat
  | .cons (.bw i) _, 0 => some i
  | .cons _ r, j + 1 => bwAt r j
  | _, _ => none
theorem okX_run {x : FR} {k : List T → Option S} {P : Sl → S → Prop} (h : okX (x.toRx k) P) : ∃ r outs τ, x = .ok r outs ∧ k outs = some τ ∧ P r τ := by
  cases x with
  | ok r outs =>
    simp only [FR.toRx] at h
    cases e : k outs with
    | none => rw [e] at h; exact h.elim
    | some τ => rw [e] at h; exact ⟨r, outs, τ, rfl, e, h⟩
  | ex c fs outs =>
    simp only [FR.toRx] at h
    cases e : k outs with
    | none => rw [e] at h; exact h.elim
    | some τ => rw [e] at h; exact h.elim
  | bad => exact h.elim
theorem own_lt {τ : S} {i : Nat} {t : T} (h : ownAt τ i = some t) : τ[i]? = some (.ow t) ∨ τ[i]? = some (.bo t) := by
  unfold ownAt slAt at h
  cases q : τ[i]? with
  | none => rw [q] at h; cases h
  | some x =>
    rw [q] at h
    cases x with
    | no => cases h
    | sh u => cases h
    | ow u => exact .inl (by rw [show u = t from Option.some.inj h])
    | bo u => exact .inr (by rw [show u = t from Option.some.inj h])
theorem own_set {τ : S} {i j : Nat} {t u : T} (h : ownAt τ i = some u) (h2 : ownAt (τ.set i .no) j = some t) : j ≠ i ∧ ownAt τ j = some t := by
  have ne : j ≠ i := by
    rintro rfl
    have hl : j < τ.length := by
      rcases own_lt h with e | e <;> exact (List.getElem?_eq_some_iff.mp e).1
    rcases own_lt h2 with e | e <;> (rw [List.getElem?_set_self hl] at e; cases e)
  refine ⟨ne, ?_⟩
  unfold ownAt slAt at h2 ⊢
  rw [List.getElem?_set_ne (Ne.symm ne)] at h2
  exact h2
structure ArgsAt (I : KI) (G : Hp) (σ : L2.St) (τ : S) (es : Es) (vs : List V) (as : List Sl) : Prop where
  len : as.length = vs.length
  sh : ∀ (j : Nat) (t : T), as[j]? = some (Sl.sh t) → ∃ v, vs[j]? = some v ∧ Rep I G v t
  bo : ∀ (j : Nat) (t : T), as[j]? = some (Sl.bo t) → ∃ i v, bwAt es j = some i ∧ vs[j]? = some v ∧ σ[i]? = some (some v) ∧ ownAt τ i = some t
  no : ∀ (j : Nat) (t : T), as[j]? ≠ some (Sl.ow t)
  bw : ∀ (j i : Nat), bwAt es j = some i → ∃ t, as[j]? = some (Sl.bo t)
  dis : ∀ (j k i : Nat), bwAt es j = some i → bwAt es k = some i → j = k
theorem argS_plain {e : E} {r : Es} {τ : S} {t : T} {ts : List T} (n2 : ∀ i, e ≠ .bw i) : argS (.cons e r) τ (t :: ts) = (argS r τ ts).map (.sh t :: ·) := by
  cases e <;> first | (simp only [argS]; done) | exact absurd rfl (n2 _)
theorem argS_plain0 {e : E} {r : Es} {τ : S} (n2 : ∀ i, e ≠ .bw i) : argS (.cons e r) τ [] = none := by
  cases e <;> first | (simp only [argS]; done) | exact absurd rfl (n2 _)
theorem bwAt_plain {e : E} {r : Es} (n2 : ∀ i, e ≠ .bw i) : bwAt (.cons e r) 0 = none := by
  cases e <;> first | (simp only [bwAt]; done) | exact absurd rfl (n2 _)
theorem bwAt_succ {e : E} {r : Es} {j : Nat} : bwAt (.cons e r) (j + 1) = bwAt r j := by
  cases e <;> simp only [bwAt]
/-- values alone, lent names -/
def noPk' : Es → Bool
  | .nil => true
  | .cons (.pk _) _ => false
  | .cons _ r => noPk' r
  | .star _ _ => false
theorem args_plain {I : KI} {G H : Hp} {σ : L2.St} {e : E} {r : Es} {vs : List V} {ts : List T} (n2 : ∀ i, e ≠ .bw i) (n : noPk' (.cons e r) = true) (a : Args I G H σ (.cons e r) vs ts) :
    noPk' r = true ∧ ∃ v us t ys, vs = v :: us ∧ ts = t :: ys ∧ Rep I G v t ∧ Args I G H σ r us ys := by
  cases e <;> first | exact absurd rfl (n2 _) | (simp only [noPk', Bool.false_eq_true] at n; done) | exact ⟨n, a⟩
theorem args_at {I : KI} {G H : Hp} {σ : L2.St} : ∀ {es : Es} {τ : S} {vs : List V} {ts : List T} {as : List Sl}, noPk' es = true → argS es τ ts = some as → Args I G H σ es vs ts → ArgsAt I G σ τ es vs as
  | .star _ _, _, _, _, _, n, _, _ => by simp [noPk'] at n
  | .nil, τ, vs, ts, as, _, h, ⟨h1, h2⟩ => by
    subst h1 h2
    simp only [argS] at h
    cases h
    exact ⟨rfl, fun j t h => by simp at h, fun j t h => by simp at h, fun j t h => by simp at h, fun j i h => by simp [bwAt] at h, fun j k i h => by simp [bwAt] at h⟩
  | .cons e r, τ, vs, ts, as, n, h, a => by
    by_cases p2 : ∃ i, e = .bw i
    · obtain ⟨i, rfl⟩ := p2
      obtain ⟨v, us, rfl, hv, a⟩ := a
      simp only [argS, Option.bind_eq_some_iff, Option.map_eq_some_iff] at h
      obtain ⟨t, h1, as', h2, rfl⟩ := h
      have q := args_at (es := r) n h2 a
      refine ⟨by simp [q.len], fun j u e => ?_, fun j u e => ?_, fun j u e => ?_, fun j k e => ?_, fun j k m e1 e2 => ?_⟩
      · cases j with
        | zero => simp at e
        | succ j => exact q.sh j u (by simpa using e)
      · cases j with
        | zero =>
          simp at e
          subst e
          exact ⟨i, v, rfl, rfl, hv, h1⟩
        | succ j =>
          obtain ⟨k, w, b1, b2, b3, b4⟩ := q.bo j u (by simpa using e)
          exact ⟨k, w, b1, by simpa using b2, b3, (own_set h1 b4).2⟩
      · cases j with
        | zero => simp at e
        | succ j => exact q.no j u (by simpa using e)
      · cases j with
        | zero => exact ⟨t, rfl⟩
        | succ j => exact q.bw j k e
      · have key : ∀ j', bwAt r j' ≠ some i := fun j' e => by
          obtain ⟨u, hu⟩ := q.bw j' i e
          obtain ⟨k', w, b1, b2, b3, b4⟩ := q.bo j' u hu
          rw [e] at b1
          cases b1
          exact (own_set h1 b4).1 rfl
        cases j with
        | zero =>
          have e1 : some i = some m := e1
          cases e1
          cases k with
          | zero => rfl
          | succ k => exact absurd e2 (key k)
        | succ j =>
          cases k with
          | zero =>
            have e2 : some i = some m := e2
            cases e2
            exact absurd e1 (key j)
          | succ k => rw [q.dis j k m e1 e2]
    · have n2 : ∀ i, e ≠ .bw i := fun i z => p2 ⟨i, z⟩
      obtain ⟨n, v, us, t, ys, rfl, rfl, hv, a⟩ := args_plain n2 n a
      rw [argS_plain n2, Option.map_eq_some_iff] at h
      obtain ⟨as', h2, rfl⟩ := h
      have q := args_at (es := r) n h2 a
      refine ⟨by simp [q.len], fun j u e => ?_, fun j u e => ?_, fun j u e => ?_, fun j k e => ?_, fun j k m e1 e2 => ?_⟩
      · cases j with
        | zero =>
          simp at e
          subst e
          exact ⟨v, rfl, hv⟩
        | succ j => exact q.sh j u (by simpa using e)
      · cases j with
        | zero => simp at e
        | succ j =>
          obtain ⟨k, w, b1, b2, b3, b4⟩ := q.bo j u (by simpa using e)
          exact ⟨k, w, by rw [bwAt_succ]; exact b1, by simpa using b2, b3, b4⟩
      · cases j with
        | zero => simp at e
        | succ j => exact q.no j u (by simpa using e)
      · cases j with
        | zero => rw [bwAt_plain n2] at e; cases e
        | succ j => rw [bwAt_succ] at e; exact q.bw j k e
      · cases j with
        | zero => rw [bwAt_plain n2] at e1; cases e1
        | succ j =>
          cases k with
          | zero => rw [bwAt_plain n2] at e2; cases e2
          | succ k => rw [bwAt_succ] at e1 e2; rw [q.dis j k m e1 e2]
theorem give_plain {e : E} {r : Es} {τ : S} {ts : List T} (n2 : ∀ i, e ≠ .bw i) : giveBack (.cons e r) τ ts = giveBack r τ ts := by
  cases e <;> cases ts <;> first | (simp only [giveBack]; done) | exact absurd rfl (n2 _)
theorem slAt_some {τ : S} {i : Nat} {x : Sl} (h : τ[i]? = some x) : slAt τ i = x := by unfold slAt; rw [h]; rfl
/-- the state behind the call, place by place -/
structure Given (es : Es) (as : List Sl) (τ0 : S) (outs : List T) (τ : S) : Prop where
  len : τ.length = τ0.length
  out : ∀ (i : Nat), (∀ j, bwAt es j ≠ some i) → τ[i]? = τ0[i]?
  inn : ∀ (j i : Nat), bwAt es j = some i → ∃ t, (reBo as outs)[j]? = some (Sl.bo t) ∧ ((∀ u, slAt τ0 i ≠ Sl.bo u) ∧ τ[i]? = some (Sl.ow t) ∨ (∃ u, slAt τ0 i = Sl.bo u) ∧ τ[i]? = some (Sl.bo t))
theorem give_back : ∀ {es : Es} {τ τ0 : S} {ts outs : List T} {as : List Sl} {τ' : S}, noPk' es = true → argS es τ ts = some as → (∀ i t, ownAt τ i = some t → ownAt τ0 i = some t) → (∀ j i, bwAt es j = some i → i < τ0.length) → giveBack es τ0 outs = some τ' →
    (∀ j k i, bwAt es j = some i → bwAt es k = some i → j = k) → Given es as τ0 outs τ'
  | .star _ _, _, _, _, _, _, _, n, _, _, _, _, _ => by simp [noPk'] at n
  | .nil, τ, τ0, ts, outs, as, τ', _, h, _, _, g, _ => by
    cases outs with
    | cons _ _ => simp [giveBack] at g
    | nil =>
      simp only [giveBack] at g
      cases g
      exact ⟨rfl, fun _ _ => rfl, fun j i h => by simp [bwAt] at h⟩
  | .cons e r, τ, τ0, ts, outs, as, τ', n, h, k, lt, g, dd => by
    by_cases p2 : ∃ i, e = .bw i
    · obtain ⟨i, rfl⟩ := p2
      cases outs with
      | nil => simp [giveBack] at g
      | cons t outs =>
        simp only [giveBack] at g
        simp only [argS, Option.bind_eq_some_iff, Option.map_eq_some_iff] at h
        obtain ⟨u, h1, as', h2, rfl⟩ := h
        have il : i < τ0.length := lt 0 i rfl
        have nk : ∀ j, bwAt r j ≠ some i := fun j e => by
          have := dd 0 (j + 1) i rfl (by rw [bwAt_succ]; exact e)
          omega
        have cl : (change τ0 i t).length = τ0.length := by unfold change; split <;> simp
        have cne : ∀ k, k ≠ i → (change τ0 i t)[k]? = τ0[k]? := fun k hk => by
          unfold change
          split <;> rw [List.getElem?_set_ne (Ne.symm hk)]
        have q := give_back (es := r) (τ := τ.set i .no) (τ0 := change τ0 i t) n h2 (fun k' t' e => by
          obtain ⟨ne, e2⟩ := own_set h1 e
          have := k k' t' e2
          unfold ownAt slAt at this ⊢
          rw [cne k' ne]
          exact this) (fun j k' e => by rw [cl]; exact lt (j + 1) k' (by rw [bwAt_succ]; exact e)) g (fun j k' m e1 e2 => by
          have := dd (j + 1) (k' + 1) m (by rw [bwAt_succ]; exact e1) (by rw [bwAt_succ]; exact e2)
          omega)
        refine ⟨q.len.trans cl, fun k' hk => ?_, fun j k' e => ?_⟩
        · have ne : k' ≠ i := fun z => hk 0 (by rw [z]; rfl)
          rw [q.out k' fun j e => hk (j + 1) (by rw [bwAt_succ]; exact e), cne k' ne]
        · cases j with
          | zero =>
            have e : some i = some k' := e
            cases e
            refine ⟨t, rfl, ?_⟩
            rw [q.out i nk]
            by_cases hb : ∃ u, slAt τ0 i = Sl.bo u
            · refine .inr ⟨hb, ?_⟩
              obtain ⟨u, hb⟩ := hb
              unfold change
              rw [hb]
              exact List.getElem?_set_self il
            · refine .inl ⟨fun u z => hb ⟨u, z⟩, ?_⟩
              unfold change
              split
              · rename_i z; exact absurd ⟨_, z⟩ hb
              · exact List.getElem?_set_self il
          | succ j =>
            rw [bwAt_succ] at e
            have ne : k' ≠ i := fun z => nk j (by rw [← z]; exact e)
            obtain ⟨t', b1, b2⟩ := q.inn j k' e
            have es : slAt (change τ0 i t) k' = slAt τ0 k' := by unfold slAt; rw [cne k' ne]
            rw [es] at b2
            exact ⟨t', b1, b2⟩
    · have n2 : ∀ i, e ≠ .bw i := fun i z => p2 ⟨i, z⟩
      rw [give_plain n2] at g
      cases ts with
      | nil => rw [argS_plain0 n2] at h; cases h
      | cons t ts =>
        rw [argS_plain n2, Option.map_eq_some_iff] at h
        obtain ⟨as', h2, rfl⟩ := h
        have n' : noPk' r = true := by
          cases e <;> first | exact n | (simp [noPk'] at n; done)
        have q := give_back (es := r) (τ := τ) (τ0 := τ0) n' h2 k (fun j k' e => lt (j + 1) k' (by rw [bwAt_succ]; exact e)) g (fun j k' m e1 e2 => by
          have := dd (j + 1) (k' + 1) m (by rw [bwAt_succ]; exact e1) (by rw [bwAt_succ]; exact e2)
          omega)
        refine ⟨q.len, fun k' hk => q.out k' fun j e => hk (j + 1) (by rw [bwAt_succ]; exact e), fun j k' e => ?_⟩
        cases j with
        | zero => rw [bwAt_plain n2] at e; cases e
        | succ j =>
          rw [bwAt_succ] at e
          obtain ⟨t', b1, b2⟩ := q.inn j k' e
          refine ⟨t', ?_, b2⟩
          show (reBo (Sl.sh t :: as') outs)[j + 1]? = _
          cases outs <;> exact b1
section
variable {w : Wd} {σ : L2.St} {H : Hp}
/-- the callee's footprints -/
def fpC (es : Es) (fp : Nat → Addr → Prop) : Nat → Addr → Prop := fun j b => ∃ i, bwAt es j = some i ∧ fp i b
/-- the caller's, behind it -/
def fpB (es : Es) (fp fp2 : Nat → Addr → Prop) : Nat → Addr → Prop := fun i b => (∃ j, bwAt es j = some i ∧ fp2 j b) ∨ ((∀ j, bwAt es j ≠ some i) ∧ fp i b)
theorem map_some {vs : List V} {j : Nat} {v : V} : (vs.map some)[j]? = some (some v) ↔ vs[j]? = some v := by
  rw [List.getElem?_map]
  cases vs[j]? <;> simp
theorem callee_in {G : Hp} {τ : S} {fp : Nat → Addr → Prop} {es : Es} {vs : List V} {as : List Sl} (s : w.SR G τ fp σ H) (q : ArgsAt w.I G σ τ es vs as) : Py.SR w.I w.TT (fun i => vs[i]?) H G as (fpC es fp) (vs.map some) H where
  sub := s.sub
  ntb := s.ntb
  sh := fun i t e => by
    obtain ⟨v, h1, h2⟩ := q.sh i t e
    exact ⟨v, map_some.mpr h1, h2⟩
  ow := fun i t e => absurd e (q.no i t)
  bo := fun j t e => by
    obtain ⟨i, v, b1, b2, b3, b4⟩ := q.bo j t e
    refine ⟨v, b2, map_some.mpr b2, ?_⟩
    have hf : fpC es fp j = fp i := by
      funext b
      unfold fpC
      rw [b1]
      exact propext ⟨fun ⟨k, h1, h2⟩ => by cases h1; exact h2, fun h => ⟨i, rfl, h⟩⟩
    rw [hf]
    rcases own_lt b4 with e2 | e2
    · obtain ⟨v', c1, c2⟩ := s.ow i t e2
      rw [b3] at c1
      cases c1
      exact c2
    · obtain ⟨v', _, c1, c2⟩ := s.bo i t e2
      rw [b3] at c1
      cases c1
      exact c2
  dis := fun j k b ⟨i, h1, h2⟩ ⟨i', h3, h4⟩ => by
    have e := s.dis i i' b h2 h4
    subst e
    exact q.dis j k i h1 h3
  out := fun j b ⟨i, h1, h2⟩ => s.out i b h2
  emp := fun j hj b ⟨i, h1, h2⟩ => by
    obtain ⟨t, ht⟩ := q.bw j i h1
    exact (hj t).2 ht
  len := by rw [List.length_map]; exact q.len
  tabs := s.tabs
  up := fun b h => h
  fr := fun j t b e => absurd e (q.no j t)
theorem caller_out {G G2 H2 : Hp} {τ τ2 : S} {fp fp2 : Nat → Addr → Prop} {es : Es} {vs : List V} {as : List Sl} {outs : List T} (s : w.SR G τ fp σ H) (q : ArgsAt w.I G σ τ es vs as) (g : Given es as τ outs τ2)
    (s2 : Py.SR w.I w.TT (fun i => vs[i]?) H G2 (reBo as outs) fp2 (vs.map some) H2) (st : Stage (fpC es fp) G H fp2 G2 H2) : w.SR G2 τ2 (fpB es fp fp2) σ H2 ∧ Stage fp G H (fpB es fp fp2) G2 H2 := by
  have notC : ∀ {i b}, (∀ j, bwAt es j ≠ some i) → fp i b → ∀ j, ¬ fpC es fp j b := fun {i b} n h j ⟨k, e1, e2⟩ => by
    have := s.dis _ _ b h e2
    subst this
    exact n j e1
  have keep : ∀ {i b}, (∀ j, bwAt es j ≠ some i) → fp i b → H2 b = H b ∧ G2 b = none := fun {i b} n h => by
    obtain ⟨h1, o, h2, h3⟩ := s.out i b h
    refine ⟨by rw [h2]; exact st.h b o h2 h3 (notC n h), ?_⟩
    cases e : G2 b with
    | none => rfl
    | some u =>
      rcases st.n b (by rw [e]; simp) with z | z | ⟨j, z⟩
      · exact absurd h1 z
      · rw [h2] at z; cases z
      · exact absurd z (notC n h j)
  have atJ : ∀ {j i}, bwAt es j = some i → ∃ v, vs[j]? = some v ∧ σ[i]? = some (some v) := fun {j i} e => by
    obtain ⟨t, ht⟩ := q.bw j i e
    obtain ⟨i', v, b1, b2, b3, _⟩ := q.bo j t ht
    rw [e] at b1
    cases b1
    exact ⟨v, b2, b3⟩
  have fpJ : ∀ {j i}, bwAt es j = some i → fpB es fp fp2 i = fp2 j := fun {j i} e => by
    funext b
    refine propext ⟨fun h => ?_, fun h => .inl ⟨j, e, h⟩⟩
    rcases h with ⟨k, h1, h2⟩ | ⟨h1, _⟩
    · rw [q.dis j k i e h1]; exact h2
    · exact absurd e (h1 j)
  have fpN : ∀ {i}, (∀ j, bwAt es j ≠ some i) → fpB es fp fp2 i = fp i := fun {i} n => by
    funext b
    refine propext ⟨fun h => ?_, fun h => .inr ⟨n, h⟩⟩
    rcases h with ⟨k, h1, h2⟩ | ⟨_, h⟩
    · exact absurd h1 (n k)
    · exact h
  have cases_ : ∀ i, (∀ j, bwAt es j ≠ some i) ∨ ∃ j, bwAt es j = some i := fun i => by
    by_cases h : ∃ j, bwAt es j = some i
    · exact .inr h
    · exact .inl fun j e => h ⟨j, e⟩
  have isB : ∀ {i u}, slAt τ i = Sl.bo u → τ[i]? = some (Sl.bo u) := fun {i u} h => by
    unfold slAt at h
    cases e : τ[i]? with
    | none => rw [e] at h; cases h
    | some x => rw [e] at h; rw [show x = Sl.bo u from h]
  refine ⟨⟨s2.sub, s2.ntb, fun i t e => ?_, fun i t e => ?_, fun i t e => ?_, fun i i' b h h' => ?_, fun i b h => ?_, fun i hi b h => ?_, g.len.trans s.len, s2.tabs, fun b h => st.l b (s.up b h), fun i t b e h => ?_⟩,
    ⟨st.g, fun b o e nt nf => st.h b o e nt fun j ⟨i, h1, h2⟩ => nf i h2, st.tb, fun b h => ?_, fun i b h => ?_, st.l⟩⟩
  · rcases cases_ i with n | ⟨j, hj⟩
    · rw [g.out i n] at e
      obtain ⟨v, h1, h2⟩ := s.sh i t e
      exact ⟨v, h1, h2.mono st.g⟩
    · obtain ⟨t', b1, b2⟩ := g.inn j i hj
      rcases b2 with ⟨_, b2⟩ | ⟨_, b2⟩ <;> (rw [e] at b2; cases b2)
  · rcases cases_ i with n | ⟨j, hj⟩
    · rw [g.out i n] at e
      obtain ⟨v, h1, h2⟩ := s.ow i t e
      rw [fpN n]
      exact ⟨v, h1, h2.mono st.g fun b hb => (keep n hb).1⟩
    · obtain ⟨t', b1, b2⟩ := g.inn j i hj
      rcases b2 with ⟨_, b2⟩ | ⟨_, b2⟩
      · rw [e] at b2
        cases b2
        obtain ⟨v, c1, c2, c3⟩ := s2.bo j t b1
        obtain ⟨v', d1, d2⟩ := atJ hj
        rw [d1] at c1
        cases c1
        rw [fpJ hj]
        exact ⟨_, d2, c3⟩
      · rw [e] at b2; cases b2
  · rcases cases_ i with n | ⟨j, hj⟩
    · rw [g.out i n] at e
      obtain ⟨v, h0, h1, h2⟩ := s.bo i t e
      rw [fpN n]
      exact ⟨v, h0, h1, h2.mono st.g fun b hb => (keep n hb).1⟩
    · obtain ⟨t', b1, b2⟩ := g.inn j i hj
      rcases b2 with ⟨_, b2⟩ | ⟨⟨u, hu⟩, b2⟩
      · rw [e] at b2; cases b2
      · rw [e] at b2
        cases b2
        obtain ⟨v, c1, c2, c3⟩ := s2.bo j t b1
        obtain ⟨v', d1, d2⟩ := atJ hj
        rw [d1] at c1
        cases c1
        obtain ⟨v2, h0, h1, _⟩ := s.bo i u (isB hu)
        rw [d2] at h1
        cases h1
        rw [fpJ hj]
        exact ⟨_, h0, d2, c3⟩
  · rcases h with ⟨j, h1, h2⟩ | ⟨n, h2⟩ <;> rcases h' with ⟨j', h1', h2'⟩ | ⟨n', h2'⟩
    · have := s2.dis j j' b h2 h2'
      subst this
      rw [h1] at h1'
      cases h1'
      rfl
    · exfalso
      rcases st.o j b h2 with hk | z
      · exact notC n' h2' j hk
      · obtain ⟨_, o, e, _⟩ := s.out i' b h2'
        rw [z] at e; cases e
    · exfalso
      rcases st.o j' b h2' with hk | z
      · exact notC n h2 j' hk
      · obtain ⟨_, o, e, _⟩ := s.out i b h2
        rw [z] at e; cases e
    · exact s.dis i i' b h2 h2'
  · rcases h with ⟨j, h1, h2⟩ | ⟨n, h2⟩
    · exact s2.out j b h2
    · obtain ⟨e1, o, e2, e3⟩ := s.out i b h2
      obtain ⟨k1, k2⟩ := keep n h2
      exact ⟨k2, o, by rw [k1]; exact e2, e3⟩
  · rcases cases_ i with n | ⟨j, hj⟩
    · rw [fpN n] at h
      exact s.emp i (fun t => by rw [← g.out i n]; exact hi t) b h
    · obtain ⟨t', b1, b2⟩ := g.inn j i hj
      rcases b2 with ⟨_, b2⟩ | ⟨_, b2⟩
      · exact (hi t').1 b2
      · exact (hi t').2 b2
  · rcases cases_ i with n | ⟨j, hj⟩
    · rw [g.out i n] at e
      rw [fpN n] at h
      exact s.fr i t b e h
    · rw [fpJ hj] at h
      obtain ⟨t', b1, b2⟩ := g.inn j i hj
      rcases b2 with ⟨nb, b2⟩ | ⟨_, b2⟩
      · obtain ⟨u, hu⟩ := q.bw j i hj
        obtain ⟨i', v, c1, c2, c3, c4⟩ := q.bo j u hu
        rw [hj] at c1
        cases c1
        rcases own_lt c4 with z | z
        · rcases st.o j b h with ⟨k1, k2, k3⟩ | z2
          · rw [hj] at k2
            cases k2
            exact s.fr _ u b z k3
          · cases hz : w.Z b with
            | none => rfl
            | some o => exact absurd z2 (s.up b (by rw [hz]; simp))
        · exact absurd (slAt_some z) (nb u)
      · rw [e] at b2; cases b2
  · rcases st.n b h with z | z | ⟨j, i, z1, z2⟩
    · exact .inl z
    · exact .inr (.inl z)
    · exact .inr (.inr ⟨i, z2⟩)
  · rcases h with ⟨j, h1, h2⟩ | ⟨n, h2⟩
    · rcases st.o j b h2 with ⟨i', e, z⟩ | z
      · rw [h1] at e
        cases e
        exact .inl z
      · exact .inr z
    · exact .inl h2
theorem call_rd {f : Nat} {es : Es} {Q : VK} (n : noPk' es = true) (h : rE w (.call f es) σ H Q) : rA w es σ H fun vs H1 => spC w f vs H1 Q := by
  obtain ⟨G, τ, fp, s, h⟩ := h
  rw [ev, okX_bind] at h
  refine ⟨G, τ, fp, s, okX_mono h fun ts τ1 h vs G1 H1 fp1 s1 st1 a => ?_⟩
  rw [okX_bind, okX_lift] at h
  obtain ⟨as, h1, h⟩ := h
  obtain ⟨r, outs, τ2, h2, h3, h4⟩ := okX_run h
  have q := args_at n h1 a
  have lt : ∀ j i, bwAt es j = some i → i < τ1.length := fun j i e => by
    obtain ⟨t, ht⟩ := q.bw j i e
    obtain ⟨i', v, b1, _, _, b4⟩ := q.bo j t ht
    rw [e] at b1
    cases b1
    rcases own_lt b4 with z | z <;> exact (List.getElem?_eq_some_iff.mp z).1
  have g := give_back n h1 (fun _ _ e => e) lt h3 q.dis
  refine ⟨G1, as, fpC es fp1, callee_in s1 q, r, outs, h2, fun v G2 H2 fp2 s2 st2 rv => ?_⟩
  obtain ⟨s3, st3⟩ := caller_out s1 q g s2 st2
  refine h4 v G2 H2 _ s3 (st1.trans st3) ?_
  cases rv with
  | sh hr => exact .sh hr
  | ow hr hF =>
    refine .ow hr fun b hb => ?_
    obtain ⟨f1, f2, f3⟩ := hF b hb
    have back : H b = none := by
      cases q : H b with
      | none => rfl
      | some o => exact absurd f1 (st1.l b (by rw [q]; simp))
    refine ⟨back, f2, fun i hi => ?_⟩
    rcases hi with ⟨j, _, z⟩ | ⟨_, z⟩
    · exact f3 j z
    · obtain ⟨_, o, z2, _⟩ := s1.out i b z
      rw [f1] at z2; cases z2
theorem permute_reps {I : KI} {G : Hp} {vs : List V} {ts : List T} (r : Reps I G vs ts) : ∀ {perm : List Nat} {us : List T}, permute ts perm = some us → ∃ ws, permute vs perm = some ws ∧ Reps I G ws us
  | [], us, h => by
    simp only [permute] at h
    cases h
    exact ⟨[], rfl, .nil⟩
  | i :: p, us, h => by
    simp only [permute, Option.bind_eq_some_iff, Option.map_eq_some_iff] at h
    obtain ⟨t, h1, ys, h2, rfl⟩ := h
    obtain ⟨v, e1, e2⟩ := r.get h1
    obtain ⟨ws, f1, f2⟩ := permute_reps r h2
    exact ⟨v :: ws, by simp [permute, e1, f1], .cons e2 f2⟩
theorem args_vals {G : Hp} {τ : S} {us : List V} {ts : List T} (r : Reps w.I G us ts) : ArgsAt w.I G σ τ .nil us (ts.map Sl.sh) where
  len := by rw [List.length_map]; exact r.length.symm
  sh := fun j t e => by
    rw [List.getElem?_map, Option.map_eq_some_iff] at e
    obtain ⟨u, e1, e2⟩ := e
    cases e2
    exact r.get e1
  bo := fun j t e => by
    rw [List.getElem?_map, Option.map_eq_some_iff] at e
    obtain ⟨u, _, e2⟩ := e
    cases e2
  no := fun j t e => by
    rw [List.getElem?_map, Option.map_eq_some_iff] at e
    obtain ⟨u, _, e2⟩ := e
    cases e2
  bw := fun j i e => by simp [bwAt] at e
  dis := fun j k i e => by simp [bwAt] at e
def Es.len : Es → Nat
  | .nil => 0
  | .cons _ r => r.len + 1
  | .star _ r => r.len
theorem Args.len {I : KI} {G H : Hp} {σ : L2.St} : ∀ {es : Es} {vs : List V} {ts : List T}, noStarE es = true → Args I G H σ es vs ts → vs.length = es.len
  | .nil, _, _, _, ⟨h1, _⟩ => by subst h1; rfl
  | .star _ _, _, _, n, _ => by simp [noStarE] at n
  | .cons e r, _, _, n, a => by
    cases e <;> first
      | (obtain ⟨v, us, t, ys, h1, h2, _, a⟩ := a
         subst h1
         show us.length + 1 = r.len + 1
         rw [Args.len (es := r) n a])
      | (obtain ⟨v, us, h1, _, a⟩ := a
         subst h1
         show us.length + 1 = r.len + 1
         rw [Args.len (es := r) n a])
theorem callk_rd {f : Nat} {perm : List Nat} {es : Es} {Q : VK} (n : noPk es = true) (n2 : noStarE es = true) (h : rE w (.callk f perm es) σ H Q) : rA w es σ H fun vs H1 => vs.length = es.len ∧ ∃ us, permute vs perm = some us ∧ spC w f us H1 Q := by
  obtain ⟨G, τ, fp, s, h⟩ := h
  rw [ev, okX_bind] at h
  refine ⟨G, τ, fp, s, okX_mono h fun ts τ1 h vs G1 H1 fp1 s1 st1 a => ?_⟩
  rw [okX_bind, okX_lift] at h
  obtain ⟨as, h1, h⟩ := h
  obtain ⟨r, outs, τ2, h2, h3, h4⟩ := okX_run h
  obtain ⟨us, e1, e2⟩ := permute_reps (a.reps n) h1
  have q := args_vals (w := w) (σ := σ) (τ := τ1) e2
  have ht : τ2 = τ1 := by
    cases outs with
    | nil => simp only [noOuts] at h3; cases h3; rfl
    | cons _ _ => simp [noOuts] at h3
  subst ht
  refine ⟨a.len n2, us, e1, G1, _, fpC .nil fp1, callee_in s1 q, r, outs, h2, fun v G2 H2 fp2 s2 st2 rv => ?_⟩
  obtain ⟨s3, st3⟩ := caller_out (τ2 := τ2) s1 q ⟨rfl, fun _ _ => rfl, fun j i e => by simp [bwAt] at e⟩ s2 st2
  refine h4 v G2 H2 _ s3 (st1.trans st3) ?_
  cases rv with
  | sh hr => exact .sh hr
  | ow hr hF =>
    refine .ow hr fun b hb => ?_
    obtain ⟨f1, f2, f3⟩ := hF b hb
    have back : H b = none := by
      cases q : H b with
      | none => rfl
      | some o => exact absurd f1 (st1.l b (by rw [q]; simp))
    refine ⟨back, f2, fun i hi => ?_⟩
    rcases hi with ⟨j, e, z⟩ | ⟨_, z⟩
    · simp [bwAt] at e
    · obtain ⟨_, o, z2, _⟩ := s1.out i b z
      rw [f1] at z2; cases z2
/-- a function held by a name, called -/
theorem cal_rd {i : Nat} {es : Es} {Q : VK} (n : noPk es = true) (gf : ∀ f, w.I.gf f = none) (nl : ∀ f, w.I.lamNames f = []) (h : rE w (.cal i es) σ H Q) : ∃ (a : Addr) (f : Nat) (L : LF), σ[i]? = some (some (.ref a)) ∧ w.I.lam f L ∧ H a = some (LamO a L) ∧ rA w es σ H fun vs H1 => H1 a = some (LamO a L) ∧ H1 L.c = some (LamX.CodeO L.c L.qual) ∧ spC w f vs H1 Q := by
  obtain ⟨G, τ, fp, s, h⟩ := h
  rw [ev] at h
  cases hs : slAt τ i with
  | no => rw [hs] at h; exact h.elim
  | ow t => rw [hs] at h; exact h.elim
  | bo t => rw [hs] at h; exact h.elim
  | sh t =>
    rw [hs] at h
    cases t with
    | fn f caps =>
      simp only [] at h
      obtain ⟨v, hv, hr⟩ := s.sh i _ (by
        unfold slAt at hs
        cases q : τ[i]? with
        | none => rw [q] at hs; cases hs
        | some x => rw [q] at hs; rw [show x = Sl.sh (.fn f caps) from hs])
      cases hr with
      | def_ z => rw [gf] at z; cases z
      | @clo _ a L xs _ l1 l2 l3 l4 l5 =>
        rw [nl] at l4
        have hx : xs = [] := by
          cases xs with
          | nil => rfl
          | cons _ _ => exact l4.elim
        subst hx
        cases l5
        refine ⟨a, f, L, hv, l1, s.sub _ _ l2, G, τ, fp, s, ?_⟩
        rw [okX_bind] at h
        refine okX_mono h fun ts τ1 h vs G1 H1 fp1 s1 st1 ar => ?_
        obtain ⟨r, outs, τ2, h2, h3, h4⟩ := okX_run h
        have q := args_vals (w := w) (σ := σ) (τ := τ1) (ar.reps n)
        have ht : τ2 = τ1 := by
          cases outs with
          | nil => simp only [noOuts] at h3; cases h3; rfl
          | cons _ _ => simp [noOuts] at h3
        subst ht
        refine ⟨s1.sub _ _ (st1.g _ _ l2), s1.sub _ _ (st1.g _ _ l3), G1, _, fpC .nil fp1, callee_in s1 q, r, outs, h2, fun v G2 H2 fp2 s2 st2 rv => ?_⟩
        obtain ⟨s3, st3⟩ := caller_out (τ2 := τ2) s1 q ⟨rfl, fun _ _ => rfl, fun j i e => by simp [bwAt] at e⟩ s2 st2
        refine h4 v G2 H2 _ s3 (st1.trans st3) ?_
        cases rv with
        | sh hr => exact .sh hr
        | ow hr hF =>
          refine .ow hr fun b hb => ?_
          obtain ⟨f1, f2, f3⟩ := hF b hb
          have back : H b = none := by
            cases q : H b with
            | none => rfl
            | some o => exact absurd f1 (st1.l b (by rw [q]; simp))
          refine ⟨back, f2, fun i hi => ?_⟩
          rcases hi with ⟨j, e, z⟩ | ⟨_, z⟩
          · simp [bwAt] at e
          · obtain ⟨_, o, z2, _⟩ := s1.out i b z
            rw [f1] at z2; cases z2
    | _ => exact h.elim
/-- one fresh argument, lent -/
theorem cf_rd {f : Nat} {e : E} {Q : VK} (h : rE w (.cf f e) σ H Q) : rE w e σ H fun x H1 => spC w f [x] H1 Q := by
  obtain ⟨G, τ, fp, s, h⟩ := h
  rw [ev, okX_bind] at h
  refine ⟨G, τ, fp, s, okX_mono h fun x τ1 h v G1 H1 fp1 s1 st1 rv => ?_⟩
  cases rv with
  | sh h' => exact h.elim
  | ow ho hF =>
    rename_i t F
    obtain ⟨r, outs, τ2, h2, h3, h4⟩ := okX_run h
    have h3 : τ1 = τ2 := Option.some.inj h3
    subst h3
    have c0 : Py.SR w.I w.TT (fun i => ([v] : List V)[i]?) H1 G1 [Sl.bo t] (fun j b => j = 0 ∧ F b) (([v] : List V).map some) H1 := by
      have hf : (fun b => (0 : Nat) = 0 ∧ F b) = F := by
        funext b
        exact propext ⟨fun z => z.2, fun z => ⟨rfl, z⟩⟩
      refine ⟨s1.sub, s1.ntb, fun i u e => ?_, fun i u e => ?_, fun i u e => ?_, fun i j b h1 h2 => by rw [h1.1, h2.1], fun i b hb => ⟨(hF b hb.2).2.1, ?_⟩, fun i hi b hb => ?_, rfl, s1.tabs, fun b h => h, fun i u b e => ?_⟩
      · cases i with
        | zero => simp at e
        | succ i => simp at e
      · cases i with
        | zero => simp at e
        | succ i => simp at e
      · cases i with
        | zero =>
          simp at e
          subst e
          exact ⟨v, rfl, rfl, by rw [hf]; exact ho⟩
        | succ i => simp at e
      · exact ho.there b hb.2
      · rw [hb.1] at hi
        exact (hi t).2 rfl
      · cases i with
        | zero => simp at e
        | succ i => simp at e
    refine ⟨G1, [Sl.bo t], fun j b => j = 0 ∧ F b, c0, r, outs, h2, fun u G2 H2 fp2 s2 st2 rv => ?_⟩
    have nF : ∀ {i b}, fp1 i b → ∀ j, ¬ (j = 0 ∧ F b) := fun {i b} hi j ⟨_, hb⟩ => (hF b hb).2.2 i hi
    have keep : ∀ {i b}, fp1 i b → H2 b = H1 b ∧ G2 b = none := fun {i b} hi => by
      obtain ⟨e1, o, e2, e3⟩ := s1.out i b hi
      refine ⟨by rw [e2]; exact st2.h b o e2 e3 (nF hi), ?_⟩
      cases e : G2 b with
      | none => rfl
      | some u =>
        rcases st2.n b (by rw [e]; simp) with z | z | ⟨j, z⟩
        · exact absurd e1 z
        · rw [e2] at z; cases z
        · exact absurd z (nF hi j)
    have s3 : w.SR G2 τ1 fp1 σ H2 := by
      refine ⟨s2.sub, s2.ntb, fun i u e => ?_, fun i u e => ?_, fun i u e => ?_, s1.dis, fun i b hi => ?_, s1.emp, s1.len, s2.tabs, fun b h => st2.l b (s1.up b h), s1.fr⟩
      · obtain ⟨x, h1, h2⟩ := s1.sh i u e
        exact ⟨x, h1, h2.mono st2.g⟩
      · obtain ⟨x, h1, h2⟩ := s1.ow i u e
        exact ⟨x, h1, h2.mono st2.g fun b hb => (keep hb).1⟩
      · obtain ⟨x, h0, h1, h2⟩ := s1.bo i u e
        exact ⟨x, h0, h1, h2.mono st2.g fun b hb => (keep hb).1⟩
      · obtain ⟨_, o, e2, e3⟩ := s1.out i b hi
        obtain ⟨k1, k2⟩ := keep hi
        exact ⟨k2, o, by rw [k1]; exact e2, e3⟩
    have st3 : Stage fp G H fp1 G2 H2 := by
      have back : ∀ c, H1 c = none → H c = none := fun c z => by
        cases q : H c with
        | none => rfl
        | some o => exact absurd z (st1.l c (by rw [q]; simp))
      refine ⟨fun b o e => st2.g b o (st1.g b o e), fun b o e nt nf => st2.h b o (st1.h b o e nt nf) nt fun j ⟨_, hb⟩ => ?_, fun b ps e => ?_, fun b e => ?_, st1.o, fun b e => st2.l b (st1.l b e)⟩
      · have := (hF b hb).1
        rw [e] at this; cases this
      · obtain ⟨ps', h1⟩ := st1.tb b ps e
        exact st2.tb b ps' h1
      · rcases st2.n b e with z | z | ⟨j, _, z⟩
        · exact st1.n b z
        · exact .inr (.inl (back b z))
        · exact .inr (.inl (hF b z).1)
    refine h4 u G2 H2 fp1 s3 st3 ?_
    have back : ∀ c, H1 c = none → H c = none := fun c z => by
      cases q : H c with
      | none => rfl
      | some o => exact absurd z (st1.l c (by rw [q]; simp))
    cases rv with
    | sh hr => exact .sh hr
    | ow hr hF2 =>
      refine .ow hr fun b hb => ?_
      obtain ⟨f1, f2, f3⟩ := hF2 b hb
      refine ⟨back b f1, f2, fun i hi => ?_⟩
      obtain ⟨_, o, z2, _⟩ := s1.out i b hi
      rw [f1] at z2; cases z2
end
end Py
end

section
set_option maxRecDepth 100000
set_option maxHeartbeats 1000000
/-! Slots stored, dropped; targets; items that are walked. -/
namespace Py
open PySem PySem.Spec PyProof.Rows L2
section
variable {I : KI} {TT : Tabs} {B : Nat → Option V} {Z G H H0 G0 : Hp} {τ : S} {fp fp0 : Nat → Addr → Prop} {σ : L2.St}
/-- a slot's footprint put in -/
def fpPut (fp : Nat → Addr → Prop) (i : Nat) (F : Addr → Prop) : Nat → Addr → Prop := fun j b => (j = i ∧ F b) ∨ (j ≠ i ∧ fp j b)
theorem fpPut_same {i : Nat} {F : Addr → Prop} : fpPut fp i F i = F := by
  funext b
  exact propext ⟨fun h => h.elim (·.2) fun h => absurd rfl h.1, fun h => .inl ⟨rfl, h⟩⟩
theorem fpPut_ne {i j : Nat} {F : Addr → Prop} (h : j ≠ i) : fpPut fp i F j = fp j := by
  funext b
  exact propext ⟨fun q => q.elim (fun q => absurd q.1 h) (·.2), fun q => .inr ⟨h, q⟩⟩
theorem SR.put {v : V} {r : Sl} {i : Nat} (s : SR I TT B Z G τ fp σ H) (q : RV I H0 fp G H v r) (hz : ∀ b, H0 b = none → Z b = none) (nb : ∀ t, τ[i]? ≠ some (Sl.bo t)) (hi : i < τ.length) :
    ∃ fp', SR I TT B Z G (τ.set i r) fp' (σ.set i (some v)) H ∧ ∀ j b, fp' j b → fp j b ∨ H0 b = none := by
  have hs : i < σ.length := by rw [← s.len]; exact hi
  have at_ : ∀ j, j ≠ i → (τ.set i r)[j]? = τ[j]? := fun j hj => List.getElem?_set_ne (Ne.symm hj)
  have as_ : ∀ j, j ≠ i → (σ.set i (some v))[j]? = σ[j]? := fun j hj => List.getElem?_set_ne (Ne.symm hj)
  have ai : (τ.set i r)[i]? = some r := List.getElem?_set_self hi
  have si : (σ.set i (some v))[i]? = some (some v) := List.getElem?_set_self hs
  cases q with
  | sh hr =>
    rename_i t
    refine ⟨fpPut fp i fun _ => False, ⟨s.sub, s.ntb, fun j u e => ?_, fun j u e => ?_, fun j u e => ?_, fun j k b h1 h2 => ?_, fun j b h => ?_, fun j hj b h => ?_, by rw [List.length_set, List.length_set, s.len], s.tabs, s.up, fun j u b e h => ?_⟩, fun j b h => ?_⟩
    · by_cases hj : j = i
      · subst hj
        rw [ai] at e
        cases e
        exact ⟨v, si, hr⟩
      · rw [at_ j hj] at e
        rw [as_ j hj]
        exact s.sh j u e
    · by_cases hj : j = i
      · subst hj; rw [ai] at e; cases e
      · rw [at_ j hj] at e
        rw [as_ j hj, fpPut_ne hj]
        exact s.ow j u e
    · by_cases hj : j = i
      · subst hj; rw [ai] at e; cases e
      · rw [at_ j hj] at e
        rw [as_ j hj, fpPut_ne hj]
        exact s.bo j u e
    · rcases h1 with ⟨_, z⟩ | ⟨_, h1⟩
      · exact z.elim
      · rcases h2 with ⟨_, z⟩ | ⟨_, h2⟩
        · exact z.elim
        · exact s.dis j k b h1 h2
    · rcases h with ⟨_, z⟩ | ⟨_, h⟩
      · exact z.elim
      · exact s.out j b h
    · rcases h with ⟨_, z⟩ | ⟨hne, h⟩
      · exact z.elim
      · exact s.emp j (fun t => by rw [← at_ j hne]; exact hj t) b h
    · rcases h with ⟨_, z⟩ | ⟨hne, h⟩
      · exact z.elim
      · rw [at_ j hne] at e
        exact s.fr j u b e h
    · rcases h with ⟨_, z⟩ | ⟨_, h⟩
      · exact z.elim
      · exact .inl h
  | ow hr hF =>
    rename_i t F
    refine ⟨fpPut fp i F, ⟨s.sub, s.ntb, fun j u e => ?_, fun j u e => ?_, fun j u e => ?_, fun j k b h1 h2 => ?_, fun j b h => ?_, fun j hj b h => ?_, by rw [List.length_set, List.length_set, s.len], s.tabs, s.up, fun j u b e h => ?_⟩, fun j b h => ?_⟩
    · by_cases hj : j = i
      · subst hj; rw [ai] at e; cases e
      · rw [at_ j hj] at e
        rw [as_ j hj]
        exact s.sh j u e
    · by_cases hj : j = i
      · subst hj
        rw [ai] at e
        cases e
        rw [fpPut_same]
        exact ⟨v, si, hr⟩
      · rw [at_ j hj] at e
        rw [as_ j hj, fpPut_ne hj]
        exact s.ow j u e
    · by_cases hj : j = i
      · subst hj; rw [ai] at e; cases e
      · rw [at_ j hj] at e
        rw [as_ j hj, fpPut_ne hj]
        exact s.bo j u e
    · rcases h1 with ⟨e1, z1⟩ | ⟨_, h1⟩ <;> rcases h2 with ⟨e2, z2⟩ | ⟨_, h2⟩
      · rw [e1, e2]
      · exact absurd h2 ((hF b z1).2.2 k)
      · exact absurd h1 ((hF b z2).2.2 j)
      · exact s.dis j k b h1 h2
    · rcases h with ⟨_, z⟩ | ⟨_, h⟩
      · exact ⟨(hF b z).2.1, hr.there b z⟩
      · exact s.out j b h
    · rcases h with ⟨e, z⟩ | ⟨hne, h⟩
      · rw [e] at hj
        exact (hj t).1 ai
      · exact s.emp j (fun t => by rw [← at_ j hne]; exact hj t) b h
    · rcases h with ⟨_, z⟩ | ⟨hne, h⟩
      · exact hz b (hF b z).1
      · rw [at_ j hne] at e
        exact s.fr j u b e h
    · rcases h with ⟨_, z⟩ | ⟨_, h⟩
      · exact .inr (hF b z).1
      · exact .inl h
/-- a slot forgotten -/
theorem SR.drop {i : Nat} (s : SR I TT B Z G τ fp σ H) : SR I TT B Z G (τ.set i .no) (fpPut fp i fun _ => False) σ H := by
  have key : ∀ (j : Nat) (x : Sl), (τ.set i .no)[j]? = some x → x ≠ .no → j ≠ i ∧ τ[j]? = some x := fun j x e hx => by
    by_cases hj : j = i
    · subst hj
      by_cases hl : j < τ.length
      · rw [List.getElem?_set_self hl] at e
        cases e
        exact absurd rfl hx
      · rw [List.getElem?_eq_none (by rw [List.length_set]; omega)] at e
        cases e
    · rw [List.getElem?_set_ne (Ne.symm hj)] at e
      exact ⟨hj, e⟩
  refine ⟨s.sub, s.ntb, fun j u e => ?_, fun j u e => ?_, fun j u e => ?_, fun j k b h1 h2 => ?_, fun j b h => ?_, fun j hj b h => ?_, by rw [List.length_set]; exact s.len, s.tabs, s.up, fun j u b e h => ?_⟩
  · obtain ⟨_, e⟩ := key j _ e (by simp)
    exact s.sh j u e
  · obtain ⟨hj, e⟩ := key j _ e (by simp)
    rw [fpPut_ne hj]
    exact s.ow j u e
  · obtain ⟨hj, e⟩ := key j _ e (by simp)
    rw [fpPut_ne hj]
    exact s.bo j u e
  · rcases h1 with ⟨_, z⟩ | ⟨_, h1⟩
    · exact z.elim
    · rcases h2 with ⟨_, z⟩ | ⟨_, h2⟩
      · exact z.elim
      · exact s.dis j k b h1 h2
  · rcases h with ⟨_, z⟩ | ⟨_, h⟩
    · exact z.elim
    · exact s.out j b h
  · rcases h with ⟨_, z⟩ | ⟨hne, h⟩
    · exact z.elim
    · exact s.emp j (fun t => by rw [← List.getElem?_set_ne (Ne.symm hne) (a := Sl.no)]; exact hj t) b h
  · rcases h with ⟨_, z⟩ | ⟨hne, h⟩
    · exact z.elim
    · obtain ⟨_, e⟩ := key j _ e (by simp)
      exact s.fr j u b e h
theorem fpPut_sub {i j : Nat} {b : Addr} (h : fpPut fp i (fun _ => False) j b) : fp j b := by
  rcases h with ⟨_, z⟩ | ⟨_, h⟩
  · exact z.elim
  · exact h
theorem SR.wipes (s : SR I TT B Z G τ fp σ H) : ∀ own : List Nat, ∃ fp', SR I TT B Z G (wipeS τ own) fp' σ H ∧ ∀ j b, fp' j b → fp j b := by
  intro own
  induction own generalizing τ fp with
  | nil => exact ⟨fp, s, fun _ _ h => h⟩
  | cons i r ih =>
    obtain ⟨fp', h1, h2⟩ := ih (s.drop (i := i))
    exact ⟨fp', h1, fun j b h => fpPut_sub (h2 j b h)⟩
/-- the concrete names changed where nothing is known -/
theorem SR.sig {σ' : L2.St} (s : SR I TT B Z G τ fp σ H) (hl : σ'.length = σ.length) (h : ∀ (i : Nat) (x : Sl) v, τ[i]? = some x → x ≠ .no → σ[i]? = some (some v) → σ'[i]? = some (some v)) : SR I TT B Z G τ fp σ' H where
  sub := s.sub
  ntb := s.ntb
  sh := fun i t e => let ⟨v, h1, h2⟩ := s.sh i t e; ⟨v, h i _ v e (by simp) h1, h2⟩
  ow := fun i t e => let ⟨v, h1, h2⟩ := s.ow i t e; ⟨v, h i _ v e (by simp) h1, h2⟩
  bo := fun i t e => let ⟨v, h0, h1, h2⟩ := s.bo i t e; ⟨v, h0, h i _ v e (by simp) h1, h2⟩
  dis := s.dis
  out := s.out
  emp := s.emp
  len := s.len.trans hl.symm
  tabs := s.tabs
  up := s.up
  fr := s.fr
theorem Stage.less {fp1 fp' : Nat → Addr → Prop} {G' H' : Hp} (a : Stage fp G H fp1 G' H') (h : ∀ j b, fp' j b → fp1 j b ∨ H b = none) : Stage fp G H fp' G' H' :=
  ⟨a.g, a.h, a.tb, a.n, fun i b q => (h i b q).elim (a.o i b) .inr, a.l⟩
theorem Stage.back {fp' : Nat → Addr → Prop} {G' H' : Hp} (a : Stage fp G H fp' G' H') {b : Addr} (h : H' b = none) : H b = none := by
  cases q : H b with
  | none => rfl
  | some o => exact absurd h (a.l b (by rw [q]; simp))
theorem SR.zero (s : SR I TT B Z G τ fp σ H) {b : Addr} (h : H b = none) : Z b = none := by
  cases q : Z b with
  | none => rfl
  | some o => exact absurd h (s.up b (by rw [q]; simp))
theorem RV.old {H1 : Hp} {v : V} {r : Sl} (q : RV I H1 fp G H v r) (h : ∀ b, H1 b = none → H0 b = none) : RV I H0 fp G H v r := by
  cases q with
  | sh hr => exact .sh hr
  | ow hr hF => exact .ow hr fun b hb => ⟨h b (hF b hb).1, (hF b hb).2⟩
end
/-! targets -/
section
variable (w : Wd)
/-- what a target gets: a value, or a pair just made -/
def TV (I : KI) (H0 : Hp) (fp : Nat → Addr → Prop) (G H : Hp) (pr : Bool) (v : V) (r : Sl) : Prop :=
  RV I H0 fp G H v r ∨ (pr = true ∧ ∃ p xs us, v = .ref p ∧ H p = some (.tup xs) ∧ r = .sh (.tup us) ∧ Reps I G xs us)
def Tg.tupB : Tg → Bool
  | .tup _ => true
  | _ => false
mutual
/-- the slots that it stores -/
def Tg.slots : Tg → List Nat
  | .nm i => [i]
  | .tup is => is
  | .sub _ _ => []
  | .mix ts => ts.slots
def Tgs.slots : Tgs → List Nat
  | .nil => []
  | .cons t r => t.slots ++ r.slots
end
/-- changed at these slots alone -/
def Only (is : List Nat) (σ σ' : L2.St) : Prop := σ'.length = σ.length ∧ ∀ j, j ∉ is → σ'[j]? = σ[j]?
def rG (t : Tg) : TG := fun v σ H Q => ∃ G0 H0 fp0 G τ fp r, Stage fp0 G0 H0 fp G H ∧ w.SR G τ fp σ H ∧ (∀ b, H0 b = none → w.Z b = none) ∧ TV w.I H0 fp G H t.tupB v r ∧
  okX (asg w.Γ t r τ) fun _ τ' => ∀ σ' G' H' fp', w.SR G' τ' fp' σ' H' → Stage fp0 G0 H0 fp' G' H' → Only t.slots σ σ' → Q σ' H'
end
section
variable {w : Wd} {X : Cx}
theorem setAt_some {τ τ' : S} {i : Nat} {r : Sl} (h : setAt τ i r = some τ') : τ' = τ.set i r ∧ i < τ.length ∧ ∀ t, τ[i]? ≠ some (Sl.bo t) := by
  unfold setAt at h
  cases e : τ[i]? with
  | none => rw [e] at h; cases h
  | some x =>
    rw [e] at h
    have hi := (List.getElem?_eq_some_iff.mp e).1
    cases x with
    | bo t => cases h
    | no => cases h; exact ⟨rfl, hi, fun t z => by cases z⟩
    | sh u => cases h; exact ⟨rfl, hi, fun t z => by cases z⟩
    | ow u => cases h; exact ⟨rfl, hi, fun t z => by cases z⟩
theorem rG_nm {i : Nat} {v : V} {σ : L2.St} {H : Hp} {Q : L2.St → Hp → Prop} (h : rG w (.nm i) v σ H Q) : gName i v σ H Q := by
  obtain ⟨G0, H0, fp0, G, τ, fp, r, st, s, hz, tv, h⟩ := h
  rcases tv with q | ⟨z, _⟩
  · unfold asg at h
    rw [okX_bind, okX_lift] at h
    obtain ⟨τ', e, h⟩ := h
    obtain ⟨rfl, hi, nb⟩ := setAt_some e
    obtain ⟨fp', s', hf⟩ := s.put q hz nb hi
    exact h _ G H fp' s' (st.less hf) ⟨List.length_set, fun j hj => List.getElem?_set_ne (fun z => hj (by simp [Tg.slots, z]))⟩
  · cases z
/-- a row of names -/
def gNames (is : List Nat) : TGs := match is with
  | [] => gNil
  | i :: r => gCons (gName i) (gNames r)
theorem setAll_rd {I : KI} {TT : Tabs} {B : Nat → Option V} {Z G H : Hp} {Q : L2.St → Hp → Prop} : ∀ {is : List Nat} {ts : List T} {xs : List V} {τ τ' : S} {fp : Nat → Addr → Prop} {σ : L2.St}, SR I TT B Z G τ fp σ H → Reps I G xs ts → setAll τ is ts = some τ' →
    (∀ σ' fp', SR I TT B Z G τ' fp' σ' H → (∀ j b, fp' j b → fp j b) → Only is σ σ' → Q σ' H) → gNames is xs σ H Q ∧ is.length = ts.length
  | [], [], _, τ, τ', fp, σ, s, .nil, h, k => by
    simp only [setAll] at h
    cases h
    exact ⟨⟨rfl, k σ fp s (fun _ _ h => h) ⟨rfl, fun _ _ => rfl⟩⟩, rfl⟩
  | [], _ :: _, _, _, _, _, _, _, _, h, _ => by simp [setAll] at h
  | _ :: _, [], _, _, _, _, _, _, _, h, _ => by simp [setAll] at h
  | i :: is, t :: ts, _, τ, τ', fp, σ, s, .cons (v := v) hr r, h, k => by
    simp only [setAll, Option.bind_eq_some_iff] at h
    obtain ⟨τ1, h1, h2⟩ := h
    obtain ⟨rfl, hi, nb⟩ := setAt_some h1
    obtain ⟨fp1, s1, hf⟩ := s.put (H0 := fun _ => some (.own 0)) (.sh hr) (fun b z => by cases z) nb hi
    obtain ⟨q, hl⟩ := setAll_rd s1 r h2 (Q := Q) fun σ' fp' s' hf' ho => k σ' fp' s' (fun j b z => (hf j b (hf' j b z)).elim id fun z => by cases z) ⟨ho.1.trans List.length_set, fun j hj => (ho.2 j fun z => hj (List.mem_cons_of_mem _ z)).trans (List.getElem?_set_ne fun z => hj (by rw [z]; exact List.mem_cons_self))⟩
    exact ⟨⟨v, _, rfl, q⟩, by simp [hl]⟩
theorem rG_tup {is : List Nat} {v : V} {σ : L2.St} {H : Hp} {Q : L2.St → Hp → Prop} (h : rG w (.tup is) v σ H Q) : gTup w.I.K is.length (gNames is) v σ H Q := by
  obtain ⟨G0, H0, fp0, G, τ, fp, r, st, s, hz, tv, h⟩ := h
  have fin : ∀ {p xs us}, SqT w.I.K H p xs → Reps w.I G xs us → okX (lift (setAll τ is us) τ) (fun τ' _ => ∀ σ' G' H' fp', w.SR G' τ' fp' σ' H' → Stage fp0 G0 H0 fp' G' H' → Only is σ σ' → Q σ' H') → gTup w.I.K is.length (gNames is) (.ref p) σ H Q := fun {p xs us} hs hr h => by
    rw [okX_lift] at h
    obtain ⟨τ', e, h⟩ := h
    obtain ⟨q, hl⟩ := setAll_rd s hr e (Q := Q) fun σ' fp' s' hf ho => h σ' G H fp' s' (st.less fun j b z => .inl (hf j b z)) ho
    exact ⟨p, xs, rfl, hs, by rw [hr.length, hl], q⟩
  rcases tv with q | ⟨_, p, xs, us, rfl, hp, rfl, hr⟩
  · unfold asg at h
    cases q with
    | sh hr =>
      rename_i t
      cases t <;> first | exact h.elim | skip
      simp only [Sl.val] at h
      rw [okX_bind] at h
      cases hr with
      | tup hs hr => exact fin (sqU_mono s.sub hs).t hr h
    | ow hr hF =>
      cases hr
      exact h.elim
  · unfold asg at h
    simp only [Sl.val] at h
    rw [okX_bind] at h
    exact fin (.of hp) hr h
theorem tabsN_lst {TT : Tabs} {G H : Hp} {p : Addr} {xs ys : List V} (t : TabsG TT G H) (hp : H p = some (.lst xs)) : TabsG TT G (upd H p (.lst ys)) := t.keep (fun _ _ z => z) fun b ps e => by
  rw [upd_ne (fun z => by rw [z, hp] at e; cases e)]
  exact e
/-- what a name holds alone is changed -/
theorem SR.mutate {I : KI} {TT : Tabs} {B : Nat → Option V} {Z G H : Hp} {τ : S} {fp : Nat → Addr → Prop} {σ : L2.St} {i : Nat} {t : T} (s : SR I TT B Z G τ fp σ H) (e : ownAt τ i = some t) :
    ∃ p xs l, t = .lst l ∧ σ[i]? = some (some (.ref p)) ∧ H p = some (.lst xs) ∧ Reps I G xs l ∧ ∀ ys l', Reps I G ys l' → SR I TT B Z G (change τ i (.lst l')) fp σ (upd H p (.lst ys)) ∧ Stage fp G H fp G (upd H p (.lst ys)) := by
  have fin : ∀ {p xs l}, (τ[i]? = some (Sl.ow (.lst l)) ∨ τ[i]? = some (Sl.bo (.lst l))) → σ[i]? = some (some (.ref p)) → (τ[i]? = some (Sl.bo (.lst l)) → B i = some (.ref p)) → H p = some (.lst xs) → fp i = (fun b => b = p) → ∀ ys l', Reps I G ys l' → SR I TT B Z G (change τ i (.lst l')) fp σ (upd H p (.lst ys)) ∧ Stage fp G H fp G (upd H p (.lst ys)) := by
    intro p xs l hτ hσ hB hp hf ys l' hr
    have hi : i < τ.length := by rcases hτ with z | z <;> exact (List.getElem?_eq_some_iff.mp z).1
    have pG : G p = none := (s.out i p (by rw [hf])).1
    have nj : ∀ j b, j ≠ i → fp j b → b ≠ p := fun j b hj hb z => hj (s.dis j i b hb (by rw [hf]; exact z))
    have cne : ∀ j, j ≠ i → (change τ i (.lst l'))[j]? = τ[j]? := fun j hj => by
      unfold change
      split <;> rw [List.getElem?_set_ne (Ne.symm hj)]
    have ci : (change τ i (.lst l'))[i]? = some (Sl.ow (.lst l')) ∧ τ[i]? = some (Sl.ow (.lst l)) ∨ (change τ i (.lst l'))[i]? = some (Sl.bo (.lst l')) ∧ τ[i]? = some (Sl.bo (.lst l)) := by
      rcases hτ with z | z
      · refine .inl ⟨?_, z⟩
        unfold change
        rw [slAt_some z]
        exact List.getElem?_set_self hi
      · refine .inr ⟨?_, z⟩
        unfold change
        rw [slAt_some z]
        exact List.getElem?_set_self hi
    have own : Own I G (upd H p (.lst ys)) (.ref p) (.lst l') (fp i) := by rw [hf]; exact .lst upd_same hr
    refine ⟨⟨fun b o e => ?_, s.ntb, fun j u e => ?_, fun j u e => ?_, fun j u e => ?_, s.dis, fun j b h => ?_, fun j hj b h => ?_, ?_, ?_, fun b h => ?_, fun j u b e h => ?_⟩, ⟨fun _ _ h => h, fun b o e nt nf => ?_, fun b ps e => ⟨ps, ?_⟩, fun _ h => .inl h, fun _ _ h => .inl h, fun b h => ?_⟩⟩
    · rw [upd_ne (fun z => by rw [z, pG] at e; cases e)]
      exact s.sub b o e
    · by_cases hj : j = i
      · subst hj; rcases ci with ⟨z, _⟩ | ⟨z, _⟩ <;> (rw [z] at e; cases e)
      · rw [cne j hj] at e
        exact s.sh j u e
    · by_cases hj : j = i
      · subst hj
        rcases ci with ⟨z, _⟩ | ⟨z, _⟩
        · rw [z] at e; cases e; exact ⟨_, hσ, own⟩
        · rw [z] at e; cases e
      · rw [cne j hj] at e
        obtain ⟨v, h1, h2⟩ := s.ow j u e
        exact ⟨v, h1, h2.mono (fun _ _ h => h) fun b hb => upd_ne (nj j b hj hb)⟩
    · by_cases hj : j = i
      · subst hj
        rcases ci with ⟨z, _⟩ | ⟨z, z2⟩
        · rw [z] at e; cases e
        · rw [z] at e; cases e; exact ⟨_, hB z2, hσ, own⟩
      · rw [cne j hj] at e
        obtain ⟨v, h0, h1, h2⟩ := s.bo j u e
        exact ⟨v, h0, h1, h2.mono (fun _ _ h => h) fun b hb => upd_ne (nj j b hj hb)⟩
    · obtain ⟨h1, o, h2, h3⟩ := s.out j b h
      by_cases hb : b = p
      · rw [hb]; exact ⟨pG, _, upd_same, fun ps z => by cases z⟩
      · exact ⟨h1, o, by rw [upd_ne hb]; exact h2, h3⟩
    · by_cases hji : j = i
      · subst hji
        rcases ci with ⟨z, _⟩ | ⟨z, _⟩
        · exact (hj _).1 z
        · exact (hj _).2 z
      · exact s.emp j (fun t => by rw [← cne j hji]; exact hj t) b h
    · rw [← s.len]
      unfold change
      split <;> simp
    · exact tabsN_lst s.tabs hp
    · have := s.up b h
      by_cases hb : b = p
      · rw [hb, upd_same]; simp
      · rw [upd_ne hb]; exact this
    · by_cases hji : j = i
      · subst hji
        rcases ci with ⟨z, z2⟩ | ⟨z, _⟩
        · exact s.fr j _ b z2 h
        · rw [z] at e; cases e
      · rw [cne j hji] at e
        exact s.fr j u b e h
    · rw [upd_ne (fun z => nf i (by rw [hf]; exact z))]
      exact e
    · rw [upd_ne (fun z => by rw [z, hp] at e; cases e)]
      exact e
    · by_cases hb : b = p
      · rw [hb, upd_same]; simp
      · rw [upd_ne hb]; exact h
  rcases own_lt e with hτ | hτ
  · obtain ⟨v, h1, h2⟩ := s.ow i t hτ
    generalize hF : fp i = F at h2
    cases h2 with
    | lst hp hr => exact ⟨_, _, _, rfl, h1, hp, hr, fin (.inl hτ) h1 (fun z => by rw [hτ] at z; cases z) hp hF⟩
  · obtain ⟨v, h0, h1, h2⟩ := s.bo i t hτ
    generalize hF : fp i = F at h2
    cases h2 with
    | lst hp hr => exact ⟨_, _, _, rfl, h1, hp, hr, fin (.inr hτ) h1 (fun _ => h0) hp hF⟩
/-- o[k] = .. -/
theorem rG_sub {i : Nat} {k : E} {v : V} {σ : L2.St} {H : Hp} {Q : L2.St → Hp → Prop} (h : rG w (.sub i k) v σ H Q) : gSub (tVar i) (rV w k) (rSet w.I) v σ H Q := by
  obtain ⟨G0, H0, fp0, G, τ, fp, r, st, s, hz, tv, h⟩ := h
  rcases tv with q | ⟨z, _⟩
  · unfold asg at h
    rw [okX_bind, okX_lift] at h
    obtain ⟨t0, e0, h⟩ := h
    obtain ⟨p0, xs0, l0, _, hσ, _⟩ := s.mutate e0
    refine ⟨.ref p0, hσ, ?_⟩
    rw [okX_bind] at h
    have hv : ∃ tv, r.val = some tv := by
      cases q with
      | sh _ => exact ⟨_, rfl⟩
      | ow _ _ => exact ⟨_, rfl⟩
    obtain ⟨tv, htv⟩ := hv
    obtain ⟨G1, s1, st1, q1⟩ := q.freeze htv s st
    refine ⟨G1, τ, fp, s1, okX_mono h fun kt τ2 h kv G2 H2 fp2 s2 st2 q2 => ?_⟩
    rw [okX_bind, okX_lift] at h
    obtain ⟨t, e1, h⟩ := h
    rw [okX_bind, okX_lift] at h
    obtain ⟨v', e2, h⟩ := h
    rw [htv] at e2
    cases e2
    rw [okX_bind, okX_lift] at h
    obtain ⟨t', e3, h⟩ := h
    obtain ⟨p, xs, l, rfl, hσ2, hp, hr, fin⟩ := s2.mutate e1
    rw [hσ] at hσ2
    cases hσ2
    have e4 : ∃ l', t' = .lst l' := by
      cases kt <;> simp only [setV, reduceCtorEq, Option.map_eq_some_iff] at e3
      obtain ⟨j, _, rfl⟩ := e3
      exact ⟨_, rfl⟩
    obtain ⟨l', rfl⟩ := e4
    refine ⟨G2, p0, xs, l, kt, tv, l', rfl, s2.sub, hp, hr, .inl q2, q1.mono st2.g, e3, fun ys hys => ?_⟩
    obtain ⟨s3, st3⟩ := fin ys l' hys
    exact h σ G2 _ fp2 s3 ((st1.trans st2).trans st3) ⟨rfl, fun _ _ => rfl⟩
  · cases z
end
end Py
end

section
set_option maxRecDepth 100000
set_option maxHeartbeats 1000000
/-! Expressions, one rule for each. -/
namespace Py
open PySem PySem.Spec PyProof.Rows L2
section
variable {I : KI} {TT : Tabs} {B : Nat → Option V} {Z G H : Hp} {τ : S} {fp : Nat → Addr → Prop} {σ : L2.St}
/-- what a name holds alone is shared -/
theorem SR.share {i : Nat} {t : T} (s : SR I TT B Z G τ fp σ H) (e : τ[i]? = some (Sl.ow t)) : ∃ G' fp' v, SR I TT B Z G' (τ.set i (.sh t)) fp' σ H ∧ Stage fp G H fp' G' H ∧ σ[i]? = some (some v) ∧ Rep I G' v t := by
  obtain ⟨v, h1, h2⟩ := s.ow i t e
  have hi := (List.getElem?_eq_some_iff.mp e).1
  have s1 := s.drop (i := i)
  obtain ⟨G', g1, g2, g3, g4⟩ := h2.freeze s.sub fun b hb => (s.out i b hb).1
  have nt : ∀ b ps, G' b ≠ some (.tbl ps) := fun b ps z => by
    by_cases hb : G b = none
    · rcases g3 b (by rw [z]; simp) with w | w
      · exact w hb
      · obtain ⟨_, o, e1, e2⟩ := s.out i b w
        have e3 := g2 b _ z
        rw [e1] at e3
        exact e2 ps (Option.some.inj e3)
    · cases hq : G b with
      | none => exact hb hq
      | some o =>
        have e3 := g1 b o hq
        rw [z] at e3
        exact s.ntb b ps (by rw [hq, ← e3])
  have s2 := s1.grow g1 g2 nt fun j b hb => by
    have hb' := fpPut_sub hb
    cases hq : G' b with
    | none => rfl
    | some o =>
      rcases g3 b (by rw [hq]; simp) with z | z
      · exact absurd (s.out j b hb').1 z
      · rcases hb with ⟨_, z2⟩ | ⟨hne, _⟩
        · exact z2.elim
        · exact absurd (s.dis j i b hb' z) hne
  refine ⟨G', _, v, ⟨s2.sub, s2.ntb, fun j u q => ?_, fun j u q => ?_, fun j u q => ?_, s2.dis, s2.out, fun j hj b hb => ?_, ?_, s2.tabs, s2.up, fun j u b q hb => ?_⟩, ⟨g1, fun b o z _ _ => z, fun b ps z => ⟨ps, z⟩, fun b hb => ?_, fun j b hb => .inl (fpPut_sub hb), fun _ h => h⟩, h1, g4⟩
  · by_cases hj : j = i
    · subst hj
      rw [List.getElem?_set_self hi] at q
      cases q
      exact ⟨v, h1, g4⟩
    · rw [List.getElem?_set_ne (Ne.symm hj)] at q
      exact s2.sh j u (by rw [List.getElem?_set_ne (Ne.symm hj)]; exact q)
  · by_cases hj : j = i
    · subst hj; rw [List.getElem?_set_self hi] at q; cases q
    · rw [List.getElem?_set_ne (Ne.symm hj)] at q
      exact s2.ow j u (by rw [List.getElem?_set_ne (Ne.symm hj)]; exact q)
  · by_cases hj : j = i
    · subst hj; rw [List.getElem?_set_self hi] at q; cases q
    · rw [List.getElem?_set_ne (Ne.symm hj)] at q
      exact s2.bo j u (by rw [List.getElem?_set_ne (Ne.symm hj)]; exact q)
  · refine s2.emp j (fun u => ?_) b hb
    by_cases hji : j = i
    · subst hji
      rw [List.getElem?_set_self hi]
      exact ⟨fun z => (by cases z), fun z => by cases z⟩
    · rw [List.getElem?_set_ne (Ne.symm hji)]
      have := hj u
      rw [List.getElem?_set_ne (Ne.symm hji)] at this
      exact this
  · rw [List.length_set]; exact s.len
  · by_cases hji : j = i
    · subst hji; rw [List.getElem?_set_self hi] at q; cases q
    · rw [List.getElem?_set_ne (Ne.symm hji)] at q
      exact s2.fr j u b (by rw [List.getElem?_set_ne (Ne.symm hji)]; exact q) hb
  · rcases g3 b hb with z | z
    · exact .inl z
    · exact .inr (.inr ⟨i, z⟩)
end
section
variable {w : Wd} {X : Cx} {σ : L2.St} {H : Hp}
theorem slAt_eq {τ : S} {i : Nat} {x : Sl} (h : slAt τ i = x) (hn : x ≠ .no) : τ[i]? = some x := by
  unfold slAt at h
  cases e : τ[i]? with
  | none => rw [e] at h; exact absurd h.symm hn
  | some y => rw [e] at h; rw [show y = x from h]
theorem rd_nm {i : Nat} {Q : VK} (h : rE w (.nm i) σ H Q) : tVar i σ H Q := by
  obtain ⟨G, τ, fp, s, h⟩ := h
  simp only [ev, useAt] at h
  split at h
  · rename_i t e
    have e := slAt_eq e (by simp)
    obtain ⟨v, h1, h2⟩ := s.sh i t e
    exact ⟨v, h1, h v G H fp s .refl (.sh h2)⟩
  · rename_i t e
    have e := slAt_eq e (by simp)
    obtain ⟨G', fp', v, s', st, h1, h2⟩ := s.share e
    exact ⟨v, h1, h v G' H fp' s' st (.sh h2)⟩
  · exact h.elim
  · exact h.elim
theorem pe_nm {i : Nat} {x : Str} {pos : Pos} (hN : X.N[i]? = some x) (hv : Vis X.env.scope x) (hd : (x == ("__debug__" : Str)) = false) (hcd : (x == ("__classdict__" : Str)) = false) : PE X (.Name x pos) (rE w (.nm i)) :=
  PE.imp (pe_var hN hv hd hcd) fun _ _ _ h => rd_nm h
theorem rd_cst {t : T} {v : V} {Q : VK} (hr : ∀ G, Rep w.I G v t) (h : rE w (.cst t) σ H Q) : tC v σ H Q := by
  obtain ⟨G, τ, fp, s, h⟩ := h
  simp only [ev] at h
  exact h v G H fp s .refl (.sh (hr G))
theorem rd_glo {g : Nat} {v : V} {Q : VK} (hr : ∀ t G, w.Γ.glo g = some t → Rep w.I G v t) (h : rE w (.glo g) σ H Q) : tC v σ H Q := by
  obtain ⟨G, τ, fp, s, h⟩ := h
  simp only [ev] at h
  rw [okX_bind, okX_lift] at h
  obtain ⟨t, e, h⟩ := h
  exact h v G H fp s .refl (.sh (hr t G e))
/-! displays -/
def tupF (ts : List T) : Option Sl := if fits ts then some (.sh (.tup ts)) else none
def lstF (ts : List T) : Option Sl := if fits ts then some (.ow (.lst ts)) else none
theorem ev_tup {es : Es} {τ : S} : ev w.Γ (.tup es) τ = (evs w.Γ es τ).bind fun ts τ => lift (tupF ts) τ := by
  simp only [ev]
  congr
  funext ts τ
  unfold tupF
  split <;> rfl
theorem ev_lst {es : Es} {τ : S} : ev w.Γ (.lst es) τ = (evs w.Γ es τ).bind fun ts τ => lift (lstF ts) τ := by
  simp only [ev]
  congr
  funext ts τ
  unfold lstF
  split <;> rfl
theorem pe_tupE {es : Es} {as : List Expr} {k : Nat} {pos : Pos} (n : noPk es = true) (h : PA X as (tArgs w es)) : PE X (.Tuple as k pos) (rE w (.tup es)) := by
  refine ⟨fun pins s σ H Q J hq => ?_⟩
  have hq := rA_args (rE_st (fun τ => ev_tup) n hq)
  refine wpAny_Tuple_spliced (thn (h.run pos pins s σ H _ J hq) fun us s1 ⟨xs, H1, J1, r, q⟩ => ?_)
  obtain ⟨G, ts, rr, gh, rs, hf, q⟩ := q
  unfold tupF at hf
  split at hf
  · rename_i hfit
    cases hf
    have z : xs.length ≤ sizeLine := by rw [rs.length]; exact one_le (fits_le hfit)
    refine ⟨by rw [← r.length]; exact z, ?_⟩
    exact ⟨.ref s1.heap.objs.size, _, tnew (t' := s1.toks) J1 r z, rfl, q _ _ _ (.tup J1.fresh rs rfl rfl)⟩
  · cases hf
theorem pe_lstE {es : Es} {as : List Expr} {pos : Pos} (n : noPk es = true) (h : PA X as (tArgs w es)) : PE X (.List as pos) (rE w (.lst es)) := by
  refine ⟨fun pins s σ H Q J hq => ?_⟩
  have hq := rA_args (rE_st (fun τ => ev_lst) n hq)
  refine wpAny_List_spliced (thn (h.run pos pins s σ H _ J hq) fun us s1 ⟨xs, H1, J1, r, q⟩ => ?_)
  obtain ⟨G, ts, rr, gh, rs, hf, q⟩ := q
  unfold lstF at hf
  split at hf
  · rename_i hfit
    cases hf
    have z : xs.length ≤ sizeLine := by rw [rs.length]; exact one_le (fits_le hfit)
    refine ⟨by rw [← r.length]; exact z, ?_⟩
    have hn : H1 s1.heap.objs.size = none := J1.fresh
    refine ⟨.ref s1.heap.objs.size, upd H1 s1.heap.objs.size (.lst xs), J1.laid (t' := s1.toks) (fun b u e => Heap.get?_push_of_some _ e) (Nat.le_refl _) ?_, rfl, q _ _ _ (.lst hn rs)⟩
    exact ⟨z, us, 0, r, Heap.get?_push_size _ rfl⟩
  · cases hf
/-! operators -/
def binF (o : Bop) : List T → Option Sl
  | [a, b] => bopV o a b
  | _ => none
def cmpF (o : Cop) : List T → Option Sl
  | [a, b] => (cmpV o a b).map fun k => .sh (.bl k)
  | _ => none
def subF : List T → Option Sl
  | [a, b] => (subV a b).map .sh
  | _ => none
theorem ev_bin {o : Bop} {es : Es} {τ : S} : ev w.Γ (.bin o es) τ = (evs w.Γ es τ).bind fun ts τ => lift (binF o ts) τ := by
  simp only [ev]
  congr
  funext ts τ
  rcases ts with _ | ⟨a, _ | ⟨b, _ | ⟨c, r⟩⟩⟩ <;> rfl
theorem ev_cmp {o : Cop} {es : Es} {τ : S} : ev w.Γ (.cmp o es) τ = (evs w.Γ es τ).bind fun ts τ => lift (cmpF o ts) τ := by
  simp only [ev]
  congr
  funext ts τ
  rcases ts with _ | ⟨a, _ | ⟨b, _ | ⟨c, r⟩⟩⟩ <;> first | rfl | skip
  simp only [cmpF]
  cases cmpV o a b <;> rfl
theorem ev_sub {es : Es} {τ : S} : ev w.Γ (.sub es) τ = (evs w.Γ es τ).bind fun ts τ => lift (subF ts) τ := by
  simp only [ev]
  congr
  funext ts τ
  rcases ts with _ | ⟨a, _ | ⟨b, _ | ⟨c, r⟩⟩⟩ <;> first | rfl | skip
  simp only [subF]
  cases subV a b <;> rfl
/-- two values -/
theorem rB_of {f : List T → Option Sl} {g : T → T → Option Sl} {I : KI} {x y : V} {H : Hp} {Q : VK} (hf : ∀ a b, f [a, b] = g a b) (h : rBl I f [x, y] H Q) : rB I g x y H Q := by
  obtain ⟨G, ts, r, gh, hx, hg, q⟩ := h
  cases hx with
  | cons h1 hx =>
    cases hx with
    | cons h2 hx =>
      cases hx
      rw [hf] at hg
      exact ⟨G, _, _, r, gh, h1, h2, hg, q⟩
theorem OpR.imp {f : Value → Value → Sem Value} {r r' : R2} (h : OpR X f r) (m : ∀ x y H Q, r' x y H Q → r x y H Q) : OpR X f r' := fun pins s σ H x y v u Q J rx ry q => h pins s σ H x y v u Q J rx ry (m x y H Q q)
theorem CallR.imp {f : Value} {r r' : List V → Hp → VK → Prop} (h : CallR X f r) (m : ∀ xs H Q, r' xs H Q → r xs H Q) : CallR X f r' := fun pins s σ H xs us Q J rs q => h pins s σ H xs us Q J rs (m xs H Q q)
theorem IxR.imp {r r' : R2} (h : IxR X r) (m : ∀ x y H Q, r' x y H Q → r x y H Q) : IxR X r' := fun va sl pins s σ H x y v u Q J rx ry q hs => h va sl pins s σ H x y v u Q J rx ry (m x y H Q q) hs
variable {a b : E} {xa xb : Expr} {pos : Pos}
abbrev two (a b : E) : Es := .cons a (.cons b .nil)
theorem pe_binE (hK : w.I.K = X.K) {o : Bop} (ho : o ∉ [Bop.band, .bor, .shl]) (n : noBw (two a b) = true) (ha : PE X xa (rX w a)) (hb : PE X xb (rX w b)) : PE X (.BinOp xa (opA o) xb pos) (rE w (.bin o (two a b))) :=
  PE.imp (pe_op (OpR.imp (bop_ok hK o ho) fun _ _ _ _ h => rB_of (f := binF o) (fun _ _ => rfl) h) ha hb) fun _ _ _ h => rA_args (rE_op (fun τ => ev_bin) n h)
theorem mark_ok {o : CmpOp} {b : Expr} (h : behindInMarks o b = false) : behindInMarks o b = false := h
theorem pe_cmpE (hK : w.I.K = X.K) (hu : X.A.units + 64 < cLine) {o : Cop} (n : noBw (two a b) = true) (ha : PE X xa (rX w a)) (hb : PE X xb (rX w b)) (hm : behindInMarks (cmpA o) xb = false) : PE X (.Compare xa [cmpA o] [xb] pos) (rE w (.cmp o (two a b))) :=
  PE.imp (pe_cmpR (OpR.imp (cmp_ok hK hu o) fun _ _ _ _ h => rB_of (f := cmpF o) (fun _ _ => rfl) h) ha hb hm) fun _ _ _ h => rA_args (rE_op (fun τ => ev_cmp) n h)
theorem pe_subE (hK : w.I.K = X.K) (n : noBw (two a b) = true) (ha : PE X xa (rX w a)) (hb : PE X xb (rX w b)) (hs : notSlice xb = true) : PE X (.Subscript xa xb pos) (rE w (.sub (two a b))) :=
  PE.imp (pe_ix (IxR.imp (ix_ok hK) fun _ _ _ _ h => rB_of (f := subF) (fun _ _ => rfl) h) ha hb (plainIx hs)) fun _ _ _ h => rA_args (rE_op (fun τ => ev_sub) n h)
end
end Py
end

section
set_option maxRecDepth 100000
set_option maxHeartbeats 1000000
/-! Tests, choices, calls. -/
namespace Py
open PySem PySem.Spec PyProof.Rows L2
section
variable {w : Wd} {X : Cx} {σ : L2.St} {H : Hp} {a b c : E} {xa xb xc : Expr} {pos : Pos}
theorem okX_ok {α : Type} {x : α} {τ : S} {k : α → S → Prop} : okX (.ok x τ) k ↔ k x τ := Iff.rfl
theorem truB_some {t : T} {b : Bool} (h : truB t = some b) : t = .bl b := by
  cases t <;> simp only [truB, reduceCtorEq] at h
  cases h; rfl
theorem rv_bl {I : KI} {H0 G : Hp} {fp : Nat → Addr → Prop} {v : V} {r : Sl} {b : Bool} (q : RV I H0 fp G H v r) (h : r.val.bind truB = some b) : v = .bl b := by
  cases q with
  | sh hr =>
    have := truB_some h
    subst this
    cases hr; rfl
  | ow hr hF =>
    have := truB_some h
    subst this
    cases hr
/-- a test by its value -/
theorem rT_val {e : E} {Q : Bool → Hp → Prop} (h : rT w e σ H Q) : tB (rE w e) σ H Q := by
  obtain ⟨G, τ, fp, s, h⟩ := h
  unfold evB at h
  rw [okX_bind] at h
  refine ⟨G, τ, fp, s, okX_mono h fun r τ1 h v G1 H1 fp1 s1 st1 q => ?_⟩
  rw [okX_lift] at h
  obtain ⟨b, e1, h⟩ := h
  exact ⟨b, rv_bl q e1, h G1 H1 fp1 s1 st1⟩
theorem pt_plain {e : E} (h : PE X xa (rE w e)) (hp : plainTest xa = true) : PT X xa (rT w e) := PT.imp (pt_val h (test_plain hp)) fun _ _ _ h => rT_val h
/-- a value that a test says -/
theorem rE_bl {e : E} {f : S → Rx Bool} {Q : VK} (he : ∀ τ, ev w.Γ e τ = (f τ).bind fun b τ => .ok (.sh (.bl b)) τ) (h : rE w e σ H Q) :
    ∃ G τ fp, w.SR G τ fp σ H ∧ okX (f τ) fun b τ' => ∀ G' H' fp', w.SR G' τ' fp' σ H' → Stage fp G H fp' G' H' → Q (.bl b) H' := by
  obtain ⟨G, τ, fp, s, h⟩ := h
  rw [he, okX_bind] at h
  exact ⟨G, τ, fp, s, okX_mono h fun b τ1 h G1 H1 fp1 s1 st1 => h _ G1 H1 fp1 s1 st1 (.sh (.bl b))⟩
theorem ev_not {τ : S} : ev w.Γ (.not a) τ = (evB w.Γ a τ).bind fun b τ => .ok (.sh (.bl (!b))) τ := by
  simp only [ev]
/-- not -/
theorem rT_not {Q : Bool → Hp → Prop} (h : rT w (.not a) σ H Q) : tNot (rT w a) σ H Q := by
  obtain ⟨G, τ, fp, s, h⟩ := h
  unfold evB at h
  rw [okX_bind, ev_not, okX_bind] at h
  refine ⟨G, τ, fp, s, okX_mono h fun b τ1 h G1 H1 fp1 s1 st1 => ?_⟩
  rw [okX_ok, okX_lift] at h
  obtain ⟨c, e, h⟩ := h
  cases e
  exact h G1 H1 fp1 s1 st1
theorem rE_not {Q : VK} (h : rE w (.not a) σ H Q) : tNotV (rE w a) σ H Q := by
  obtain ⟨G, τ, fp, s, h⟩ := h
  rw [ev_not, okX_bind] at h
  unfold evB at h
  rw [okX_bind] at h
  refine ⟨G, τ, fp, s, okX_mono h fun r τ1 h v G1 H1 fp1 s1 st1 q => ?_⟩
  rw [okX_lift] at h
  obtain ⟨b, e1, h⟩ := h
  exact ⟨b, rv_bl q e1, h _ G1 H1 fp1 s1 st1 (.sh (.bl _))⟩
theorem pt_notE (h : PT X xa (rT w a)) : PT X (.UnaryOp .Not xa pos) (rT w (.not a)) := PT.imp (pt_not h) fun _ _ _ h => rT_not h
theorem pe_notE (h : PE X xa (rE w a)) : PE X (.UnaryOp .Not xa pos) (rE w (.not a)) := PE.imp (pe_not h) fun _ _ _ h => rE_not h
/-- and -/
theorem rE_and {Q : VK} (h : rE w (.and a b) σ H Q) : tAndV (rE w a) (rE w b) σ H Q := by
  obtain ⟨G, τ, fp, s, h⟩ := h
  simp only [ev] at h
  rw [okX_bind] at h
  unfold evB at h
  rw [okX_bind] at h
  refine ⟨G, τ, fp, s, okX_mono h fun r τ1 h v G1 H1 fp1 s1 st1 q => ?_⟩
  rw [okX_lift] at h
  obtain ⟨x, e1, h⟩ := h
  refine ⟨x, rv_bl q e1, ?_⟩
  cases x with
  | true =>
    rw [if_pos rfl] at h ⊢
    exact ⟨G1, τ1, fp1, s1, okX_mono h fun r τ2 h v G2 H2 fp2 s2 st2 q => h v G2 H2 fp2 s2 (st1.trans st2) (q.old fun b => st1.back)⟩
  | false =>
    rw [if_neg Bool.false_ne_true] at h ⊢
    exact h _ G1 H1 fp1 s1 st1 (.sh (.bl _))
theorem rE_or {Q : VK} (h : rE w (.or a b) σ H Q) : tOrV (rE w a) (rE w b) σ H Q := by
  obtain ⟨G, τ, fp, s, h⟩ := h
  simp only [ev] at h
  rw [okX_bind] at h
  unfold evB at h
  rw [okX_bind] at h
  refine ⟨G, τ, fp, s, okX_mono h fun r τ1 h v G1 H1 fp1 s1 st1 q => ?_⟩
  rw [okX_lift] at h
  obtain ⟨x, e1, h⟩ := h
  refine ⟨x, rv_bl q e1, ?_⟩
  cases x with
  | true =>
    rw [if_pos rfl] at h ⊢
    exact h _ G1 H1 fp1 s1 st1 (.sh (.bl _))
  | false =>
    rw [if_neg Bool.false_ne_true] at h ⊢
    exact ⟨G1, τ1, fp1, s1, okX_mono h fun r τ2 h v G2 H2 fp2 s2 st2 q => h v G2 H2 fp2 s2 (st1.trans st2) (q.old fun b => st1.back)⟩
theorem rT_and {Q : Bool → Hp → Prop} (h : rT w (.and a b) σ H Q) : tAnd (rT w a) (rT w b) σ H Q := by
  obtain ⟨G, τ, fp, s, h⟩ := h
  unfold evB at h
  simp only [ev] at h
  rw [okX_bind, okX_bind] at h
  refine ⟨G, τ, fp, s, okX_mono h fun x τ1 h G1 H1 fp1 s1 st1 => ?_⟩
  cases x with
  | true =>
    rw [if_pos rfl] at h ⊢
    refine ⟨G1, τ1, fp1, s1, ?_⟩
    unfold evB
    rw [okX_bind]
    exact okX_mono h fun r τ2 h => by
      rw [okX_lift] at h ⊢
      obtain ⟨y, e, h⟩ := h
      exact ⟨y, e, fun G2 H2 fp2 s2 st2 => h G2 H2 fp2 s2 (st1.trans st2)⟩
  | false =>
    rw [if_neg Bool.false_ne_true] at h ⊢
    rw [okX_ok, okX_lift] at h
    obtain ⟨c, e, h⟩ := h
    cases e
    exact h G1 H1 fp1 s1 st1
theorem rT_or {Q : Bool → Hp → Prop} (h : rT w (.or a b) σ H Q) : tOr (rT w a) (rT w b) σ H Q := by
  obtain ⟨G, τ, fp, s, h⟩ := h
  unfold evB at h
  simp only [ev] at h
  rw [okX_bind, okX_bind] at h
  refine ⟨G, τ, fp, s, okX_mono h fun x τ1 h G1 H1 fp1 s1 st1 => ?_⟩
  cases x with
  | true =>
    rw [if_pos rfl] at h ⊢
    rw [okX_ok, okX_lift] at h
    obtain ⟨c, e, h⟩ := h
    cases e
    exact h G1 H1 fp1 s1 st1
  | false =>
    rw [if_neg Bool.false_ne_true] at h ⊢
    refine ⟨G1, τ1, fp1, s1, ?_⟩
    unfold evB
    rw [okX_bind]
    exact okX_mono h fun r τ2 h => by
      rw [okX_lift] at h ⊢
      obtain ⟨y, e, h⟩ := h
      exact ⟨y, e, fun G2 H2 fp2 s2 st2 => h G2 H2 fp2 s2 (st1.trans st2)⟩
theorem PW.imp {t t' : TT} (h : PW X xa t) (m : ∀ σ H Q, t' σ H Q → t σ H Q) : PW X xa t' := ⟨fun wh pins s σ H Q I q => h.run wh pins s σ H Q I (m σ H Q q)⟩
/-- choice -/
theorem rE_ife {Q : VK} (h : rE w (.ife c a b) σ H Q) : tIf (rT w c) (rE w a) (rE w b) σ H Q := by
  obtain ⟨G, τ, fp, s, h⟩ := h
  simp only [ev] at h
  rw [okX_bind] at h
  refine ⟨G, τ, fp, s, okX_mono h fun x τ1 h G1 H1 fp1 s1 st1 => ?_⟩
  cases x with
  | true =>
    rw [if_pos rfl] at h ⊢
    exact ⟨G1, τ1, fp1, s1, okX_mono h fun r τ2 h v G2 H2 fp2 s2 st2 q => h v G2 H2 fp2 s2 (st1.trans st2) (q.old fun b => st1.back)⟩
  | false =>
    rw [if_neg Bool.false_ne_true] at h ⊢
    exact ⟨G1, τ1, fp1, s1, okX_mono h fun r τ2 h v G2 H2 fp2 s2 st2 q => h v G2 H2 fp2 s2 (st1.trans st2) (q.old fun b => st1.back)⟩
theorem pe_ifeE (hc : PT X xc (rT w c)) (ha : PE X xa (rE w a)) (hb : PE X xb (rE w b)) : PE X (.IfExp xc xa xb pos) (rE w (.ife c a b)) := PE.imp (pe_ifExp hc ha hb) fun _ _ _ h => rE_ife h
/-- minus -/
theorem rE_neg {Q : VK} (h : rE w (.neg a) σ H Q) : tUn (rU fun i => .int (-i)) (rE w a) σ H Q := by
  obtain ⟨G, τ, fp, s, h⟩ := h
  simp only [ev] at h
  rw [okX_bind] at h
  refine ⟨G, τ, fp, s, okX_mono h fun r τ1 h v G1 H1 fp1 s1 st1 q => ?_⟩
  split at h
  · rename_i i e
    cases q with
    | sh hr =>
      cases e
      cases hr
      exact ⟨i, rfl, h _ G1 H1 fp1 s1 st1 (.sh (.int _))⟩
    | ow hr hF =>
      cases e
      cases hr
  · exact h.elim
theorem pe_negE (ha : PE X xa (rE w a)) : PE X (.UnaryOp .USub xa pos) (rE w (.neg a)) := PE.imp (pe_un un_neg ha) fun _ _ _ h => rE_neg h
/-- a row of two comparisons -/
theorem rE_chain {o p : Cop} {Q : VK} (h : rE w (.chain o p a b c) σ H Q) : tChain (rB w.I (cmpB o)) (rB w.I (cmpB p)) (rV w a) (rV w b) (rV w c) σ H Q := by
  obtain ⟨G, τ, fp, s, h⟩ := h
  simp only [ev] at h
  rw [okX_bind] at h
  refine ⟨G, τ, fp, s, okX_mono h fun x τ1 h v1 G1 H1 fp1 s1 st1 q1 => ?_⟩
  rw [okX_bind] at h
  refine ⟨G1, τ1, fp1, s1, okX_mono h fun y τ2 h v2 G2 H2 fp2 s2 st2 q2 => ?_⟩
  rw [okX_bind, okX_lift] at h
  obtain ⟨k, e1, h⟩ := h
  refine ⟨G2, x, y, .sh (.bl k), s2.sub, .inl (q1.mono st2.g), .inl q2, by simp [cmpB, e1], fun v G3 H3 o3 => ?_⟩
  cases o3 with
  | old hr =>
    cases hr
    refine ⟨k, rfl, ?_⟩
    cases k with
    | true =>
      rw [if_pos rfl] at h ⊢
      rw [okX_bind] at h
      refine ⟨G2, τ2, fp2, s2, okX_mono h fun z τ3 h v3 G3 H3 fp3 s3 st3 q3 => ?_⟩
      rw [okX_bind, okX_lift] at h
      obtain ⟨k2, e2, h⟩ := h
      refine ⟨G3, y, z, .sh (.bl k2), s3.sub, .inl (q2.mono st3.g), .inl q3, by simp [cmpB, e2], fun v G4 H4 o4 => ?_⟩
      cases o4 with
      | old hr => exact h v G3 H3 fp3 s3 ((st1.trans st2).trans st3) (.sh hr)
    | false =>
      rw [if_neg Bool.false_ne_true] at h ⊢
      exact h _ G2 H2 fp2 s2 (st1.trans st2) (.sh (.bl _))
end
end Py
end

section
set_option maxRecDepth 100000
set_option maxHeartbeats 1000000
/-! Calls, slices, methods. -/
namespace Py
open PySem PySem.Spec PyProof.Rows L2
def CX0 : CXT := fun _ _ _ _ _ _ => False
structure Src where
  fn : List Str
  glo : List Str
  kws : List (Nat × List Str × List Nat)
  lam : Nat → Arguments → Expr → Scope → Bool
  mkr : Bool
def bltNames : List Str := ["len", "int", "abs", "all", "any", "max", "list", "tuple", "sorted", "divmod", "isinstance", "range", "enumerate", "bool", "str", "dict", "min", "sum", "zip"]
structure Ctx (w : Wd) (S : Src) (k : Nat) (X : Cx) : Prop where
  hK : w.I.K = X.K
  calm : X.calm = true
  nd : X.N.Nodup
  room : Room k X.A
  blt : ∀ x ∈ bltNames, X.mg x = none
  fn : ∀ f x, S.fn[f]? = some x → ∃ a fd ps, X.mg x = some (.ref a) ∧ PySem.W.keepIn X.K (.ref a) = true ∧ w.I.fadr f = some a ∧ FnOk X.prog X.w X.K X.mg X.base CX0 k a fd ps (fun vs H Q _ => spC w f vs H Q) ∧ Binds X.K fd ps [] ∧
    ∀ ks perm, (f, ks, perm) ∈ S.kws → ∀ us ws, us.length = ks.length → permute us perm = some ws → bindArgs fd ⟨[], ks.zip us⟩ = pure (ps.zip ws)
  glo : ∀ g x t, S.glo[g]? = some x → w.Γ.glo g = some t → ∃ v u, X.mg x = some u ∧ RelV v u ∧ ∀ G, Rep w.I G v t
  gf : ∀ f, w.I.gf f = none
  nl : ∀ f, w.I.lamNames f = []
  lam : ∀ f L, w.I.lam f L → L.cl = [] ∧ ∃ ps, ∀ a, LOk X.prog X.w X.K X.mg X.base CX0 k a L ps (fun vs H Q _ => spC w f vs H Q)
  mkl : ∀ f params body scope qual c, S.lam f params body scope = true → w.I.lam f ⟨qual, params, body, scope, [], c⟩
  tab : S.mkr = true → ∃ c M nm, X.env.code = .ref c ∧ LamX.TabB X.base X.mg c M ∧ (M, nm) ∈ w.TT ∧ (∀ l k, nm l k = X.env.qual ++ "<lambda>") ∧ ∀ p ∈ w.TT, p.1 = M → p.2 = nm
def noFree (sc : Scope) : Bool := sc.names.all fun y => !(y.2 == .free)
def noDfl (p : Arguments) : Bool := p.defaults.isEmpty && p.kw_defaults.isEmpty
theorem Ctx.un {w : Wd} {S : Src} {k : Nat} {X : Cx} (c : Ctx w S k X) : X.A.units + 64 < cLine := c.room.units
section
variable {w : Wd} {S : Src} {k : Nat} {X : Cx} {σ : L2.St} {H : Hp}
theorem rA.mono {es : Es} {Q Q' : List V → Hp → Prop} (h : rA w es σ H Q) (m : ∀ vs H, Q vs H → Q' vs H) : rA w es σ H Q' := by
  obtain ⟨G, τ, fp, s, h⟩ := h
  exact ⟨G, τ, fp, s, okX_mono h fun ts τ' h vs G' H' fp' s' st a => m _ _ (h vs G' H' fp' s' st a)⟩
theorem pass0 {E : XK} : Passes CX0 X E := fun _ _ _ _ _ _ _ h => h.elim
/-- a def by name -/
theorem pe_callE (c : Ctx w S k X) {f : Nat} {x : Str} {es : Es} {as : List Expr} {p pos : Pos} (hf : S.fn[f]? = some x) (hg : Gl X x) (n : noPk' es = true) (ns : as.all noStar = true) (hl : as = [] → es = .nil) (ha : PA X as (tArgs w es)) (hdb : (x == ("__debug__" : Str)) = false) : PE X (.Call (.Name x p) as [] pos) (rE w (.call f es)) := by
  obtain ⟨a, fd, ps, hm, hk, _, F, hb, _⟩ := c.fn f x hf
  have key : ∀ σ H Q, rE w (.call f es) σ H Q → tArgs w es σ H fun vs H1 => spC w f (vs ++ []) H1 Q := fun σ H Q h => rA_args ((call_rd n h).mono fun vs H q => by rw [List.append_nil]; exact q)
  cases as with
  | nil =>
    cases hl rfl
    exact PE.imp (pe_call0 F c.room hg hm hk hb .nil (pass0 (E := fun _ _ _ => False)) hdb) key
  | cons e r =>
    rw [List.all_cons, Bool.and_eq_true] at ns
    exact PE.imp (pe_call F c.room hg hm hk hb .nil (pass0 (E := fun _ _ _ => False)) ha hdb (starEach_cons ns.1) (back_any ns.2)) key
theorem pe_cfE (c : Ctx w S k X) {f : Nat} {x : Str} {e : E} {a : Expr} {p pos : Pos} (hf : S.fn[f]? = some x) (hg : Gl X x) (ns : noStar a = true) (ha : PE X a (rE w e)) (hdb : (x == ("__debug__" : Str)) = false) : PE X (.Call (.Name x p) [a] [] pos) (rE w (.cf f e)) := by
  obtain ⟨ad, fd, ps, hm, hk, _, F, hb, _⟩ := c.fn f x hf
  refine PE.imp (pe_call F c.room hg hm hk hb .nil (pass0 (E := fun _ _ _ => False)) (pa_cons ha pa_nil (starEach_cons ns)) hdb (starEach_cons ns) (back_any rfl)) fun σ H Q h => ?_
  exact cf_rd h
/-- .. with names alone -/
theorem kw_len : ∀ {kws : List Keyword} {ks : List Str} {env : PySem.Env} {pos : Pos}, kws.map (·.arg) = ks.map some → (backToKw pos (keywordEach kws env)).all (·.1.isSome) = true ∧ (backToKw pos (keywordEach kws env)).filterMap (·.1) = ks ∧ (backToKw pos (keywordEach kws env)).any (·.1.isNone) = false
  | [], [], _, _, _ => ⟨rfl, rfl, rfl⟩
  | [], _ :: _, _, _, h => by simp at h
  | _ :: _, [], _, _, h => by simp at h
  | ⟨nm, e, kp⟩ :: kws, y :: ks, env, pos, h => by
    simp only [List.map_cons, List.cons.injEq] at h
    obtain ⟨rfl, h⟩ := h
    obtain ⟨h1, h2, h3⟩ := kw_len (env := env) (pos := pos) h
    refine ⟨?_, ?_, ?_⟩
    · show (true && (backToKw pos (keywordEach kws env)).all (·.1.isSome)) = true
      rw [h1]; rfl
    · show y :: (backToKw pos (keywordEach kws env)).filterMap (·.1) = _
      rw [h2]
    · show (false || (backToKw pos (keywordEach kws env)).any (·.1.isNone)) = false
      rw [h3]; rfl
theorem permute_vals {vs : List V} {us : List Value} (r : Vals vs us) : ∀ {perm : List Nat} {ws : List V}, permute vs perm = some ws → ∃ zs, permute us perm = some zs ∧ Vals ws zs
  | [], ws, h => by
    simp only [permute] at h
    cases h
    exact ⟨[], rfl, .nil⟩
  | i :: p, ws, h => by
    simp only [permute, Option.bind_eq_some_iff, Option.map_eq_some_iff] at h
    obtain ⟨t, h1, ys, h2, rfl⟩ := h
    obtain ⟨v, e1, e2⟩ := r.get h1
    obtain ⟨zs, f1, f2⟩ := permute_vals r h2
    exact ⟨v :: zs, by simp [permute, e1, f1], .cons e2 f2⟩
theorem pe_callkE (c : Ctx w S k X) {f : Nat} {x : Str} {perm : List Nat} {es : Es} {kws : List Keyword} {ks : List Str} {p pos : Pos} (hf : S.fn[f]? = some x) (hg : Gl X x) (n : noPk es = true) (n2 : noStarE es = true) (hlen : es.len = ks.length) (hkw : kws.map (·.arg) = ks.map some) (hin : (f, ks, perm) ∈ S.kws) (ha : PK X kws (tArgs w es)) (hdb : (x == ("__debug__" : Str)) = false) :
    PE X (.Call (.Name x p) [] kws pos) (rE w (.callk f perm es)) := by
  obtain ⟨a, fd, ps, hm, hk, _, F, _, hb⟩ := c.fn f x hf
  have hb := hb ks perm hin
  obtain ⟨h1, h2, h3⟩ := kw_len (env := X.env) (pos := pos) hkw
  refine ⟨fun pins s σ H Q I h => ?_⟩
  have h := rA_args (callk_rd n n2 h)
  refine wpAny_Call_Name_kw (ld_glob I hg hm ?_ hdb)
  refine PySem.W.callWith_KW0 (h₀ := X.base) I.ok.mod.kin hk h1 (thn (ha.run pos pins s σ H _ I h) fun us s1 ⟨vs, H1, I1, r, el, ws, e1, q⟩ => ⟨I1.kIn, ?_⟩) (by rw [h3]; rfl)
  rw [h2]
  obtain ⟨zs, e2, rz⟩ := permute_vals r e1
  have hlen : us.length = ks.length := by
    rw [← r.length, el, hlen]
  refine wpAny_call (codeAny_mono (F.run X.A X.stack s1 H1 ⟨[], ks.zip us⟩ zs ws Q (fun _ _ _ => False) c.room I1.env0 (.of_eq (hb us zs hlen e2)) rz q) fun r s' hq => ?_)
  cases r with
  | error e => exact hq.elim
  | ok fl =>
    cases fl with
    | ret u => exact I1.after hq
    | next => exact False.elim hq
    | brk => exact False.elim hq
    | cont => exact False.elim hq
/-- a name that holds a lambda, called -/
theorem pe_calE (c : Ctx w S k X) {i : Nat} {x : Str} {es : Es} {as : List Expr} {p pos : Pos} (hN : X.N[i]? = some x) (hv : Vis X.env.scope x) (n : noPk es = true) (ns : as.all noStar = true) (hl : as = [] → es = .nil) (ha : PA X as (tArgs w es)) (hd : (x == ("__debug__" : Str)) = false) (hcd : (x == ("__classdict__" : Str)) = false) :
    PE X (.Call (.Name x p) as [] pos) (rE w (.cal i es)) := by
  refine ⟨fun pins s σ H Q J h => ?_⟩
  obtain ⟨a, f, L, hs, hL, hf, h⟩ := cal_rd n c.gf c.nl h
  obtain ⟨hcl, ps, lk⟩ := c.lam f L hL
  have at_ : ∀ {H' : Hp} {s' : Shared}, Inv X pins σ H' s' → H' a = some (LamO a L) → PySem.W.FnAt a s'.heap := fun J' e => by
    obtain ⟨pm, ctv, z⟩ := lamO_at J'.hok e
    exact ⟨_, _, _, _, z⟩
  have go : ∀ {H' : Hp} {s' : Shared} {us : List Value} {vs : List V}, Inv X pins σ H' s' → H' a = some (LamO a L) → H' L.c = some (LamX.CodeO L.c L.qual) → Vals vs us → spC w f vs H' Q → wpAny (model X.prog X.w) X.A (call (.ref a) us) (EP X pins σ Q) X.xe s' := fun {H' s' us vs} J' e1 e2 r q => by
    refine wpAny_call (codeAny_mono ((lk a).run X.A X.stack s' H' us vs Q (fun _ _ _ => False) c.room J'.env0 e1 e2 r q) fun r s'' hq => ?_)
    cases r with
    | error e => exact hq.elim
    | ok fl =>
      cases fl with
      | ret u => exact J'.after hq
      | next => exact False.elim hq
      | brk => exact False.elim hq
      | cont => exact False.elim hq
  refine wpAny_Call_Name_kw (thn ((pe_var (pos := p) hN hv hd hcd).run pins s σ H (fun v H1 => v = .ref a ∧ H1 = H) J ⟨.ref a, hs, rfl, rfl⟩) fun u s1 ⟨v, H1, J1, r1, q1⟩ => ?_)
  obtain ⟨ev, eH⟩ := q1
  subst ev
  rw [eH] at J1
  obtain rfl : u = Value.ref a := r1
  cases as with
  | nil =>
    cases hl rfl
    refine PySem.W.callWith_F0 (first := []) (at_ J1 hf) ?_
    have h := rA_args h
    obtain ⟨h1, h2, q⟩ := h
    exact go J1 h1 h2 .nil q
  | cons e r =>
    rw [List.all_cons, Bool.and_eq_true] at ns
    refine PySem.W.callWith_F (first := []) (at_ J1 hf) (thn (ha.run pos pins s1 σ H _ J1 (rA_args h)) fun us s2 ⟨vs, H2, J2, r, h1, h2, q⟩ => ⟨at_ J2 h1, ?_⟩) (starEach_cons ns.1) (back_any ns.2)
    exact go J2 h1 h2 r q
theorem clo_nil {cells : List (Str × Addr)} : ∀ {l : List (Str × NameKind)} {acc : List (Str × Addr)}, (l.all fun y => !(y.2 == .free)) = true → cloFrom cells l acc = acc
  | [], _, _ => rfl
  | (n, q) :: l, acc, h => by
    rw [List.all_cons, Bool.and_eq_true] at h
    have h1 : (q == .free) = false := by simpa using h.1
    unfold cloFrom
    rw [h1]
    exact clo_nil h.2
/-- a lambda that captures nothing -/
theorem pe_lamE (c : Ctx w S k X) {f : Nat} {params : Arguments} {body : Expr} {scope : Scope} {pos : Pos} (hl : S.lam f params body scope = true) (hm : S.mkr = true) (hd : noDfl params = true) (hf : noFree scope = true) : PE X (.Lambda params body scope pos) (rE w (.lam f [])) := by
  refine ⟨fun pins s σ H Q J h => ?_⟩
  obtain ⟨G, τ, fp, sr, h⟩ := h
  simp only [ev, List.mapM_nil] at h
  rw [okX_bind, okX_lift] at h
  obtain ⟨cs, e, h⟩ := h
  cases e
  obtain ⟨cc, M, nm, hcode, TB, hmem, hn, hu⟩ := c.tab hm
  have hdef : defaultsOf params X.env = ([], []) := by
    unfold noDfl at hd
    simp only [Bool.and_eq_true, List.isEmpty_iff] at hd
    obtain ⟨p1, p2, p3, p4, p5, p6, p7⟩ := params
    obtain ⟨d1, d2⟩ := hd
    simp only at d1 d2
    subst d1 d2
    rfl
  have hfree : ∀ y ∈ scope.names, y.2 = .free → ∃ c, X.env.cells.lookup y.1 = some c := fun y hy e => by
    have := List.all_eq_true.mp hf y hy
    rw [e] at this
    cases this
  refine lam_mk J sr.sub TB hcode hmem (hn _ _) hu sr.tabs hdef hfree fun a c' H1 s' J1 eN eT nn T1 hG ha hne f1 c1 => ?_
  have ec : cloFrom X.env.cells scope.names [] = [] := clo_nil hf
  rw [ec] at f1
  have g0 : ∀ b o, G b = some o → upd G c' (LamX.CodeO c' (X.env.qual ++ "<lambda>")) b = some o := fun b o e => by
    by_cases z : b = c'
    · subst z
      rw [upd_same]
      rcases hG with hG | hG
      · rw [← hG]; exact e
      · rw [sr.sub _ _ e] at hG; cases hG
    · rw [upd_ne z]; exact e
  have na : upd G c' (LamX.CodeO c' (X.env.qual ++ "<lambda>")) a = none := by
    rw [upd_ne hne]
    cases q : G a with
    | none => rfl
    | some o => rw [sr.sub _ _ q] at ha; cases ha
  have g1 : ∀ b o, G b = some o → upd (upd G c' (LamX.CodeO c' (X.env.qual ++ "<lambda>"))) a (LamO a ⟨X.env.qual ++ "<lambda>", params, body, scope, [], c'⟩) b = some o := fun b o e => by
    have := g0 b o e
    rw [upd_ne (ne_of_none this na)]
    exact this
  have gne : ∀ b o, upd (upd G c' (LamX.CodeO c' (X.env.qual ++ "<lambda>"))) a (LamO a ⟨X.env.qual ++ "<lambda>", params, body, scope, [], c'⟩) b = some o → G b = some o ∨ (b = a ∧ o = LamO a ⟨X.env.qual ++ "<lambda>", params, body, scope, [], c'⟩) ∨ (b = c' ∧ H c' = none ∧ o = LamX.CodeO c' (X.env.qual ++ "<lambda>")) := fun b o e => by
    by_cases z : b = a
    · rw [z, upd_same] at e
      exact .inr (.inl ⟨z, (Option.some.inj e).symm⟩)
    · rw [upd_ne z] at e
      by_cases z2 : b = c'
      · rcases hG with hG | hG
        · rw [z2, upd_same] at e
          rw [z2, hG]
          exact .inl e
        · rw [z2, upd_same] at e
          exact .inr (.inr ⟨z2, hG, (Option.some.inj e).symm⟩)
      · rw [upd_ne z2] at e
        exact .inl e
  have nt1 : ∀ ps, LamO a ⟨X.env.qual ++ "<lambda>", params, body, scope, [], c'⟩ ≠ .tbl ps := fun ps e => by unfold LamO at e; cases e
  have nt2 : ∀ ps, LamX.CodeO c' (X.env.qual ++ "<lambda>") ≠ .tbl ps := fun ps e => by unfold LamX.CodeO at e; cases e
  have live : ∀ b, H b ≠ none → H1 b ≠ none := fun b e z => e (nn b z)
  have own : ∀ {i b}, fp i b → ∃ o, H b = some o ∧ ∀ ps, o ≠ .tbl ps := fun {i b} hi => (sr.out i b hi).2
  refine ⟨.ref a, H1, J1, rfl, h (.ref a) (upd (upd G c' (LamX.CodeO c' (X.env.qual ++ "<lambda>"))) a (LamO a ⟨X.env.qual ++ "<lambda>", params, body, scope, [], c'⟩)) H1 fp ⟨fun b o e => ?_, fun b ps e => ?_, fun i t e => ?_, fun i t e => ?_, fun i t e => ?_, sr.dis, fun i b hi => ?_, sr.emp, sr.len, T1.keep (fun b o e => ?_) (fun _ _ z => z), fun b e => live b (sr.up b e), sr.fr⟩ ⟨g1, fun b o e nt _ => eN b o e nt, eT, fun b e => ?_, fun i b hi => .inl hi, live⟩ (.sh (.clo (F := ⟨X.env.qual ++ "<lambda>", params, body, scope, [], c'⟩) (vs := []) (c.mkl f params body scope _ c' hl) upd_same ?_ ?_ .nil))⟩
  · rcases gne b o e with z | ⟨z1, z2⟩ | ⟨z1, _, z2⟩
    · exact eN b o (sr.sub b o z) fun ps q => sr.ntb b ps (by rw [z, q])
    · rw [z1, z2]; exact f1
    · rw [z1, z2]; exact c1
  · rcases gne b _ e with z | ⟨_, z2⟩ | ⟨_, _, z2⟩
    · exact sr.ntb b ps z
    · exact nt1 ps z2.symm
    · exact nt2 ps z2.symm
  · obtain ⟨v, h1, h2⟩ := sr.sh i t e
    exact ⟨v, h1, h2.mono g1⟩
  · obtain ⟨v, h1, h2⟩ := sr.ow i t e
    exact ⟨v, h1, h2.mono g1 fun b hb => by
      obtain ⟨o, e1, e2⟩ := h2.there b hb
      rw [e1]; exact eN b o e1 e2⟩
  · obtain ⟨v, h0, h1, h2⟩ := sr.bo i t e
    exact ⟨v, h0, h1, h2.mono g1 fun b hb => by
      obtain ⟨o, e1, e2⟩ := h2.there b hb
      rw [e1]; exact eN b o e1 e2⟩
  · obtain ⟨h1, o, h2, h3⟩ := sr.out i b hi
    refine ⟨?_, o, eN b o h2 h3, h3⟩
    cases q : upd (upd G c' (LamX.CodeO c' (X.env.qual ++ "<lambda>"))) a (LamO a ⟨X.env.qual ++ "<lambda>", params, body, scope, [], c'⟩) b with
    | none => rfl
    | some u =>
      rcases gne b u q with z | ⟨z, _⟩ | ⟨z, z1, _⟩
      · rw [h1] at z; cases z
      · rw [z, ha] at h2; cases h2
      · rw [z, z1] at h2; cases h2
  · rw [upd_ne (ne_of_none e na)]; exact e
  · cases q : upd (upd G c' (LamX.CodeO c' (X.env.qual ++ "<lambda>"))) a (LamO a ⟨X.env.qual ++ "<lambda>", params, body, scope, [], c'⟩) b with
    | none => exact absurd q e
    | some u =>
      rcases gne b u q with z | ⟨z, _⟩ | ⟨z, z1, _⟩
      · exact .inl (by rw [z]; simp)
      · rw [z]; exact .inr (.inl ha)
      · rw [z]; exact .inr (.inl z1)
  · show upd _ a _ c' = _
    rw [upd_ne (Ne.symm hne), upd_same]
  · rw [c.nl]
    exact trivial
end
end Py
end

section
set_option maxRecDepth 100000
set_option maxHeartbeats 1000000
/-! Built-in functions, isinstance, methods, slices. -/
namespace Py
open PySem PySem.Spec PyProof.Rows L2
def bltName : Blt → Str
  | .len => "len" | .int => "int" | .str => "str" | .abs => "abs" | .all => "all" | .any => "any" | .sum => "sum" | .max => "max" | .min => "min" | .max0 => "max" | .min0 => "min"
  | .list => "list" | .tuple => "tuple" | .sorted => "sorted" | .divmod => "divmod" | .gcd => "gcd"
/-- a function; a type -/
def bltFn : Blt → Option String
  | .len => some "len" | .abs => some "abs" | .all => some "all" | .any => some "any" | .max => some "max" | .sorted => some "sorted" | .divmod => some "divmod"
  | _ => none
def bltTy : Blt → Option String
  | .int => some "int" | .list => some "list" | .tuple => some "tuple"
  | _ => none
section
variable {w : Wd} {S : Src} {k : Nat} {X : Cx} {σ : L2.St} {H : Hp}
theorem fn_boot {b : Blt} {id : String} (h : bltFn b = some id) : bootBuiltins (bltName b) = some (.builtin id) ∧ bltName b ∈ bltNames ∧ (bltName b == ("__debug__" : Str)) = false ∧ bltName b ≠ "__name__" := by
  cases b <;> simp only [bltFn, Option.some.injEq, reduceCtorEq] at h <;> subst h <;> exact ⟨by decide +kernel, by decide +kernel, by decide +kernel, by decide +kernel⟩
theorem ty_boot {b : Blt} {id : String} (h : bltTy b = some id) : bootBuiltins (bltName b) = some (.type id) ∧ bltName b ∈ bltNames ∧ (bltName b == ("__debug__" : Str)) = false ∧ bltName b ≠ "__name__" := by
  cases b <;> simp only [bltTy, Option.some.injEq, reduceCtorEq] at h <;> subst h <;> exact ⟨by decide +kernel, by decide +kernel, by decide +kernel, by decide +kernel⟩
theorem fn_rule (c : Ctx w S k X) {b : Blt} {id : String} (h : bltFn b = some id) : CallR X (.builtin id) (rBl w.I (bltV b)) := by
  cases b <;> simp only [bltFn, Option.some.injEq, reduceCtorEq] at h <;> subst h
  · exact blt_len c.hK
  · exact blt_abs
  · exact blt_all c.calm
  · exact blt_any c.calm
  · exact blt_max c.hK c.calm c.un
  · exact blt_sorted c.hK c.un
  · exact blt_divmod
theorem ty_rule (c : Ctx w S k X) {b : Blt} {id : String} (h : bltTy b = some id) : CallR X (.type id) (rBl w.I (bltV b)) := by
  cases b <;> simp only [bltTy, Option.some.injEq, reduceCtorEq] at h <;> subst h
  · exact blt_int
  · exact blt_list c.hK
  · exact blt_tuple c.hK
theorem ev_blt {b : Blt} {es : Es} {τ : Py.S} : ev w.Γ (.blt b es) τ = (evs w.Γ es τ).bind fun ts τ => lift (bltV b ts) τ := by
  simp only [ev]
theorem pe_bltE (c : Ctx w S k X) {b : Blt} {es : Es} {e : Expr} {as : List Expr} {p pos : Pos} (hb : (bltFn b).isSome = true ∨ (bltTy b).isSome = true) (hg : Gl X (bltName b)) (n : noBw es = true) (ns : (e :: as).all noStar = true) (ha : PA X (e :: as) (tArgs w es)) :
    PE X (.Call (.Name (bltName b) p) (e :: as) [] pos) (rE w (.blt b es)) := by
  rw [List.all_cons, Bool.and_eq_true] at ns
  have key : ∀ σ H Q, rE w (.blt b es) σ H Q → tCB (rBl w.I (bltV b)) (tArgs w es) σ H Q := fun σ H Q h => rA_args (rE_op (fun τ => ev_blt) n h)
  rcases hb with hb | hb
  · obtain ⟨id, hb⟩ := Option.isSome_iff_exists.mp hb
    obtain ⟨h1, h2, h3, h4⟩ := fn_boot hb
    exact PE.imp (pe_callB (fn_rule c hb) hg (c.blt _ h2) h1 ha h4 h3 (starEach_cons ns.1) (back_any ns.2)) key
  · obtain ⟨id, hb⟩ := Option.isSome_iff_exists.mp hb
    obtain ⟨h1, h2, h3, h4⟩ := ty_boot hb
    exact PE.imp (pe_callTy (ty_rule c hb) hg (c.blt _ h2) h1 ha h4 h3 (starEach_cons ns.1) (back_any ns.2)) key
/-! isinstance -/
def clsName : Cls → Str
  | .int => "int" | .bool => "bool" | .str => "str" | .tuple => "tuple" | .list => "list" | .dict => "dict" | .own _ => "" | .valueError => ""
def clsB : Cls → Bool
  | .own _ => false
  | .valueError => false
  | _ => true
theorem cls_boot {q : Cls} (h : clsB q = true) : bootBuiltins (clsName q) = some (.type (clsV q)) ∧ clsName q ∈ bltNames ∧ (clsName q == ("__debug__" : Str)) = false ∧ clsName q ≠ "__name__" := by
  cases q <;> simp only [clsB, Bool.false_eq_true] at h <;> exact ⟨by decide +kernel, by decide +kernel, by decide +kernel, by decide +kernel⟩
theorem boot_isi : bootBuiltins "isinstance" = some (.builtin "isinstance") := by decide +kernel
theorem rE_isi {a : E} {q : Cls} {Q : VK} (h : rE w (.isi a [q]) σ H Q) : tCB (rIs w.I w.Γ.sub q) (tCons (rV w a) (tCons (tC (.ty (clsV q))) tNil)) σ H Q := by
  obtain ⟨G, τ, fp, s, h⟩ := h
  simp only [ev] at h
  rw [okX_bind] at h
  refine ⟨G, τ, fp, s, okX_mono h fun t τ1 h v G1 H1 fp1 s1 st1 r => ?_⟩
  rw [okX_bind, okX_lift] at h
  obtain ⟨b, e1, h⟩ := h
  have e2 : isOf w.Γ.sub t q = some b := by
    unfold isAny at e1
    cases e : isOf w.Γ.sub t q with
    | none => rw [e] at e1; cases e1
    | some x =>
      rw [e] at e1
      cases x with
      | true => exact e1
      | false => simpa [isAny] using e1
  exact ⟨G1, v, t, b, s1.sub, rfl, .inl r, e2, h _ G1 H1 fp1 s1 st1 (.sh (.bl b))⟩
theorem pe_isiE (c : Ctx w S k X) {a : E} {q : Cls} {e : Expr} {p p2 pos : Pos} (hq : clsB q = true) (hg : Gl X "isinstance") (hg2 : Gl X (clsName q)) (ns : noStar e = true) (ha : PE X e (rV w a)) : PE X (.Call (.Name "isinstance" p) [e, .Name (clsName q) p2] [] pos) (rE w (.isi a [q])) := by
  obtain ⟨h1, h2, h3, h4⟩ := cls_boot hq
  have hc : PE X (.Name (clsName q) p2) (tC (.ty (clsV q))) := pe_bltn hg2 (c.blt _ h2) h1 rfl h4 h3
  exact PE.imp (pe_callB (isi_ok c.hK) hg (c.blt _ (by decide +kernel)) boot_isi (pa_cons ha (pa_cons hc pa_nil) (starEach_cons ns)) (by decide +kernel) (by decide +kernel) (starEach_cons ns) (back_any rfl)) fun _ _ _ h => rE_isi h
/-! slices -/
def rO (w : Wd) : Oe → TO
  | .no => tNoPart
  | .ex e => tPart (rV w e)
theorem rd_o {o : Oe} {G : Hp} {τ : Py.S} {fp : Nat → Addr → Prop} {P : Option Int → Hp → Prop} {K : Option Int → Py.S → Prop} (s : w.SR G τ fp σ H) (h : okX (evO w.Γ o τ) K) (m : ∀ i τ' G' H' fp', w.SR G' τ' fp' σ H' → Stage fp G H fp' G' H' → K i τ' → P i H') : rO w o σ H P := by
  cases o with
  | no =>
    simp only [evO] at h
    exact m none τ G H fp s .refl h
  | ex e =>
    simp only [evO] at h
    rw [okX_bind] at h
    refine ⟨G, τ, fp, s, ?_⟩
    unfold evT
    rw [okX_bind]
    refine okX_mono h fun r τ1 h => ?_
    rw [okX_lift]
    split at h
    · rename_i i e1
      exact ⟨_, e1, fun v G1 H1 fp1 s1 st1 q => by cases q; exact ⟨i, rfl, m _ τ1 G1 H1 fp1 s1 st1 h⟩⟩
    · exact h.elim
theorem rE_sli {a : E} {lo hi : Oe} {Q : VK} (h : rE w (.sli a lo hi) σ H Q) : tSl (rSl w.I) (rV w a) (rO w lo) (rO w hi) σ H Q := by
  obtain ⟨G, τ, fp, s, h⟩ := h
  simp only [ev] at h
  rw [okX_bind] at h
  refine ⟨G, τ, fp, s, okX_mono h fun t τ1 h v G1 H1 fp1 s1 st1 r => ?_⟩
  rw [okX_bind] at h
  refine rd_o s1 h fun i τ2 G2 H2 fp2 s2 st2 h => ?_
  rw [okX_bind] at h
  refine rd_o s2 h fun j τ3 G3 H3 fp3 s3 st3 h => ?_
  rw [okX_lift] at h
  obtain ⟨x, e1, h⟩ := h
  refine ⟨G3, t, x, s3.sub, .inl (r.mono fun b o z => st3.g b o (st2.g b o z)), e1, fun v G4 H4 o => ?_⟩
  obtain ⟨s4, st4, q⟩ := out_ok o s3 ((st1.trans st2).trans st3)
  exact h v G4 H4 fp3 s4 st4 q
theorem pe_sliE (c : Ctx w S k X) {a : E} {lo hi : Oe} {e : Expr} {xl xh : Option Expr} {p2 pos : Pos} (ha : PE X e (rV w a)) (hl : PO X xl (rO w lo)) (hh : PO X xh (rO w hi)) : PE X (.Subscript e (.Slice xl xh none p2) pos) (rE w (.sli a lo hi)) :=
  PE.imp (pe_slice (sl_ok c.hK) ha hl hh) fun _ _ _ h => rE_sli h
/-! methods -/
theorem ev_mth {m : Mth} {es : Es} {τ : Py.S} : ev w.Γ (.mth m es) τ = (evs w.Γ es τ).bind fun ts τ => lift (mthV m ts) τ := by
  simp only [ev]
theorem mth_idx {t : T} {ts : List T} {r : Sl} (h : mthV .index (t :: ts) = some r) : tyT t = "list" ∨ tyT t = "tuple" := by
  cases t with
  | lst l => exact .inl rfl
  | tup l => exact .inr rfl
  | _ => simp [mthV] at h
theorem rE_idx {o : E} {es : Es} {Q : VK} (n1 : ∀ i, o ≠ .pk i) (n2 : ∀ i, o ≠ .bw i) (n : noBw es = true) (h : rE w (.mth .index (.cons o es)) σ H Q) :
    rV w o σ H fun x H1 => ∃ G t, (∀ b o, G b = some o → H1 b = some o) ∧ RepO w.I G H1 x t ∧ (tyT t = "list" ∨ tyT t = "tuple") ∧ tArgs w es σ H1 fun vs H2 => rMt w.I .index (tyT t) x vs H2 Q := by
  obtain ⟨G, τ, fp, s, h⟩ := h
  rw [ev_mth, okX_bind, evs_cons n1 n2, okX_bind] at h
  refine ⟨G, τ, fp, s, okX_mono h fun t τ1 h v G1 H1 fp1 s1 st1 r => ?_⟩
  rw [okX_bind] at h
  refine ⟨G1, t, s1.sub, .inl r, ?_, ?_⟩
  · cases hx : evs w.Γ es τ1 with
    | ok ts τ2 =>
      rw [hx, okX_ok, okX_ok, okX_lift] at h
      obtain ⟨y, e1, _⟩ := h
      exact mth_idx e1
    | ex _ _ _ => rw [hx] at h; exact h.elim
    | bad => rw [hx] at h; exact h.elim
  · refine rA_args ⟨G1, τ1, fp1, s1, okX_mono h fun ts τ2 h vs G2 H2 fp2 s2 st2 a => ?_⟩
    rw [okX_ok, okX_lift] at h
    obtain ⟨y, e1, h⟩ := h
    refine ⟨G2, t, ts, y, s2.sub, rfl, .inl (r.mono st2.g), a.repOs n, e1, fun u G3 H3 o => ?_⟩
    obtain ⟨s3, st3, q⟩ := out_ok o s2 (st1.trans st2)
    exact h u G3 H3 fp2 s3 st3 q
theorem pe_idxE (c : Ctx w S k X) {o : E} {es : Es} {xo e : Expr} {as : List Expr} {apos cpos : Pos} (n1 : ∀ i, o ≠ .pk i) (n2 : ∀ i, o ≠ .bw i) (n : noBw es = true) (ho : PE X xo (rV w o)) (ha : PA X (e :: as) (tArgs w es)) (ns : (e :: as).all noStar = true) (hl : (e :: as).length < 30)
    (hsup : noSuper xo = true) (hline : (apos.endLine == cpos.line) = true) : PE X (.Call (.Attribute xo "index" apos) (e :: as) [] cpos) (rE w (.mth .index (.cons o es))) := by
  refine ⟨fun pins s σ H Q J h => ?_⟩
  have h := rE_idx n1 n2 n h
  have ns' := ns
  rw [List.all_cons, Bool.and_eq_true] at ns'
  refine wpAny_Call_method_late (attr_base hsup) (few (pos := cpos) ns hl) hline rfl (thn (ho.run pins s σ H _ J h) fun v s1 ⟨x, H1, J1, r1, G, t, gh, ro, hty, q1⟩ => ?_)
  obtain ⟨h1, h2⟩ := ty_of c.hK J1 gh ro r1 (hty.imp id .inl)
  have hA := ha.run cpos pins s1 σ H1 _ J1 q1
  rcases hty with hty | hty
  · rw [hty] at h1 hA
    refine ⟨"list", "list.index", PySem.F.plainAttrs_list, PySem.F.slot_list_index, PySem.F.type_list_index, h1, h2, ?_⟩
    rw [starEach_cons ns'.1] at hA ⊢
    refine Calls.callWith_builtin (by show (false || (backTo cpos (starEach as X.env)).any (·.1)) = false; rw [back_any ns'.2] <;> rfl) (Calls.evalArgs_plain ?_)
    exact thn hA fun us s2 ⟨vs, H2, J2, r2, q2⟩ => idx_list pins s2 σ H2 x vs v us Q J2 r1 r2 q2
  · rw [hty] at h1 hA
    refine ⟨"tuple", "tuple.index", PySem.F.plainAttrs_tuple, PySem.F.slot_tuple_index, PySem.F.type_tuple_index, h1, h2, ?_⟩
    rw [starEach_cons ns'.1] at hA ⊢
    refine Calls.callWith_builtin (by show (false || (backTo cpos (starEach as X.env)).any (·.1)) = false; rw [back_any ns'.2] <;> rfl) (Calls.evalArgs_plain ?_)
    exact thn hA fun us s2 ⟨vs, H2, J2, r2, q2⟩ => idx_tup c.hK pins s2 σ H2 x vs v us Q J2 r1 r2 q2
/-- a list that the name holds alone is changed -/
theorem rE_mut {m : Mut} {i : Nat} {es : Es} {Q : VK} (n : noPk es = true) (hm : ∀ l ts r, mutV m (.lst l) ts = some r → ∃ l', r.2 = .lst l') (h : rE w (.mut m i es) σ H Q) :
    tVar i σ H fun x H1 => tyV w.I.K "list" x H1 ∧ tArgs w es σ H1 fun vs H2 => rMut w.I m x vs H2 Q := by
  obtain ⟨G, τ, fp, s, h⟩ := h
  simp only [ev] at h
  rw [okX_bind, okX_lift] at h
  obtain ⟨t0, e0, h⟩ := h
  obtain ⟨p, xs0, l0, _, hσ, hp0, _⟩ := s.mutate e0
  refine ⟨.ref p, hσ, .inl ⟨rfl, xs0, .of hp0⟩, ?_⟩
  rw [okX_bind] at h
  refine rA_args ⟨G, τ, fp, s, okX_mono h fun ts τ1 h vs G1 H1 fp1 s1 st1 a => ?_⟩
  rw [okX_bind, okX_lift] at h
  obtain ⟨t, e1, h⟩ := h
  rw [okX_bind, okX_lift] at h
  obtain ⟨⟨res, t'⟩, e2, h⟩ := h
  obtain ⟨p', xs, l, rfl, hσ', hp, hr, fin⟩ := s1.mutate e1
  rw [hσ] at hσ'
  cases hσ'
  obtain ⟨l', hl'⟩ := hm l ts _ e2
  simp only at hl'
  subst hl'
  refine ⟨G1, p, xs, l, ts, l', res, rfl, s1.sub, hp, hr, a.reps n, e2, fun v ys hv hys => ?_⟩
  obtain ⟨s2, st2⟩ := fin ys l' hys
  exact h v G1 _ fp1 s2 (st1.trans st2) (.sh hv)
end
end Py
end

section
set_option maxRecDepth 100000
set_option maxHeartbeats 1000000
/-! What is walked. -/
namespace Py
open PySem PySem.Spec PyProof.Rows L2
/-- an iterator gives these -/
structure Walk (I : KI) (G : Hp) (J : L2.It) (ts : List T) (pr : Bool) : Prop where
  go : ∀ (i : Nat) (t : T) H, ts[i]? = some t → (∀ b o, G b = some o → H b = some o) → J.go i H
  yld : ∀ (i : Nat) (t : T) H x H', ts[i]? = some t → (∀ b o, G b = some o → H b = some o) → J.yld i H x H' →
    (H' = H ∧ Rep I G x t) ∨ (pr = true ∧ ∃ p xs us, x = .ref p ∧ H p = none ∧ H' = upd H p (.tup xs) ∧ t = .tup us ∧ Reps I G xs us)
  stop : ∀ H, (∀ b o, G b = some o → H b = some o) → J.stop ts.length H
theorem Walk.mono {I : KI} {G G' : Hp} {J : L2.It} {ts : List T} {pr : Bool} (k : Walk I G J ts pr) (s : ∀ b o, G b = some o → G' b = some o) : Walk I G' J ts pr where
  go := fun i t H e h => k.go i t H e fun b o z => h b o (s b o z)
  yld := fun i t H x H' e h y => by
    rcases k.yld i t H x H' e (fun b o z => h b o (s b o z)) y with ⟨h1, h2⟩ | ⟨h0, p, xs, us, h1, h2, h3, h4, h5⟩
    · exact .inl ⟨h1, h2.mono s⟩
    · exact .inr ⟨h0, p, xs, us, h1, h2, h3, h4, h5.mono s⟩
  stop := fun H h => k.stop H fun b o z => h b o (s b o z)
section
variable {I : KI} {G : Hp}
theorem walk_list {K : PySem.W.Frag} {a : Addr} {xs : List V} {l : List T} (h : Rd G a (.lst xs)) (r : Reps I G xs l) : Walk I G (Itl K a) l false where
  go := fun i t H e gh => by
    obtain ⟨v, e1, _⟩ := r.get e
    exact ⟨xs, v, .inl (rd_mono gh h), e1⟩
  yld := fun i t H x H' e gh y => by
    obtain ⟨h1, h2⟩ := y
    have h2 := h2 xs (.inl (rd_mono gh h))
    obtain ⟨t', e1, e2⟩ := r.getV h2
    rw [e] at e1
    cases e1
    exact .inl ⟨h1, e2⟩
  stop := fun H gh => ⟨xs, .inl (rd_mono gh h), by rw [r.length]; exact Nat.le_refl _⟩
theorem walk_tup {K : PySem.W.Frag} {a : Addr} {xs : List V} {l : List T} (h : SqU K G a xs) (r : Reps I G xs l) : Walk I G (Itt K a) l false where
  go := fun i t H e gh => by
    obtain ⟨v, e1, _⟩ := r.get e
    exact ⟨xs, v, (sqU_mono gh h).t, e1⟩
  yld := fun i t H x H' e gh y => by
    obtain ⟨h1, h2⟩ := y
    have h2 := h2 xs (sqU_mono gh h).t
    obtain ⟨t', e1, e2⟩ := r.getV h2
    rw [e] at e1
    cases e1
    exact .inl ⟨h1, e2⟩
  stop := fun H gh => ⟨xs, (sqU_mono gh h).t, by rw [r.length]; exact Nat.le_refl _⟩
theorem walk_str {z : Sy} : Walk I G (Its ⟨z.toArray⟩) (z.map fun c => .str [c]) false where
  go := fun i t H e gh => by
    have := (List.getElem?_eq_some_iff.mp e).1
    show i < z.toArray.size
    simpa using this
  yld := fun i t H x H' e gh y => by
    obtain ⟨h1, c, h2, rfl⟩ := y
    have h2 : z[i]? = some c := by simpa using h2
    rw [List.getElem?_map, h2] at e
    cases e
    exact .inl ⟨h1, rep_str [c]⟩
  stop := fun H gh => by
    show z.toArray.size ≤ _
    simp
theorem walk_rng {lo st : Int} {n : Nat} : Walk I G (Itc lo st n) (rangeL lo n st) false where
  go := fun i t H e gh => by
    have := (List.getElem?_eq_some_iff.mp e).1
    show i < n
    simpa [rangeL] using this
  yld := fun i t H x H' e gh y => by
    obtain ⟨h1, rfl⟩ := y
    have hi : i < n := by
      have := (List.getElem?_eq_some_iff.mp e).1
      simpa [rangeL] using this
    unfold rangeL at e
    rw [List.getElem?_map, List.getElem?_range hi] at e
    cases e
    exact .inl ⟨h1, .int _⟩
  stop := fun H gh => by
    show n ≤ _
    simp [rangeL]
theorem itr_c (lo : Int) (n : Nat) : Itr lo n = Itc lo 1 n := by
  unfold Itr Itc
  congr
  funext i H x H'
  simp
theorem enumL_get : ∀ {l : List T} {n i : Nat} {t : T}, (enumL n l)[i]? = some t → ∃ u, l[i]? = some u ∧ t = .tup [.int ((n + i : Nat) : Int), u]
  | [], n, i, t, h => by simp [enumL] at h
  | x :: l, n, 0, t, h => by
    simp [enumL] at h
    exact ⟨x, rfl, by rw [← h]; simp⟩
  | x :: l, n, i + 1, t, h => by
    obtain ⟨u, h1, h2⟩ := enumL_get (n := n + 1) (i := i) (by simpa [enumL] using h)
    exact ⟨u, by simpa using h1, by rw [h2]; congr 3; omega⟩
theorem enumL_len : ∀ (l : List T) (n : Nat), (enumL n l).length = l.length
  | [], _ => rfl
  | _ :: l, n => by simp [enumL, enumL_len l]
theorem walk_enumL {K : PySem.W.Frag} {a : Addr} {xs : List V} {l : List T} (h : Rd G a (.lst xs)) (r : Reps I G xs l) : Walk I G (Ite K a) (enumL 0 l) true where
  go := fun i t H e gh => by
    obtain ⟨u, h1, _⟩ := enumL_get e
    obtain ⟨v, e1, _⟩ := r.get h1
    exact ⟨xs, v, .inl (rd_mono gh h), e1⟩
  yld := fun i t H x H' e gh y => by
    obtain ⟨u, h1, rfl⟩ := enumL_get e
    obtain ⟨p, v, rfl, hp, rfl, hv⟩ := y
    have hv := hv xs (.inl (rd_mono gh h))
    obtain ⟨t', e1, e2⟩ := r.getV hv
    rw [h1] at e1
    cases e1
    refine .inr ⟨rfl, p, _, _, rfl, hp, rfl, rfl, .cons ?_ (.cons e2 .nil)⟩
    rw [Nat.zero_add]
    exact .int _
  stop := fun H gh => ⟨xs, .inl (rd_mono gh h), by rw [enumL_len, r.length]; exact Nat.le_refl _⟩
theorem walk_enumT {K : PySem.W.Frag} {a : Addr} {xs : List V} {l : List T} (h : SqU K G a xs) (r : Reps I G xs l) : Walk I G (ItET K a) (enumL 0 l) true where
  go := fun i t H e gh => by
    obtain ⟨u, h1, _⟩ := enumL_get e
    obtain ⟨v, e1, _⟩ := r.get h1
    exact ⟨xs, v, (sqU_mono gh h).t, e1⟩
  yld := fun i t H x H' e gh y => by
    obtain ⟨u, h1, rfl⟩ := enumL_get e
    obtain ⟨p, v, rfl, hp, rfl, hv⟩ := y
    have hv := hv xs (sqU_mono gh h).t
    obtain ⟨t', e1, e2⟩ := r.getV hv
    rw [h1] at e1
    cases e1
    refine .inr ⟨rfl, p, _, _, rfl, hp, rfl, rfl, .cons ?_ (.cons e2 .nil)⟩
    rw [Nat.zero_add]
    exact .int _
  stop := fun H gh => ⟨xs, (sqU_mono gh h).t, by rw [enumL_len, r.length]; exact Nat.le_refl _⟩
end
/-! readings -/
section
variable (w : Wd)
def rI (it : Py.It) (pr : Bool) : TI := fun σ H R => ∃ G τ fp, w.SR G τ fp σ H ∧ okX (evI w.Γ it τ) fun ts τ' => ∀ G' H' fp' J, w.SR G' τ' fp' σ H' → Stage fp G H fp' G' H' → Walk w.I G' J ts pr → R J H'
/-- any sequence -/
def iSeq (K : PySem.W.Frag) (te : TE) : TI := fun σ H R => te σ H fun x H1 => (∃ a, x = .ref a ∧ (∃ xs, SqL K H1 a xs) ∧ R (Itl K a) H1) ∨ (∃ a, x = .ref a ∧ (∃ xs, SqT K H1 a xs) ∧ R (Itt K a) H1) ∨ ∃ z, x = .str z ∧ R (Its z) H1
def iEnuS (K : PySem.W.Frag) (ta : TA) : TI := fun σ H R => ta σ H fun vs H1 => ∃ a, vs = [.ref a] ∧ ((∃ xs, SqL K H1 a xs ∧ R (Ite K a) H1) ∨ ∃ xs, SqT K H1 a xs ∧ R (ItET K a) H1)
end
theorem PI.imp {X : Cx} {tg it : Expr} {t t' : TI} (h : PI X tg it t) (m : ∀ σ H R, t' σ H R → t σ H R) : PI X tg it t' := ⟨fun pins s σ H R J q => h.run pins s σ H R J (m σ H R q)⟩
section
variable {w : Wd} {S : Src} {k : Nat} {X : Cx} {σ : L2.St} {H : Hp} {tg : Expr}
theorem pi_seq {l : Expr} {tl : TE} (hl : PE X l tl) : PI X tg l (iSeq X.K tl) := by
  refine ⟨fun pins s σ H R J h => ?_⟩
  refine thn (hl.run pins s σ H _ J h) fun v s1 ⟨x, H1, J1, r1, q1⟩ => ?_
  have new : ∀ b, b ∈ [s1.heap.objs.size] → FpOk X pins H1 b := fun b hb => by
    have e : b = s1.heap.objs.size := by simpa using hb
    subst e
    exact J1.fpOk (Nat.le_refl _) (J1.hok.fresh (Nat.le_refl _))
  rcases q1 with ⟨a, rfl, ⟨xs, hq⟩, q⟩ | ⟨a, rfl, ⟨xs, hq⟩, q⟩ | ⟨z, rfl, q⟩
  · cases r1
    obtain ⟨its, rv, p, hz⟩ := J1.list hq
    exact wpAny_pyIter_list p.isList ⟨s1.heap.objs.size, [s1.heap.objs.size], _, _, H1, rfl, J1.kept (t' := s1.toks) fun b o e => Heap.get?_push_of_some _ e, turn_list a _, ⟨_, Heap.get?_push_size _ rfl, rfl, rfl⟩, new, q⟩
  · cases r1
    obtain ⟨its, rv, p, hz⟩ := J1.tuple hq
    exact wpAny_pyIter_tuple (show s1.heap.IsTuple a its.toArray from p) ⟨s1.heap.objs.size, [s1.heap.objs.size], _, _, H1, rfl, J1.kept (t' := s1.toks) fun b o e => Heap.get?_push_of_some _ e, turn_tuple a _, ⟨_, Heap.get?_push_size _ rfl, rfl, rfl⟩, new, q⟩
  · obtain ⟨t, rfl⟩ := r1
    cases ha : z.cps.all (· < 128)
    · exact wpAny_pyIter_wide ha (pi_one (tk := s1.toks) J1 _ (turn_str _ z t "str_iterator" (.inr rfl)) ⟨_, Heap.get?_push_size _ rfl, rfl, rfl⟩ q)
    · exact wpAny_pyIter_ascii ha (pi_one (tk := s1.toks) J1 _ (turn_str _ z t "str_ascii_iterator" (.inl rfl)) ⟨_, Heap.get?_push_size _ rfl, rfl, rfl⟩ q)
theorem rI_ex {e : E} {R : L2.It → Hp → Prop} (h : rI w (.ex e) false σ H R) : iSeq w.I.K (rV w e) σ H R := by
  obtain ⟨G, τ, fp, s, h⟩ := h
  simp only [evI] at h
  rw [okX_bind] at h
  refine ⟨G, τ, fp, s, okX_mono h fun t τ1 h v G1 H1 fp1 s1 st1 r => ?_⟩
  rw [okX_lift] at h
  obtain ⟨l, e1, h⟩ := h
  cases r <;> simp only [itemsOf, reduceCtorEq, Option.some.injEq] at e1
  · subst e1
    rename_i z
    refine .inr (.inr ⟨z, rfl, h G1 H1 fp1 _ s1 st1 ?_⟩)
    have := walk_str (I := w.I) (G := G1) (z := z.cps.toList)
    simpa using this
  · subst e1
    rename_i a xs ts hs hr
    exact .inr (.inl ⟨a, rfl, ⟨xs, (sqU_mono s1.sub hs).t⟩, h G1 H1 fp1 _ s1 st1 (walk_tup hs hr)⟩)
  · subst e1
    rename_i a xs ts hs hr
    exact .inl ⟨a, rfl, ⟨xs, .inl (rd_mono s1.sub hs)⟩, h G1 H1 fp1 _ s1 st1 (walk_list hs hr)⟩
theorem pi_exE (c : Ctx w S k X) {e : E} {l : Expr} (h : PE X l (rV w e)) : PI X tg l (rI w (.ex e) false) := PI.imp (pi_seq h) fun σ H R h => by rw [← c.hK]; exact rI_ex h
/-! ranges -/
theorem small_pos {a b c : Int} (ha : a.natAbs ≤ sizeMost) (hb : b.natAbs ≤ sizeMost) (hc : 0 < c) (hc' : c ≤ sizeMost) : Builtin.Range.small a b c = true := by
  have e0 : sizeMost = 1048576 := rfl
  have key : 0 ≤ Builtin.Range.rangeSize a b c ∧ Builtin.Range.rangeSize a b c ≤ 4 * sizeMost := by
    unfold Builtin.Range.rangeSize
    rw [if_pos hc]
    split
    · rename_i h
      have h1 : 0 ≤ (b - a - 1) / c := Int.ediv_nonneg (by omega) (by omega)
      have h2 : (b - a - 1) / c ≤ b - a - 1 := Int.ediv_le_self _ (by omega)
      omega
    · omega
  unfold Builtin.Range.small
  generalize Builtin.Range.rangeSize a b c = n at key
  rw [if_pos (show c > 0 from hc)]
  simp only [Builtin.Range.rangeFitsLong, Bool.and_eq_true, Bool.or_eq_true, decide_eq_true_eq, beq_iff_eq]
  have p1 : (2 : Int) ^ 63 = 9223372036854775808 := by decide
  rw [p1]
  refine ⟨⟨⟨⟨⟨?_, ?_⟩, ?_, ?_⟩, ?_, ?_⟩, ?_, ?_⟩, .inr ⟨?_, ?_⟩⟩ <;> omega
theorem ro_len1 {I : KI} {G H : Hp} {vs : List V} {ts : List T} (r : RepOs I G H vs ts) (n : vs.length = 1) : ∃ v t, vs = [v] ∧ ts = [t] ∧ RepO I G H v t := by
  rcases r with _ | ⟨h1, _ | ⟨h2, r⟩⟩
  · cases n
  · exact ⟨_, _, rfl, rfl, h1⟩
  · simp at n
theorem ro_len2 {I : KI} {G H : Hp} {vs : List V} {ts : List T} (r : RepOs I G H vs ts) (n : vs.length = 2) : ∃ v v2 t t2, vs = [v, v2] ∧ ts = [t, t2] ∧ RepO I G H v t ∧ RepO I G H v2 t2 := by
  rcases r with _ | ⟨h1, _ | ⟨h2, _ | ⟨h3, r⟩⟩⟩
  · cases n
  · cases n
  · exact ⟨_, _, _, _, rfl, rfl, h1, h2⟩
  · simp at n
theorem ro_len3 {I : KI} {G H : Hp} {vs : List V} {ts : List T} (r : RepOs I G H vs ts) (n : vs.length = 3) : ∃ v v2 v3 t t2 t3, vs = [v, v2, v3] ∧ ts = [t, t2, t3] ∧ RepO I G H v t ∧ RepO I G H v2 t2 ∧ RepO I G H v3 t3 := by
  rcases r with _ | ⟨h1, _ | ⟨h2, _ | ⟨h3, _ | ⟨h4, r⟩⟩⟩⟩
  · cases n
  · cases n
  · cases n
  · exact ⟨_, _, _, _, _, _, rfl, rfl, h1, h2, h3⟩
  · simp at n
theorem rI_rng1 {a : E} {R : L2.It → Hp → Prop} (n : noBw (.cons a .nil) = true) (h : rI w (.rng (.cons a .nil)) false σ H R) : iRng1 (tArgs w (.cons a .nil)) σ H R := by
  obtain ⟨G, τ, fp, s, h⟩ := h
  simp only [evI] at h
  rw [okX_bind] at h
  refine rA_args ⟨G, τ, fp, s, okX_mono h fun ts τ1 h vs G1 H1 fp1 s1 st1 a => ?_⟩
  obtain ⟨v, t, rfl, rfl, h1⟩ := ro_len1 (a.repOs n) (a.len rfl)
  rw [okX_lift] at h
  obtain ⟨l, e1, h⟩ := h
  have e0 : sizeMost = 1048576 := rfl
  cases t <;> simp only [rangeV, reduceCtorEq] at e1
  split at e1
  · rename_i hb
    cases e1
    cases repO_int h1
    have hb := of_decide_eq_true hb
    refine ⟨_, rfl, by omega, by omega, h G1 H1 fp1 _ s1 st1 ?_⟩
    rw [itr_c]
    exact walk_rng
  · cases e1
theorem rI_rng2 {a b : E} {R : L2.It → Hp → Prop} (n : noBw (two a b) = true) (h : rI w (.rng (two a b)) false σ H R) : iRng2 (tArgs w (two a b)) σ H R := by
  obtain ⟨G, τ, fp, s, h⟩ := h
  simp only [evI] at h
  rw [okX_bind] at h
  refine rA_args ⟨G, τ, fp, s, okX_mono h fun ts τ1 h vs G1 H1 fp1 s1 st1 a => ?_⟩
  obtain ⟨v, v2, t, t2, rfl, rfl, h1, h2⟩ := ro_len2 (a.repOs n) (a.len rfl)
  rw [okX_lift] at h
  obtain ⟨l, e1, h⟩ := h
  have e0 : sizeMost = 1048576 := rfl
  cases t <;> cases t2 <;> simp only [rangeV, reduceCtorEq] at e1
  split at e1
  · rename_i hb
    cases e1
    cases repO_int h1
    cases repO_int h2
    rw [Bool.and_eq_true, decide_eq_true_eq, decide_eq_true_eq] at hb
    refine ⟨_, _, rfl, ⟨by omega, by omega, by omega, by omega⟩, h G1 H1 fp1 _ s1 st1 ?_⟩
    rw [itr_c]
    exact walk_rng
  · cases e1
theorem rI_rng3 {a b c : E} {R : L2.It → Hp → Prop} (n : noBw (.cons a (two b c)) = true) (h : rI w (.rng (.cons a (two b c))) false σ H R) : iRng3 (tArgs w (.cons a (two b c))) σ H R := by
  obtain ⟨G, τ, fp, s, h⟩ := h
  simp only [evI] at h
  rw [okX_bind] at h
  refine rA_args ⟨G, τ, fp, s, okX_mono h fun ts τ1 h vs G1 H1 fp1 s1 st1 a => ?_⟩
  obtain ⟨v, v2, v3, t, t2, t3, rfl, rfl, h1, h2, h3⟩ := ro_len3 (a.repOs n) (a.len rfl)
  rw [okX_lift] at h
  obtain ⟨l, e1, h⟩ := h
  have e0 : sizeMost = 1048576 := rfl
  cases t <;> cases t2 <;> cases t3 <;> simp only [rangeV, reduceCtorEq] at e1
  split at e1
  · rename_i hb
    cases e1
    cases repO_int h1
    cases repO_int h2
    cases repO_int h3
    simp only [Bool.and_eq_true, decide_eq_true_eq] at hb
    obtain ⟨⟨⟨b1, b2⟩, b3⟩, b4⟩ := hb
    exact ⟨_, _, _, _, rfl, ⟨by omega, by omega, small_pos b1 b2 b3 b4, rangeSize_toNat _ _ _⟩, h G1 H1 fp1 _ s1 st1 walk_rng⟩
  · cases e1
/-! enumerate -/
theorem pi_enuS {e : Expr} {ta : TA} {p pos tpos : Pos} {elts : List Expr} {kk : Nat} (hg : Gl X "enumerate") (hm : X.mg "enumerate" = none) (ha : PA X [e] ta) (hs : noStar e = true) :
    PI X (.Tuple elts kk tpos) (.Call (.Name "enumerate" p) [e] [] pos) (iEnuS X.K ta) := by
  refine ⟨fun pins s σ H R J h => ?_⟩
  refine Call_ (ld_blt J hg hm boot_enumerate (PyProof.Rows.callWith_type1 (thn (ha.run pos pins s σ H _ J h) fun us s1 ⟨vs, H1, J1, r1, q1⟩ => ?_) (starEach_cons hs) rfl))
  obtain ⟨a, rfl, q1⟩ := q1
  obtain ⟨u, rfl, r⟩ := L2.vals1 r1
  cases r
  have new : ∀ b, b ∈ [s1.heap.objs.size + 1, s1.heap.objs.size] → FpOk X pins H1 b := fun b hb => by
    have hle : s1.heap.objs.size ≤ b := by
      rcases (by simpa using hb : b = s1.heap.objs.size + 1 ∨ b = s1.heap.objs.size) with z | z <;> omega
    exact J1.fpOk hle (J1.hok.fresh hle)
  rcases q1 with ⟨xs, hq, q⟩ | ⟨xs, hq, q⟩
  · obtain ⟨its, rv, p', hz⟩ := J1.list hq
    refine call_enumerate_list p'.isList fun h' he hit hsz hk => wpAny_pyIter_enum he ?_
    exact ⟨s1.heap.objs.size + 1, [s1.heap.objs.size + 1, s1.heap.objs.size], _, _, H1, rfl, J1.kept (t' := s1.toks) hk, turn_enum a (s1.heap.objs.size + 1) s1.heap.objs.size, ⟨⟨.none, he⟩, hit, Nat.succ_ne_self _⟩, new, q⟩
  · obtain ⟨its, rv, p', hz⟩ := J1.tuple hq
    refine call_enumT (show s1.heap.IsTuple a its.toArray from p') fun h' he hit hk => wpAny_pyIter_enum he ?_
    exact ⟨s1.heap.objs.size + 1, [s1.heap.objs.size + 1, s1.heap.objs.size], _, _, H1, rfl, J1.kept (t' := s1.toks) hk, turn_enumT a (s1.heap.objs.size + 1) s1.heap.objs.size, ⟨⟨.none, he⟩, hit, Nat.succ_ne_self _⟩, new, q⟩
theorem rI_enu {e : E} {R : L2.It → Hp → Prop} (h : rI w (.enu e) true σ H R) : iEnuS w.I.K (tCons (rV w e) tNil) σ H R := by
  obtain ⟨G, τ, fp, s, h⟩ := h
  simp only [evI] at h
  rw [okX_bind] at h
  refine ⟨G, τ, fp, s, okX_mono h fun t τ1 h v G1 H1 fp1 s1 st1 r => ?_⟩
  cases r <;> first | exact h.elim | skip
  · rename_i a xs ts hs hr
    exact ⟨a, rfl, .inr ⟨xs, (sqU_mono s1.sub hs).t, h G1 H1 fp1 _ s1 st1 (walk_enumT hs hr)⟩⟩
  · rename_i a xs ts hs hr
    exact ⟨a, rfl, .inl ⟨xs, .inl (rd_mono s1.sub hs), h G1 H1 fp1 _ s1 st1 (walk_enumL hs hr)⟩⟩
theorem pi_enuE (c : Ctx w S k X) {e : E} {xe : Expr} {p pos tpos : Pos} {elts : List Expr} {kk : Nat} (hg : Gl X "enumerate") (ha : PE X xe (rV w e)) (hs : noStar xe = true) : PI X (.Tuple elts kk tpos) (.Call (.Name "enumerate" p) [xe] [] pos) (rI w (.enu e) true) :=
  PI.imp (pi_enuS hg (c.blt _ (by decide +kernel)) (pa_cons ha pa_nil (starEach_cons hs)) hs) fun σ H R h => by rw [← c.hK]; exact rI_enu h
end
end Py
end

section
set_option maxRecDepth 100000
set_option maxHeartbeats 1000000
/-! Comprehensions of one clause. -/
namespace Py
open PySem PySem.Spec PyProof.Rows L2
theorem okX_ex {α : Type} {x : Rx α} {k : α → S → Prop} (h : okX x k) : ∃ a τ, x = .ok a τ ∧ k a τ := by
  cases x with
  | ok a τ => exact ⟨a, τ, rfl, h⟩
  | ex _ _ _ => exact h.elim
  | bad => exact h.elim
section
variable {I : KI} {TT : Tabs} {B : Nat → Option V} {Z G H : Hp} {τ : S} {fp : Nat → Addr → Prop} {σ : L2.St}
/-- a list beside all that changes -/
theorem SR.side {D : Addr} {xs ys : List V} (s : SR I TT B Z G τ fp σ H) (hD : H D = some (.lst xs)) (gD : G D = none) (nf : ∀ i, ¬ fp i D) : SR I TT B Z G τ fp σ (upd H D (.lst ys)) where
  sub := fun b o e => by
    rw [upd_ne (fun z => by rw [z, gD] at e; cases e)]
    exact s.sub b o e
  ntb := s.ntb
  sh := s.sh
  ow := fun i t e => let ⟨v, h1, h2⟩ := s.ow i t e; ⟨v, h1, h2.mono (fun _ _ h => h) fun b hb => upd_ne fun z => nf i (by rw [← z]; exact hb)⟩
  bo := fun i t e => let ⟨v, h0, h1, h2⟩ := s.bo i t e; ⟨v, h0, h1, h2.mono (fun _ _ h => h) fun b hb => upd_ne fun z => nf i (by rw [← z]; exact hb)⟩
  dis := s.dis
  out := fun i b h => by
    obtain ⟨h1, o, h2, h3⟩ := s.out i b h
    exact ⟨h1, o, by rw [upd_ne (fun z => nf i (by rw [← z]; exact h))]; exact h2, h3⟩
  emp := s.emp
  len := s.len
  tabs := tabsN_lst s.tabs hD
  up := fun b h => by
    by_cases z : b = D
    · rw [z, upd_same]; simp
    · rw [upd_ne z]; exact s.up b h
  fr := s.fr
theorem wipe_get {σ : L2.St} {own : List Nat} {j : Nat} : (L2.wipe σ own)[j]? = if j ∈ own ∧ j < σ.length then some none else σ[j]? := by
  induction own with
  | nil => simp [L2.wipe]
  | cons i r ih =>
    unfold L2.wipe
    by_cases hj : j = i
    · subst hj
      by_cases hl : j < σ.length
      · rw [List.getElem?_set_self (by rw [wipe_length]; exact hl), if_pos ⟨List.mem_cons_self, hl⟩]
      · rw [List.getElem?_eq_none (by rw [List.length_set, wipe_length]; omega), if_neg (fun z => hl z.2), List.getElem?_eq_none (by omega)]
    · rw [List.getElem?_set_ne (Ne.symm hj), ih]
      simp [hj]
theorem wipe_eq {σ σ' : L2.St} {own is : List Nat} (h : Only is (L2.wipe σ own) σ') (hs : ∀ i ∈ is, i ∈ own) : L2.wipe σ' own = L2.wipe σ own := by
  apply List.ext_getElem?
  intro j
  have hl : σ'.length = σ.length := h.1.trans (wipe_length _ _)
  rw [wipe_get, wipe_get, hl]
  split
  · rfl
  · rename_i hn
    by_cases hj : j ∈ own
    · have hge : σ.length ≤ j := by
        by_cases z : j < σ.length
        · exact absurd ⟨hj, z⟩ hn
        · omega
      rw [List.getElem?_eq_none (by omega), List.getElem?_eq_none hge]
    · rw [h.2 j fun z => hj (hs j z), wipe_get, if_neg fun z => hj z.1]
theorem wipeS_get {τ : S} {own : List Nat} {j : Nat} {x : Sl} (h : (wipeS τ own)[j]? = some x) (hx : x ≠ .no) : j ∉ own ∧ τ[j]? = some x := by
  induction own generalizing τ with
  | nil => exact ⟨by simp, h⟩
  | cons i r ih =>
    obtain ⟨h1, h2⟩ := ih (τ := τ.set i .no) h
    have ne : j ≠ i := by
      rintro rfl
      by_cases hl : j < τ.length
      · rw [List.getElem?_set_self hl] at h2
        cases h2
        exact hx rfl
      · rw [List.getElem?_eq_none (by rw [List.length_set]; omega)] at h2
        cases h2
    rw [List.getElem?_set_ne (Ne.symm ne)] at h2
    exact ⟨by simp [ne, h1], h2⟩
theorem wipeS_len {τ : S} {own : List Nat} : (wipeS τ own).length = τ.length := by
  induction own generalizing τ with
  | nil => rfl
  | cons i r ih => exact (ih (τ := τ.set i .no)).trans List.length_set
theorem wipeS_no {τ : S} {own : List Nat} {j : Nat} (h : j ∈ own) : slAt (wipeS τ own) j = .no := by
  cases e : (wipeS τ own)[j]? with
  | none => unfold slAt; rw [e]; rfl
  | some x =>
    rw [slAt_some e]
    by_cases hx : x = .no
    · exact hx
    · exact absurd h (wipeS_get e hx).1
theorem wipeS_self {τ : S} {own : List Nat} {j : Nat} (h : j ∉ own) : (wipeS τ own)[j]? = τ[j]? := by
  induction own generalizing τ with
  | nil => rfl
  | cons i r ih =>
    have h1 : j ≠ i := fun z => h (by simp [z])
    exact (ih (τ := τ.set i .no) fun z => h (List.mem_cons_of_mem _ z)).trans (List.getElem?_set_ne (Ne.symm h1))
/-- the block's names empty, on both sides -/
theorem SR.block (s : SR I TT B Z G τ fp σ H) (own : List Nat) : ∃ fp', SR I TT B Z G (wipeS τ own) fp' (L2.wipe σ own) H ∧ ∀ j b, fp' j b → fp j b := by
  obtain ⟨fp', h1, h2⟩ := s.wipes own
  refine ⟨fp', h1.sig (wipe_length _ _) fun i x v e hx hv => ?_, h2⟩
  rw [wipe_get, if_neg fun z => (wipeS_get e hx).1 z.1]
  exact hv
theorem backS_get {τ0 τ : S} {own : List Nat} {j : Nat} {x : Sl} (h : (backS τ0 own τ)[j]? = some x) : (j ∈ own ∧ slAt τ0 j = x) ∨ (j ∉ own ∧ τ[j]? = some x) := by
  induction own generalizing τ with
  | nil => exact .inr ⟨by simp, h⟩
  | cons i r ih =>
    rcases ih (τ := τ.set i (slAt τ0 i)) h with ⟨h1, h2⟩ | ⟨h1, h2⟩
    · exact .inl ⟨List.mem_cons_of_mem _ h1, h2⟩
    · by_cases hj : j = i
      · subst hj
        by_cases hl : j < τ.length
        · rw [List.getElem?_set_self hl] at h2
          exact .inl ⟨List.mem_cons_self, Option.some.inj h2⟩
        · rw [List.getElem?_eq_none (by rw [List.length_set]; omega)] at h2
          cases h2
      · rw [List.getElem?_set_ne (Ne.symm hj)] at h2
        exact .inr ⟨by simp [hj, h1], h2⟩
theorem backS_len {τ0 τ : S} {own : List Nat} : (backS τ0 own τ).length = τ.length := by
  induction own generalizing τ with
  | nil => rfl
  | cons i r ih => exact (ih (τ := τ.set i (slAt τ0 i))).trans List.length_set
theorem backS_self {τ0 τ : S} {own : List Nat} {j : Nat} (h : j ∉ own) : (backS τ0 own τ)[j]? = τ[j]? := by
  induction own generalizing τ with
  | nil => rfl
  | cons i r ih =>
    have h1 : j ≠ i := fun z => h (by simp [z])
    exact (ih (τ := τ.set i (slAt τ0 i)) fun z => h (List.mem_cons_of_mem _ z)).trans (List.getElem?_set_ne (Ne.symm h1))
/-- behind the block -/
theorem SR.unblock {G0 H0 : Hp} {τ0 : S} {fp0 : Nat → Addr → Prop} {own : List Nat} (s0 : SR I TT B Z G0 τ0 fp0 σ H0) (c : clear τ0 own = true) (s : SR I TT B Z G (wipeS τ own) fp (L2.wipe σ own) H) (g : ∀ b o, G0 b = some o → G b = some o) :
    SR I TT B Z G (backS τ0 own τ) fp σ H := by
  have wσ : ∀ (i : Nat) v, (L2.wipe σ own)[i]? = some (some v) → σ[i]? = some (some v) := fun i v e => by
    rw [wipe_get] at e
    split at e
    · cases e
    · exact e
  have cl : ∀ i ∈ own, slAt τ0 i = .no ∨ ∃ t, slAt τ0 i = .sh t := fun i hi => by
    have := List.all_eq_true.mp c i hi
    split at this
    · rename_i e; exact .inl e
    · rename_i t e; exact .inr ⟨t, e⟩
    · cases this
  have at0 : ∀ {i x}, slAt τ0 i = x → x ≠ .no → τ0[i]? = some x := fun {i x} e hx => slAt_eq e hx
  refine ⟨s.sub, s.ntb, fun i t e => ?_, fun i t e => ?_, fun i t e => ?_, s.dis, s.out, fun i hi b hb => ?_, ?_, s.tabs, s.up, fun i t b e hb => ?_⟩
  · rcases backS_get e with ⟨h1, h2⟩ | ⟨h1, h2⟩
    · obtain ⟨v, e1, e2⟩ := s0.sh i t (at0 h2 (by simp))
      exact ⟨v, e1, e2.mono g⟩
    · obtain ⟨v, e1, e2⟩ := s.sh i t (by rw [wipeS_self h1]; exact h2)
      exact ⟨v, wσ i v e1, e2⟩
  · rcases backS_get e with ⟨h1, h2⟩ | ⟨h1, h2⟩
    · rcases cl i h1 with z | ⟨u, z⟩ <;> (rw [h2] at z; cases z)
    · obtain ⟨v, e1, e2⟩ := s.ow i t (by rw [wipeS_self h1]; exact h2)
      exact ⟨v, wσ i v e1, e2⟩
  · rcases backS_get e with ⟨h1, h2⟩ | ⟨h1, h2⟩
    · rcases cl i h1 with z | ⟨u, z⟩ <;> (rw [h2] at z; cases z)
    · obtain ⟨v, e0, e1, e2⟩ := s.bo i t (by rw [wipeS_self h1]; exact h2)
      exact ⟨v, e0, wσ i v e1, e2⟩
  · refine s.emp i (fun t => ?_) b hb
    by_cases h1 : i ∈ own
    · constructor <;> (intro z; have := wipeS_get z (by simp); exact this.1 h1)
    · rw [wipeS_self h1, ← backS_self (τ0 := τ0) h1]
      exact hi t
  · rw [backS_len, ← wipeS_len (own := own), s.len, wipe_length]
  · rcases backS_get e with ⟨h1, h2⟩ | ⟨h1, h2⟩
    · rcases cl i h1 with z | ⟨u, z⟩ <;> (rw [h2] at z; cases z)
    · exact s.fr i t b (by rw [wipeS_self h1]; exact h2) hb
end
/-- tests in a row -/
def rC (w : Wd) (es : Es) : TT := fun σ H Q => ∃ G τ fp, w.SR G τ fp σ H ∧ okX (evC w.Γ es τ) fun b τ' => ∀ G' H' fp', w.SR G' τ' fp' σ H' → Stage fp G H fp' G' H' → Q b H'
section
variable {w : Wd} {σ : L2.St} {H : Hp}
theorem evG_one {t : Tg} {it : Py.It} {ifs : Es} {k : S → Rx (List T)} {own : List Nat} {τ : S} : evG w.Γ (.cons t it ifs .nil) k own τ = (evI w.Γ it τ).bind fun items τ => loopC (fun x τ => (asg w.Γ t (.sh x) (wipeS τ own)).bind fun _ τ => (evC w.Γ ifs τ).bind fun b τ => if b then k τ else .ok [] τ) items τ := by
  rw [evG]
  congr
  funext items τ
  congr
  funext x τ
  congr
  funext _ τ
  congr
  funext b τ
  rw [evG]
theorem fit_le {l : List T} (h : fits l = true) : l.length ≤ sizeMost := fits_le h
theorem comp_rd {e : E} {own : List Nat} {t : Tg} {it : Py.It} {ifs : Es} {pr : Bool} {Q : VK} (hs : ∀ i ∈ t.slots, i ∈ own) (hp : pr = true → t.tupB = true) (h : rE w (.cmpr e own (.cons t it ifs .nil)) σ H Q) : tLc (rI w it pr) (rG w t) (rC w ifs) (rV w e) own σ H Q := by
  obtain ⟨G, τ, fp, s, h⟩ := h
  simp only [ev] at h
  split at h
  case isFalse => exact h.elim
  rename_i hc
  rw [okX_bind, evG_one, okX_bind] at h
  refine ⟨G, τ, fp, s, okX_mono h fun items τ1 h G1 H1 fp1 J s1 st1 wk D hD => ?_⟩
  have gD : G1 D = none := g_none s1.sub hD
  have nD : ∀ i, ¬ fp1 i D := fun i z => by
    obtain ⟨_, o, e, _⟩ := s1.out i D z
    rw [hD] at e; cases e
  refine ⟨fun i m H2 => m = items.length - i ∧ i ≤ items.length ∧ ∃ G2 τ2 fp2 acc accT, w.SR G2 (wipeS τ2 own) fp2 (L2.wipe σ own) H2 ∧ Stage fp1 G1 H1 fp2 G2 H2 ∧ H2 D = some (.lst acc) ∧ Reps w.I G2 acc accT ∧ G2 D = none ∧ (∀ i, ¬ fp2 i D) ∧
    okX (loopC (fun x τ => (asg w.Γ t (.sh x) (wipeS τ own)).bind fun _ τ => (evC w.Γ ifs τ).bind fun b τ => if b then (evT w.Γ e τ).bind fun t τ => .ok [t] τ else .ok [] τ) (items.drop i) τ2) (fun ts τ' => okX (if fits (accT ++ ts) then Rx.ok (Sl.ow (T.lst (accT ++ ts))) (backS τ own τ') else .bad) fun r τ' => ∀ v G' H' fp', w.SR G' τ' fp' σ H' → Stage fp G H fp' G' H' → RV w.I H fp' G' H' v r → Q v H'),
    ⟨_, rfl, Nat.zero_le _, ?_⟩, ?_⟩
  · obtain ⟨fp', b1, b2⟩ := s1.block own
    have nD' : ∀ i, ¬ fp' i D := fun i z => nD i (b2 i D z)
    refine ⟨G1, τ1, fp', [], [], b1.new hD, (Stage.new hD).less fun j b z => .inl (b2 j b z), upd_same, .nil, gD, nD', ?_⟩
    rw [List.drop_zero]
    exact h
  · rintro i m H2 ⟨rfl, hi, G2, τ2, fp2, acc, accT, s2, st2, hD2, hr, gD2, nD2, h⟩
    by_cases hlt : i < items.length
    · have ei : items[i]? = some items[i] := List.getElem?_eq_getElem hlt
      have gw : ∀ b o, G1 b = some o → H2 b = some o := fun b o z => s2.sub b o (st2.g b o z)
      rw [List.drop_eq_getElem_cons hlt, loopC, okX_bind] at h
      refine .inr ⟨wk.go i _ H2 ei gw, fun H' => ∃ m', m' < items.length - i ∧ m' = items.length - (i + 1) ∧ i + 1 ≤ items.length ∧ ∃ G2 τ2 fp2 acc accT, w.SR G2 (wipeS τ2 own) fp2 (L2.wipe σ own) H' ∧ Stage fp1 G1 H1 fp2 G2 H' ∧ H' D = some (.lst acc) ∧ Reps w.I G2 acc accT ∧ G2 D = none ∧ (∀ i, ¬ fp2 i D) ∧
        okX (loopC (fun x τ => (asg w.Γ t (.sh x) (wipeS τ own)).bind fun _ τ => (evC w.Γ ifs τ).bind fun b τ => if b then (evT w.Γ e τ).bind fun t τ => .ok [t] τ else .ok [] τ) (items.drop (i + 1)) τ2) (fun ts τ' => okX (if fits (accT ++ ts) then Rx.ok (Sl.ow (T.lst (accT ++ ts))) (backS τ own τ') else .bad) fun r τ' => ∀ v G' H' fp', w.SR G' τ' fp' σ H' → Stage fp G H fp' G' H' → RV w.I H fp' G' H' v r → Q v H'),
        fun H' z => z, fun x H3 y => ?_⟩
      -- the item
      have item : ∃ G3 fp3, w.SR G2 (wipeS τ2 own) fp2 (L2.wipe σ own) H3 ∧ TV w.I H3 fp2 G2 H3 t.tupB x (.sh items[i]) ∧ Stage fp2 G2 H2 fp2 G2 H3 ∧ H3 D = some (.lst acc) ∧ G3 = G2 ∧ fp3 = fp2 := by
        rcases wk.yld i _ H2 x H3 ei gw y with ⟨rfl, q⟩ | ⟨hpr, p, xs, us, rfl, hp0, rfl, hu, q⟩
        · exact ⟨G2, fp2, s2, .inl (.sh (q.mono st2.g)), .refl, hD2, rfl, rfl⟩
        · refine ⟨G2, fp2, s2.new hp0, .inr ⟨hp hpr, p, xs, us, rfl, upd_same, by rw [hu], q.mono st2.g⟩, .new hp0, ?_, rfl, rfl⟩
          rw [upd_ne (ne_of_none hD2 hp0)]
          exact hD2
      obtain ⟨_, _, s3, tv, st3, hD3, _, _⟩ := item
      rw [okX_bind] at h
      refine ⟨G2, H3, fp2, G2, wipeS τ2 own, fp2, .sh items[i], .refl, s3, fun b z => s3.zero z, tv, okX_mono h fun _ τ4 h σ4 G4 H4 fp4 s4 st4 on => ⟨wipe_eq on hs, ?_⟩⟩
      have hD4 : H4 D = some (.lst acc) := st4.h D _ hD3 (fun ps z => by cases z) nD2
      have gD4 : G4 D = none := by
        cases z : G4 D with
        | none => rfl
        | some o =>
          rcases st4.n D (by rw [z]; simp) with q | q | ⟨j, q⟩
          · exact absurd gD2 q
          · rw [hD3] at q; cases q
          · exact absurd q (nD2 j)
      have nD4 : ∀ i, ¬ fp4 i D := fun j z => by
        rcases st4.o j D z with q | q
        · exact nD2 j q
        · rw [hD3] at q; cases q
      rw [okX_bind] at h
      refine ⟨G4, τ4, fp4, s4, okX_mono h fun b τ5 h G5 H5 fp5 s5 st5 => ?_⟩
      have hD5 : H5 D = some (.lst acc) := st5.h D _ hD4 (fun ps z => by cases z) nD4
      have gD5 : G5 D = none := by
        cases z : G5 D with
        | none => rfl
        | some o =>
          rcases st5.n D (by rw [z]; simp) with q | q | ⟨j, q⟩
          · exact absurd gD4 q
          · rw [hD4] at q; cases q
          · exact absurd q (nD4 j)
      have nD5 : ∀ i, ¬ fp5 i D := fun j z => by
        rcases st5.o j D z with q | q
        · exact nD4 j q
        · rw [hD4] at q; cases q
      have st15 : Stage fp1 G1 H1 fp5 G5 H5 := ((st2.trans st3).trans st4).trans st5
      have we : L2.wipe σ4 own = L2.wipe σ own := wipe_eq on hs
      cases b with
      | true =>
        rw [if_pos rfl] at h
        show (if true = true then _ else _)
        rw [if_pos rfl]
        rw [okX_bind] at h
        refine ⟨G5, τ5, fp5, s5, okX_mono h fun y τ6 h v G6 H6 fp6 s6 st6 q6 => ?_⟩
        have hD6 : H6 D = some (.lst acc) := st6.h D _ hD5 (fun ps z => by cases z) nD5
        have gD6 : G6 D = none := by
          cases z : G6 D with
          | none => rfl
          | some o =>
            rcases st6.n D (by rw [z]; simp) with q | q | ⟨j, q⟩
            · exact absurd gD5 q
            · rw [hD5] at q; cases q
            · exact absurd q (nD5 j)
        have nD6 : ∀ i, ¬ fp6 i D := fun j z => by
          rcases st6.o j D z with q | q
          · exact nD5 j q
          · rw [hD5] at q; cases q
        rw [okX_ok, okX_bind] at h
        have h : okX (loopC _ (items.drop (i + 1)) τ6) fun ts τ' => okX (if fits (accT ++ ([y] ++ ts)) then Rx.ok (Sl.ow (T.lst (accT ++ ([y] ++ ts)))) (backS τ own τ') else .bad) fun r τ' => ∀ v G' H' fp', w.SR G' τ' fp' σ H' → Stage fp G H fp' G' H' → RV w.I H fp' G' H' v r → Q v H' := h
        have hr6 : Reps w.I G6 (acc ++ [v]) (accT ++ [y]) := (hr.mono fun b o z => st6.g b o (st5.g b o (st4.g b o z))).append (.cons q6 .nil)
        have hlen : acc.length < sizeLine := by
          obtain ⟨ts, τ', _, k⟩ := okX_ex h
          split at k
          · rename_i hf
            have hf := fits_le hf
            have e1 : sizeMost = 1048576 := rfl
            have e2 := sizeLine_eq
            rw [hr.length]
            simp only [List.length_append, List.length_cons, List.length_nil] at hf
            omega
          · exact k.elim
        refine ⟨acc, hD6, hlen, _, by omega, rfl, hlt, ?_⟩
        have s7 := s6.side (ys := acc ++ [v]) hD6 gD6 nD6
        obtain ⟨fp7, b1, b2⟩ := s7.block own
        rw [we] at b1
        refine ⟨G6, τ6, fp7, acc ++ [v], accT ++ [y], b1, ?_, upd_same, hr6, gD6, fun j z => nD6 j (b2 j D z), ?_⟩
        · have st16 := st15.trans st6
          refine ⟨st16.g, fun b o z nt nf => ?_, fun b ps z => ?_, st16.n, fun j b z => st16.o j b (b2 j b z), fun b z => ?_⟩
          · rw [upd_ne (ne_of_none z hD)]
            exact st16.h b o z nt nf
          · obtain ⟨ps', z'⟩ := st16.tb b ps z
            exact ⟨ps', by rw [upd_ne (fun q => by rw [q, hD6] at z'; cases z')]; exact z'⟩
          · by_cases q : b = D
            · rw [q, upd_same]; simp
            · rw [upd_ne q]; exact st16.l b z
        · refine okX_mono h fun ts τ' k => ?_
          rw [List.append_assoc]
          exact k
      | false =>
        rw [if_neg Bool.false_ne_true] at h
        show (if false = true then _ else _)
        rw [if_neg Bool.false_ne_true]
        rw [okX_ok, okX_bind] at h
        obtain ⟨fp7, b1, b2⟩ := s5.block own
        rw [we] at b1
        refine ⟨_, by omega, rfl, hlt, G5, τ5, fp7, acc, accT, b1, st15.less fun j b z => .inl (b2 j b z), hD5, hr.mono fun b o z => st5.g b o (st4.g b o z), gD5, fun j z => nD5 j (b2 j D z), ?_⟩
        exact okX_mono h fun ts τ' k => k
    · have e : i = items.length := by omega
      subst e
      rw [List.drop_length, loopC, okX_ok, List.append_nil] at h
      refine .inl ⟨wk.stop H2 fun b o z => s2.sub b o (st2.g b o z), ?_⟩
      split at h
      · rw [okX_ok] at h
        have s3 := s.unblock hc s2 fun b o z => st2.g b o (st1.g b o z)
        refine h (.ref D) G2 H2 fp2 s3 (st1.trans st2) (.ow (.lst hD2 hr) fun b hb => ?_)
        cases hb
        exact ⟨st1.back hD, gD2, nD2⟩
      · exact h.elim
end
end Py
end

section
set_option maxRecDepth 100000
set_option maxHeartbeats 1000000
/-! Statements. -/
namespace Py
open PySem PySem.Spec PyProof.Rows L2
/-- where a statement ends -/
def okR (x : R) (nx : S → Prop) (rt : Sl → S → Prop) (bk ct : S → Prop) : Prop := match x with
  | .nx τ => nx τ
  | .rt r τ => rt r τ
  | .br τ => bk τ
  | .ct τ => ct τ
  | _ => False
theorem okR_mono {x : R} {nx nx' bk bk' ct ct' : S → Prop} {rt rt' : Sl → S → Prop} (h : okR x nx rt bk ct) (h1 : ∀ τ, nx τ → nx' τ) (h2 : ∀ r τ, rt r τ → rt' r τ) (h3 : ∀ τ, bk τ → bk' τ) (h4 : ∀ τ, ct τ → ct' τ) : okR x nx' rt' bk' ct' := by
  cases x with
  | nx τ => exact h1 τ h
  | rt r τ => exact h2 r τ h
  | br τ => exact h3 τ h
  | ct τ => exact h4 τ h
  | ex _ _ _ => exact h.elim
  | bad => exact h.elim
theorem okR_toR {α : Type} {x : Rx α} {f : α → S → R} {nx bk ct : S → Prop} {rt : Sl → S → Prop} : okR (x.toR f) nx rt bk ct ↔ okX x fun a τ => okR (f a τ) nx rt bk ct := by
  cases x <;> exact Iff.rfl
theorem okR_forget {fg : List Nat} {x : R} {nx bk ct : S → Prop} {rt : Sl → S → Prop} : okR (forget fg x) nx rt bk ct ↔ okR x (fun τ => nx (wipeS τ fg)) rt (fun τ => bk (wipeS τ fg)) fun τ => ct (wipeS τ fg) := by
  cases x <;> exact Iff.rfl
section
variable (w : Wd)
/-- what is asked behind a statement that began at G, H, fp -/
def Nx (G H : Hp) (fp : Nat → Addr → Prop) (k : L2.St → Hp → Prop) (τ' : S) : Prop := ∀ σ' G' H' fp', w.SR G' τ' fp' σ' H' → Stage fp G H fp' G' H' → k σ' H'
def Rt (G H : Hp) (fp : Nat → Addr → Prop) (k : VK) (r : Sl) (τ' : S) : Prop := ∀ v σ' G' H' fp', w.SR G' τ' fp' σ' H' → Stage fp G H fp' G' H' → RV w.I w.Z fp' G' H' v r → k v H'
def rR (f : S → R) : TS := fun D σ H => ∃ G τ fp, w.SR G τ fp σ H ∧ okR (f τ) (Nx w G H fp D.nx) (Rt w G H fp D.rt) (Nx w G H fp D.bk) (Nx w G H fp D.ct)
def rS (s : St) : TS := rR w (exS w.Γ s)
def rSs (s : Ss) : TS := rR w (exSs w.Γ s)
end
theorem PS.imp {X : Cx} {a : Stmt} {t t' : TS} (h : PS X a t) (m : ∀ D σ H, t' D σ H → t D σ H) : PS X a t' := ⟨fun pins s σ H D J q => h.run pins s σ H D J (m D σ H q)⟩
theorem PSs.imp {X : Cx} {a : List Stmt} {t t' : TS} (h : PSs X a t) (m : ∀ D σ H, t' D σ H → t D σ H) : PSs X a t' := ⟨fun pins s σ H D J q => h.run pins s σ H D J (m D σ H q)⟩
theorem PG.imp {X : Cx} {a : Expr} {t t' : TG} (h : PG X a t) (m : ∀ v σ H Q, t' v σ H Q → t v σ H Q) : PG X a t' := ⟨fun pins s σ H v u Q J r q => h.run pins s σ H v u Q J r (m v σ H Q q)⟩
section
variable {w : Wd} {S' : Src} {k : Nat} {X : Cx} {σ : L2.St} {H : Hp} {D : Ends}
theorem Nx.trans {G G1 H1 : Hp} {fp fp1 : Nat → Addr → Prop} {q : L2.St → Hp → Prop} {τ : S} (h : Nx w G H fp q τ) (st : Stage fp G H fp1 G1 H1) : Nx w G1 H1 fp1 q τ := fun σ' G' H' fp' s' st' => h σ' G' H' fp' s' (st.trans st')
theorem Rt.trans {G G1 H1 : Hp} {fp fp1 : Nat → Addr → Prop} {q : VK} {r : Sl} {τ : S} (h : Rt w G H fp q r τ) (st : Stage fp G H fp1 G1 H1) : Rt w G1 H1 fp1 q r τ := fun v σ' G' H' fp' s' st' => h v σ' G' H' fp' s' (st.trans st')
/-- from a later state on -/
theorem okR_from {G G1 H1 : Hp} {fp fp1 : Nat → Addr → Prop} {x : R} (h : okR x (Nx w G H fp D.nx) (Rt w G H fp D.rt) (Nx w G H fp D.bk) (Nx w G H fp D.ct)) (st : Stage fp G H fp1 G1 H1) : okR x (Nx w G1 H1 fp1 D.nx) (Rt w G1 H1 fp1 D.rt) (Nx w G1 H1 fp1 D.bk) (Nx w G1 H1 fp1 D.ct) :=
  okR_mono h (fun _ h => h.trans st) (fun _ _ h => h.trans st) (fun _ h => h.trans st) fun _ h => h.trans st
theorem pss_nilE : PSs X [] (rSs w .nil) := PSs.imp pss_nil fun D σ H h => by
  obtain ⟨G, τ, fp, s, h⟩ := h
  rw [exSs] at h
  exact h σ G H fp s .refl
theorem pss_consE {a : St} {r : Ss} {x : Stmt} {xs : List Stmt} (h1 : PS X x (rS w a)) (h2 : PSs X xs (rSs w r)) : PSs X (x :: xs) (rSs w (.cons a r)) := PSs.imp (pss_cons h1 h2) fun D σ H h => by
  obtain ⟨G, τ, fp, s, h⟩ := h
  rw [exSs] at h
  refine ⟨G, τ, fp, s, ?_⟩
  cases e : exS w.Γ a τ with
  | nx τ1 =>
    rw [e] at h
    exact fun σ1 G1 H1 fp1 s1 st1 => ⟨G1, τ1, fp1, s1, okR_from h st1⟩
  | rt r τ1 => rw [e] at h; exact h
  | br τ1 => rw [e] at h; exact h
  | ct τ1 => rw [e] at h; exact h
  | ex _ _ _ => rw [e] at h; exact h.elim
  | bad => rw [e] at h; exact h.elim
theorem ps_passE {pos : Pos} : PS X (.Pass pos) (rS w .pss) := PS.imp ps_pass fun D σ H h => by
  obtain ⟨G, τ, fp, s, h⟩ := h
  rw [exS] at h
  exact h σ G H fp s .refl
theorem ps_contE {pos : Pos} : PS X (.Continue pos) (rS w .cont) := PS.imp ps_continue fun D σ H h => by
  obtain ⟨G, τ, fp, s, h⟩ := h
  rw [exS] at h
  exact h σ G H fp s .refl
theorem ps_breakE {pos : Pos} : PS X (.Break pos) (rS w .brk) := PS.imp ps_break fun D σ H h => by
  obtain ⟨G, τ, fp, s, h⟩ := h
  rw [exS] at h
  exact h σ G H fp s .refl
/-- code that is never come to -/
theorem ps_raiseE {c : Nat} {es : Es} {x : Stmt} : PS X x (rS w (.rai c es)) := PS.imp ps_never fun D σ H h => by
  obtain ⟨G, τ, fp, s, h⟩ := h
  rw [exS, okR_toR] at h
  obtain ⟨a, τ', _, h⟩ := okX_ex h
  exact h
theorem ps_expE {e : E} {x : Expr} {pos : Pos} (he : PE X x (rE w e)) (hn : notComp x = true) : PS X (.Expr x pos) (rS w (.exp e)) := PS.imp (ps_expr he (swaps_no hn)) fun D σ H h => by
  obtain ⟨G, τ, fp, s, h⟩ := h
  rw [exS, okR_toR] at h
  exact ⟨G, τ, fp, s, okX_mono h fun r τ1 h v G1 H1 fp1 s1 st1 q => h σ G1 H1 fp1 s1 st1⟩
theorem ps_ifE {c : E} {a b : Ss} {xc : Expr} {xa xb : List Stmt} {pos : Pos} (hc : PT X xc (rT w c)) (ha : PSs X xa (rSs w a)) (hb : PSs X xb (rSs w b)) : PS X (.If xc xa xb pos) (rS w (.iff c a b)) := PS.imp (ps_if hc ha hb) fun D σ H h => by
  obtain ⟨G, τ, fp, s, h⟩ := h
  rw [exS, okR_toR] at h
  refine ⟨G, τ, fp, s, okX_mono h fun x τ1 h G1 H1 fp1 s1 st1 => ?_⟩
  cases x with
  | true =>
    rw [if_pos rfl] at h ⊢
    exact ⟨G1, τ1, fp1, s1, okR_from h st1⟩
  | false =>
    rw [if_neg Bool.false_ne_true] at h ⊢
    exact ⟨G1, τ1, fp1, s1, okR_from h st1⟩
/-- return of a name: what it holds alone goes with it -/
theorem ps_retnE {i : Nat} {x : Expr} {pos : Pos} (he : PE X x (tVar i)) : PS X (.Return (some x) pos) (rS w (.ret (.nm i))) := PS.imp (ps_ret he) fun D σ H h => by
  obtain ⟨G, τ, fp, s, h⟩ := h
  rw [exS] at h
  split at h
  · rename_i t e
    have e := slAt_eq e (by simp)
    obtain ⟨v, h1, h2⟩ := s.sh i t e
    exact ⟨v, h1, h v σ G H fp s .refl (.sh h2)⟩
  · rename_i t e
    have e := slAt_eq e (by simp)
    obtain ⟨v, h1, h2⟩ := s.ow i t e
    refine ⟨v, h1, h v σ G H _ s.drop (Stage.refl.less fun j b z => .inl (fpPut_sub z)) (.ow h2 fun b hb => ⟨s.fr i t b e hb, (s.out i b hb).1, fun j hj => ?_⟩)⟩
    rcases hj with ⟨_, z⟩ | ⟨hne, z⟩
    · exact z
    · exact hne (s.dis j i b z hb)
  · exact h.elim
theorem exS_ret {e : E} {τ : S} (n : ∀ i, e ≠ .nm i) : exS w.Γ (.ret e) τ = (ev w.Γ e τ).toR fun r τ => .rt r τ := by
  cases e <;> first | (simp only [exS]; done) | exact absurd rfl (n _)
theorem ps_retE {e : E} {x : Expr} {pos : Pos} (n : ∀ i, e ≠ .nm i) (he : PE X x (rE w e)) : PS X (.Return (some x) pos) (rS w (.ret e)) := PS.imp (ps_ret he) fun D σ H h => by
  obtain ⟨G, τ, fp, s, h⟩ := h
  rw [exS_ret n, okR_toR] at h
  exact ⟨G, τ, fp, s, okX_mono h fun r τ1 h v G1 H1 fp1 s1 st1 q => h v σ G1 H1 fp1 s1 st1 (q.old fun b => s.zero)⟩
/-- target = value -/
theorem rd_asg {t : Tg} {e : E} (h : rS w (.asg t e) D σ H) : tAsg (rE w e) (rG w t) D σ H := by
  obtain ⟨G, τ, fp, s, h⟩ := h
  rw [exS, okR_toR] at h
  refine ⟨G, τ, fp, s, okX_mono h fun r τ1 h v G1 H1 fp1 s1 st1 q => ?_⟩
  rw [okR_toR] at h
  exact ⟨G, H, fp, G1, τ1, fp1, r, st1, s1, fun b => s.zero, .inl q, okX_mono h fun _ τ2 h σ2 G2 H2 fp2 s2 st2 _ => h σ2 G2 H2 fp2 s2 st2⟩
theorem ps_asgE {t : Tg} {e : E} {x tx : Expr} {pos : Pos} (he : PE X x (rE w e)) (hg : PG X tx (rG w t)) (hn : notComp x = true) (hw : swappedStores [tx] x X.env = pure none) (h1 : noStar tx = true) : PS X (.Assign [tx] x pos) (rS w (.asg t e)) :=
  PS.imp (ps_asg he hg (swaps_sole hn) hw (by cases tx <;> first | rfl | (simp [noStar] at h1))) fun D σ H h => rd_asg h
/-! for -/
theorem rd_for {t : Tg} {it : Py.It} {body : Ss} {fg : List Nat} {pr : Bool} (hp : pr = true → t.tupB = true) (h : rS w (.for_ t it body fg) D σ H) : tFor (rI w it pr) (rG w t) (rSs w body) D σ H := by
  obtain ⟨G, τ, fp, s, h⟩ := h
  rw [exS, okR_toR] at h
  refine ⟨G, τ, fp, s, okX_mono h fun items τ1 h G1 H1 fp1 J s1 st1 wk => ?_⟩
  refine ⟨fun i m σ2 H2 => m = items.length - i ∧ i ≤ items.length ∧ ∃ G2 τ2 fp2, w.SR G2 τ2 fp2 σ2 H2 ∧ Stage fp1 G1 H1 fp2 G2 H2 ∧
    okR (forget fg (loopS (fun x τ => (asg w.Γ t (.sh x) τ).toR fun _ τ => forget fg (exSs w.Γ body τ)) (items.drop i) τ2)) (Nx w G H fp D.nx) (Rt w G H fp D.rt) (Nx w G H fp D.bk) (Nx w G H fp D.ct),
    ⟨_, rfl, Nat.zero_le _, G1, τ1, fp1, s1, .refl, by rw [List.drop_zero]; exact h⟩, ?_⟩
  rintro i m σ2 H2 ⟨rfl, hi, G2, τ2, fp2, s2, st2, h⟩
  by_cases hlt : i < items.length
  · have ei : items[i]? = some items[i] := List.getElem?_eq_getElem hlt
    have gw : ∀ b o, G1 b = some o → H2 b = some o := fun b o z => s2.sub b o (st2.g b o z)
    refine .inr ⟨wk.go i _ H2 ei gw, fun σ' H' => ∃ m', m' < items.length - i ∧ m' = items.length - (i + 1) ∧ i + 1 ≤ items.length ∧ ∃ G2 τ2 fp2, w.SR G2 τ2 fp2 σ' H' ∧ Stage fp1 G1 H1 fp2 G2 H' ∧
      okR (forget fg (loopS (fun x τ => (asg w.Γ t (.sh x) τ).toR fun _ τ => forget fg (exSs w.Γ body τ)) (items.drop (i + 1)) τ2)) (Nx w G H fp D.nx) (Rt w G H fp D.rt) (Nx w G H fp D.bk) (Nx w G H fp D.ct), fun σ' H' z => z, fun x H3 y => ?_⟩
    have item : w.SR G2 τ2 fp2 σ2 H3 ∧ TV w.I H3 fp2 G2 H3 t.tupB x (.sh items[i]) ∧ Stage fp2 G2 H2 fp2 G2 H3 := by
      rcases wk.yld i _ H2 x H3 ei gw y with ⟨rfl, q⟩ | ⟨hpr, p, xs, us, rfl, hp0, rfl, hu, q⟩
      · exact ⟨s2, .inl (.sh (q.mono st2.g)), .refl⟩
      · exact ⟨s2.new hp0, .inr ⟨hp hpr, p, xs, us, rfl, upd_same, by rw [hu], q.mono st2.g⟩, .new hp0⟩
    obtain ⟨s3, tv, st3⟩ := item
    have st13 := st2.trans st3
    rw [List.drop_eq_getElem_cons hlt, loopS] at h
    rw [okR_forget] at h
    refine ⟨G2, H3, fp2, G2, τ2, fp2, .sh items[i], .refl, s3, fun b z => s3.zero z, tv, ?_⟩
    cases ea : asg w.Γ t (.sh items[i]) τ2 with
    | ex _ _ _ => rw [ea] at h; exact h.elim
    | bad => rw [ea] at h; exact h.elim
    | ok u τ4 =>
      rw [ea] at h
      intro σ4 G4 H4 fp4 s4 st4 _
      have st14 := st13.trans st4
      refine ⟨G4, τ4, fp4, s4, ?_⟩
      have again : ∀ (τ5 : S), okR (forget fg (loopS (fun x τ => (asg w.Γ t (.sh x) τ).toR fun _ τ => forget fg (exSs w.Γ body τ)) (items.drop (i + 1)) (wipeS τ5 fg))) (Nx w G H fp D.nx) (Rt w G H fp D.rt) (Nx w G H fp D.bk) (Nx w G H fp D.ct) →
          Nx w G4 H4 fp4 (fun σ' H' => ∃ m', m' < items.length - i ∧ m' = items.length - (i + 1) ∧ i + 1 ≤ items.length ∧ ∃ G2 τ2 fp2, w.SR G2 τ2 fp2 σ' H' ∧ Stage fp1 G1 H1 fp2 G2 H' ∧
      okR (forget fg (loopS (fun x τ => (asg w.Γ t (.sh x) τ).toR fun _ τ => forget fg (exSs w.Γ body τ)) (items.drop (i + 1)) τ2)) (Nx w G H fp D.nx) (Rt w G H fp D.rt) (Nx w G H fp D.bk) (Nx w G H fp D.ct)) τ5 := by
        intro τ5 k σ5 G5 H5 fp5 s5 st5
        obtain ⟨fp6, b1, b2⟩ := s5.wipes fg
        exact ⟨_, by omega, rfl, hlt, G5, wipeS τ5 fg, fp6, b1, (st14.trans st5).less fun j b z => .inl (b2 j b z), k⟩
      have h : okR (match forget fg (exSs w.Γ body τ4) with
        | .nx τ => loopS (fun x τ => (asg w.Γ t (.sh x) τ).toR fun _ τ => forget fg (exSs w.Γ body τ)) (items.drop (i + 1)) τ
        | .ct τ => loopS (fun x τ => (asg w.Γ t (.sh x) τ).toR fun _ τ => forget fg (exSs w.Γ body τ)) (items.drop (i + 1)) τ
        | .br τ => .nx τ
        | r => r) (fun τ => Nx w G H fp D.nx (wipeS τ fg)) (Rt w G H fp D.rt) (fun τ => Nx w G H fp D.bk (wipeS τ fg)) (fun τ => Nx w G H fp D.ct (wipeS τ fg)) := h
      have stG := st1.trans st14
      cases eb : exSs w.Γ body τ4 with
      | nx τ5 =>
        rw [eb] at h
        exact again τ5 (okR_forget.mpr h)
      | ct τ5 =>
        rw [eb] at h
        exact again τ5 (okR_forget.mpr h)
      | br τ5 =>
        rw [eb] at h
        intro σ5 G5 H5 fp5 s5 st5
        obtain ⟨fp6, b1, b2⟩ := s5.wipes fg
        obtain ⟨fp7, c1, c2⟩ := b1.wipes fg
        exact h σ5 G5 H5 fp7 c1 ((stG.trans st5).less fun j b z => .inl (b2 j b (c2 j b z)))
      | rt r τ5 =>
        rw [eb] at h
        exact Rt.trans h stG
      | ex _ _ _ => rw [eb] at h; exact h.elim
      | bad => rw [eb] at h; exact h.elim
  · have e : i = items.length := by omega
    subst e
    rw [List.drop_length, loopS] at h
    obtain ⟨fp6, b1, b2⟩ := s2.wipes fg
    exact .inl ⟨wk.stop H2 fun b o z => s2.sub b o (st2.g b o z), h σ2 G2 H2 fp6 b1 ((st1.trans st2).less fun j b z => .inl (b2 j b z))⟩
theorem ps_forE {t : Tg} {it : Py.It} {body : Ss} {fg : List Nat} {pr : Bool} {tx ix : Expr} {xb : List Stmt} {pos : Pos} (hp : pr = true → t.tupB = true) (ho : PassesOwn (model X.prog X.w) X.A X.env X.xe) (hc : X.calm = true) (hi : PI X tx ix (rI w it pr)) (hg : PG X tx (rG w t)) (hb : PSs X xb (rSs w body)) (hn : notSet ix = true) :
    PS X (.For tx ix xb [] pos) (rS w (.for_ t it body fg)) := PS.imp (ps_for ho hc hi hg hb (set_no hn)) fun D σ H h => rd_for hp h
end
end Py
end

section
set_option maxRecDepth 100000
set_option maxHeartbeats 1000000
/-! Targets, stores side by side. -/
namespace Py
open PySem PySem.Spec PyProof.Rows L2
section
variable {w : Wd} {X : Cx} {σ : L2.St} {H : Hp}
theorem pg_nmE {i : Nat} {x : Str} {pos : Pos} (hN : X.N.Nodup) (hi : X.N[i]? = some x) (hx : Loc X.env.scope x) (hf : X.fn x = true ∨ X.env.scope.names.lookup x = some .local) : PG X (.Name x pos) (rG w (.nm i)) :=
  PG.imp (pg_name hN hi hx hf) fun _ _ _ _ h => rG_nm h
/-- a row of names, in the text -/
def NamesAt (X : Cx) : List Expr → List Nat → Prop
  | [], [] => True
  | .Name x _ :: es, i :: is => (X.N[i]? = some x ∧ Loc X.env.scope x ∧ (X.fn x = true ∨ X.env.scope.names.lookup x = some .local)) ∧ NamesAt X es is
  | _, _ => False
theorem pgs_names (hN : X.N.Nodup) : ∀ {es : List Expr} {is : List Nat}, NamesAt X es is → PGs X es (gNames is) ∧ (assignEach es X.env).length = is.length ∧ (assignEach es X.env).findIdx? (·.1) = none
  | [], [], _ => ⟨pgs_nil, rfl, rfl⟩
  | .Name x p :: es, i :: is, ⟨⟨h1, h2, h3⟩, r⟩ => by
    obtain ⟨q1, q2, q3⟩ := pgs_names hN r
    refine ⟨pgs_cons (pg_name hN h1 h2 h3) q1 rfl, ?_, ?_⟩
    · show (assignEach es X.env).length + 1 = is.length + 1
      rw [q2]
    · show ((false, assign (.Name x p) X.env) :: assignEach es X.env).findIdx? (·.1) = none
      rw [List.findIdx?_cons]
      simp [q3]
  | [], _ :: _, h => h.elim
  | _ :: _, [], h => by
    rename_i e es
    cases e <;> exact h.elim
theorem pg_tupE {es : List Expr} {is : List Nat} {kk : Nat} {pos : Pos} (hK : w.I.K = X.K) (hc : X.calm = true) (hN : X.N.Nodup) (h : NamesAt X es is) : PG X (.Tuple es kk pos) (rG w (.tup is)) := by
  obtain ⟨q1, q2, q3⟩ := pgs_names hN h
  exact PG.imp (pg_tup (n := is.length) hc q1 q2 q3) fun _ _ _ _ h => by rw [← hK]; exact rG_tup h
theorem pg_subE {i : Nat} {k : E} {xo xi : Expr} {pos : Pos} (ho : PE X xo (tVar i)) (hi : PE X xi (rV w k)) (hs : notSlice xi = true) : PG X (.Subscript xo xi pos) (rG w (.sub i k)) :=
  PG.imp (pg_sub ho hi set_ok (by intro v; cases xi <;> first | rfl | (simp [notSlice] at hs))) fun _ _ _ _ h => rG_sub h
/-- targets of several kinds -/
def gTs (w : Wd) : Tgs → TGs
  | .nil => gNil
  | .cons t r => gCons (rG w t) (gTs w r)
theorem Only.trans {is js : List Nat} {σ σ1 σ2 : L2.St} (a : Only is σ σ1) (b : Only js σ1 σ2) : Only (is ++ js) σ σ2 := ⟨b.1.trans a.1, fun j hj => (b.2 j fun z => hj (List.mem_append_right _ z)).trans (a.2 j fun z => hj (List.mem_append_left _ z))⟩
theorem gTs_rd {G0 H0 : Hp} {fp0 : Nat → Addr → Prop} : ∀ {ts : Tgs} {us : List T} {xs : List V} {G : Hp} {τ : S} {fp : Nat → Addr → Prop} {σ : L2.St} {H : Hp} {Q : L2.St → Hp → Prop}, w.SR G τ fp σ H → Stage fp0 G0 H0 fp G H → (∀ b, H0 b = none → w.Z b = none) → Reps w.I G xs us →
    okX (asgs w.Γ ts (us.map .sh) τ) (fun _ τ' => ∀ σ' G' H' fp', w.SR G' τ' fp' σ' H' → Stage fp0 G0 H0 fp' G' H' → Only ts.slots σ σ' → Q σ' H') → gTs w ts xs σ H Q
  | .nil, us, xs, G, τ, fp, σ, H, Q, s, st, hz, r, h => by
    cases r with
    | nil =>
      rw [List.map_nil, asgs] at h
      exact ⟨rfl, h σ G H fp s st ⟨rfl, fun _ _ => rfl⟩⟩
    | cons h1 r =>
      rw [List.map_cons, asgs] at h
      · exact h.elim
      all_goals (intros; simp_all)
  | .cons t ts, us, xs, G, τ, fp, σ, H, Q, s, st, hz, r, h => by
    cases r with
    | nil =>
      rw [List.map_nil, asgs] at h
      · exact h.elim
      all_goals (intros; simp_all)
    | cons h1 r =>
      rename_i v vs u us
      rw [List.map_cons, asgs, okX_bind] at h
      refine ⟨v, vs, rfl, G, H, fp, G, τ, fp, .sh u, .refl, s, fun b z => s.zero z, .inl (.sh h1), okX_mono h fun _ τ1 h σ1 G1 H1 fp1 s1 st1 o1 => ?_⟩
      exact gTs_rd s1 (st.trans st1) hz (r.mono st1.g) (okX_mono h fun _ τ2 h σ2 G2 H2 fp2 s2 st2 o2 => h σ2 G2 H2 fp2 s2 st2 (o1.trans o2))
theorem rG_mix {ts : Tgs} {v : V} {Q : L2.St → Hp → Prop} (h : rG w (.mix ts) v σ H Q) : gTup w.I.K ts.len (gTs w ts) v σ H Q := by
  obtain ⟨G0, H0, fp0, G, τ, fp, r, st, s, hz, tv, h⟩ := h
  rcases tv with q | ⟨z, _⟩
  · unfold asg at h
    cases q with
    | sh hr =>
      rename_i t
      cases t <;> first | exact h.elim | skip
      cases hr with
      | tup hs hr =>
        simp only [Sl.val] at h
        split at h
        · rename_i hl
          exact ⟨_, _, rfl, (sqU_mono s.sub hs).t, by rw [hr.length]; exact hl, gTs_rd s st hz hr h⟩
        · exact h.elim
    | ow hr hF =>
      cases hr
      exact h.elim
  · cases z
theorem pg_mixE {ts : Tgs} {es : List Expr} {kk : Nat} {pos : Pos} (hK : w.I.K = X.K) (hc : X.calm = true) (h : PGs X es (gTs w ts)) (hn : (assignEach es X.env).length = ts.len) (hst : (assignEach es X.env).findIdx? (·.1) = none) : PG X (.Tuple es kk pos) (rG w (.mix ts)) :=
  PG.imp (pg_tup hc h hn hst) fun _ _ _ _ h => by rw [← hK]; exact rG_mix h
end
/-! values side by side -/
theorem own_stay {I : KI} {G H G' H' : Hp} {fp fp' : Nat → Addr → Prop} {v : V} {t : T} {F : Addr → Prop} (hr : Own I G H v t F) (hF : ∀ b, F b → G b = none ∧ ∀ i, ¬ fp i b) (st : Stage fp G H fp' G' H') : Own I G' H' v t F ∧ ∀ b, F b → H b ≠ none ∧ G' b = none ∧ ∀ i, ¬ fp' i b := by
  have kp : ∀ b, F b → H' b = H b ∧ H b ≠ none := fun b hb => by
    obtain ⟨o, e1, e2⟩ := hr.there b hb
    refine ⟨?_, by rw [e1]; simp⟩
    rw [e1]
    exact st.h b o e1 e2 (hF b hb).2
  refine ⟨hr.mono st.g fun b hb => (kp b hb).1, fun b hb => ⟨(kp b hb).2, ?_, fun i hi => ?_⟩⟩
  · cases z : G' b with
    | none => rfl
    | some o =>
      rcases st.n b (by rw [z]; simp) with q | q | ⟨j, q⟩
      · exact absurd (hF b hb).1 q
      · exact absurd q (kp b hb).2
      · exact absurd q ((hF b hb).2 j)
  · rcases st.o i b hi with q | q
    · exact (hF b hb).2 i q
    · exact absurd q (kp b hb).2
/-- values, what they are made of apart from one another -/
def RVs (I : KI) (H0 : Hp) (fp : Nat → Addr → Prop) (G H : Hp) : (Addr → Prop) → List V → List Sl → Prop
  | _, [], [] => True
  | Tk, v :: vs, .sh t :: rs => Rep I G v t ∧ RVs I H0 fp G H Tk vs rs
  | Tk, v :: vs, .ow t :: rs => ∃ F, Own I G H v t F ∧ (∀ b, F b → H0 b = none ∧ G b = none ∧ (∀ i, ¬ fp i b) ∧ ¬ Tk b) ∧ RVs I H0 fp G H (fun b => Tk b ∨ F b) vs rs
  | _, _, _ => False
section
variable {w : Wd} {X : Cx} {σ : L2.St} {H : Hp}
def rP (w : Wd) (es : Es) : TA := fun σ H Q => ∃ G τ fp, w.SR G τ fp σ H ∧ okX (evP w.Γ es τ) fun rs τ' => ∀ vs G' H' fp', w.SR G' τ' fp' σ H' → Stage fp G H fp' G' H' → RVs w.I H fp' G' H' (fun _ => False) vs rs → Q vs H'
theorem RVs.more {I : KI} {H0 H1 G H : Hp} {fp fp' : Nat → Addr → Prop} : ∀ {vs : List V} {rs : List Sl} {Tk Tk0 : Addr → Prop}, RVs I H1 fp G H Tk0 vs rs → (∀ b, Tk b → Tk0 b ∨ H1 b ≠ none) → (∀ b, H1 b = none → H0 b = none) → (∀ i b, fp' i b → fp i b ∨ Tk0 b) → RVs I H0 fp' G H Tk vs rs
  | [], [], _, _, _, _, _, _ => trivial
  | v :: vs, .sh t :: rs, Tk, Tk0, ⟨h1, h2⟩, k1, k2, k3 => ⟨h1, h2.more k1 k2 k3⟩
  | v :: vs, .ow t :: rs, Tk, Tk0, ⟨F, h1, h2, h3⟩, k1, k2, k3 => by
    refine ⟨F, h1, fun b hb => ?_, h3.more (fun b hb => ?_) k2 fun i b hi => ?_⟩
    · obtain ⟨a1, a2, a3, a4⟩ := h2 b hb
      refine ⟨k2 b a1, a2, fun i hi => ?_, fun hT => ?_⟩
      · rcases k3 i b hi with z | z
        · exact a3 i z
        · exact a4 z
      · rcases k1 b hT with z | z
        · exact a4 z
        · exact z a1
    · rcases hb with z | z
      · exact (k1 b z).imp .inl id
      · exact .inl (.inr z)
    · exact (k3 i b hi).imp id .inl
  | [], _ :: _, _, _, h, _, _, _ => by cases h
  | _ :: _, [], _, _, h, _, _, _ => by cases h
  | _ :: _, .no :: _, _, _, h, _, _, _ => by cases h
  | _ :: _, .bo _ :: _, _, _, h, _, _, _ => by cases h
def tP (w : Wd) : Es → TA
  | .nil => tNil
  | .cons e r => tCons (rE w e) (tP w r)
  | .star _ _ => fun _ _ _ => False
theorem rP_args : ∀ {es : Es} {H : Hp} {Q : List V → Hp → Prop}, rP w es σ H Q → tP w es σ H Q
  | .nil, H, Q, h => by
    obtain ⟨G, τ, fp, s, h⟩ := h
    rw [evP] at h
    exact h [] G H fp s .refl trivial
  | .star _ _, H, Q, h => by
    obtain ⟨G, τ, fp, s, h⟩ := h
    rw [evP] at h
    exact h.elim
  | .cons e r, H, Q, h => by
    obtain ⟨G, τ, fp, s, h⟩ := h
    rw [evP, okX_bind] at h
    refine ⟨G, τ, fp, s, okX_mono h fun x τ1 h v G1 H1 fp1 s1 st1 q1 => ?_⟩
    rw [okX_bind] at h
    refine rP_args ⟨G1, τ1, fp1, s1, okX_mono h fun rs τ2 h vs G2 H2 fp2 s2 st2 q2 => h _ G2 H2 fp2 s2 (st1.trans st2) ?_⟩
    have back : ∀ b, H1 b = none → H b = none := fun b => st1.back
    cases q1 with
    | sh hr => exact ⟨hr.mono st2.g, q2.more (fun b z => z.elim) back fun i b z => .inl z⟩
    | ow hr hF =>
      obtain ⟨c1, c2⟩ := own_stay hr (fun b hb => (hF b hb).2) st2
      refine ⟨_, c1, fun b hb => ⟨(hF b hb).1, (c2 b hb).2.1, (c2 b hb).2.2, id⟩, q2.more (fun b hb => ?_) back fun i b z => .inl z⟩
      rcases hb with z | z
      · exact z.elim
      · exact .inr (c2 b z).1
/-- names stored one by one -/
def setsO (σ : L2.St) : List Nat → List V → L2.St
  | i :: is, v :: vs => setsO (σ.set i (some v)) is vs
  | _, _ => σ
def nms : List Nat → Tgs
  | [] => .nil
  | i :: is => .cons (.nm i) (nms is)
open Classical in
theorem nms_rd {G H H0 : Hp} {P : S → Prop} : ∀ {is : List Nat} {vs : List V} {rs : List Sl} {τ : S} {fp : Nat → Addr → Prop} {σ : L2.St} {Tk : Addr → Prop}, w.SR G τ fp σ H → RVs w.I H0 fp G H Tk vs rs → (∀ b, H0 b = none → w.Z b = none) → okX (asgs w.Γ (nms is) rs τ) (fun _ τ' => P τ') →
    ∃ τ' fp', P τ' ∧ w.SR G τ' fp' (setsO σ is vs) H ∧ (∀ j b, fp' j b → fp j b ∨ H0 b = none) ∧ vs.length = is.length := by
  intro is
  induction is with
  | nil =>
    intro vs rs τ fp σ Tk s q hz h
    cases rs with
    | nil =>
      rw [nms, asgs] at h
      cases vs with
      | nil => exact ⟨τ, fp, h, s, fun j b z => .inl z, rfl⟩
      | cons _ _ => cases q
    | cons _ _ =>
      rw [nms] at h
      simp only [asgs] at h
      exact h.elim
  | cons i is ih =>
    intro vs rs τ fp σ Tk s q hz h
    cases rs with
    | nil =>
      rw [nms] at h
      simp only [asgs] at h
      exact h.elim
    | cons r rs =>
      rw [nms, asgs, okX_bind] at h
      unfold asg at h
      rw [okX_bind, okX_lift] at h
      obtain ⟨τ1, e1, h⟩ := h
      obtain ⟨rfl, hi, nb⟩ := setAt_some e1
      rw [okX_ok] at h
      cases vs with
      | nil => cases r <;> cases q
      | cons v vs =>
        cases r with
        | no => cases q
        | bo _ => cases q
        | sh t =>
          obtain ⟨h1, h2⟩ := q
          obtain ⟨fp1, s1, hf⟩ := s.put (H0 := fun _ => some (.own 0)) (.sh h1) (fun b z => by cases z) nb hi
          have hf' : ∀ j b, fp1 j b → fp j b := fun j b z => (hf j b z).elim id fun z => by cases z
          obtain ⟨τ', fp', a1, a2, a3, a4⟩ := ih s1 (h2.more (fun b z => .inl z) (fun b z => z) fun i b z => .inl (hf' i b z)) hz h
          exact ⟨τ', fp', a1, a2, fun j b z => (a3 j b z).imp (hf' j b) id, by simp [a4]⟩
        | ow t =>
          obtain ⟨F, h1, h2, h3⟩ := q
          obtain ⟨fp1, s1, hf⟩ := s.put (H0 := fun b => if F b then none else some (.own 0)) (.ow h1 fun b hb => ⟨if_pos hb, (h2 b hb).2.1, (h2 b hb).2.2.1⟩) (fun b z => by
            by_cases hb : F b
            · exact hz b (h2 b hb).1
            · rw [if_neg hb] at z; cases z) nb hi
          have hf' : ∀ j b, fp1 j b → fp j b ∨ F b := fun j b z => (hf j b z).imp id fun z => by
            by_cases hb : F b
            · exact hb
            · rw [if_neg hb] at z; cases z
          obtain ⟨τ', fp', a1, a2, a3, a4⟩ := ih s1 (h3.more (fun b z => .inl z) (fun b z => z) fun i b z => (hf' i b z).imp id .inr) hz h
          exact ⟨τ', fp', a1, a2, fun j b z => (a3 j b z).elim (fun z => (hf' j b z).imp id fun z => (h2 b z).1) .inr, by simp [a4]⟩
end
end Py
end

section
set_option maxRecDepth 100000
set_option maxHeartbeats 1000000
/-! a, b = x, y; a, b, c = x, y, z. -/
namespace Py
open PySem PySem.Spec PyProof.Rows L2
section
variable {w : Wd} {X : Cx} {σ : L2.St} {H : Hp} {D : Ends}
theorem rd_par {is : List Nat} {es : Es} (h : rS w (.par (nms is) es) D σ H) : tP w es σ H fun vs H1 => vs.length = is.length ∧ D.nx (setsO σ is vs) H1 := by
  obtain ⟨G, τ, fp, s, h⟩ := h
  rw [exS, okR_toR] at h
  refine rP_args ⟨G, τ, fp, s, okX_mono h fun rs τ1 h vs G1 H1 fp1 s1 st1 q => ?_⟩
  rw [okR_toR] at h
  obtain ⟨τ2, fp2, h1, s2, h2, h3⟩ := nms_rd s1 q (fun b => s.zero) h
  exact ⟨h3, h1 _ G1 H1 fp2 s2 (st1.less h2)⟩
theorem tP.mono : ∀ {es : Es} {σ : L2.St} {H : Hp} {Q Q' : List V → Hp → Prop}, rP w es σ H Q → (∀ vs H, Q vs H → Q' vs H) → rP w es σ H Q' := fun {es σ H Q Q'} h m => by
  obtain ⟨G, τ, fp, s, h⟩ := h
  exact ⟨G, τ, fp, s, okX_mono h fun rs τ' h vs G' H' fp' s' st q => m _ _ (h vs G' H' fp' s' st q)⟩
def LocAt (X : Cx) (x : Str) (i : Nat) : Prop := X.N[i]? = some x ∧ X.env.scope.names.lookup x = some .local
theorem ps_par2E {i j : Nat} {x y : Str} {es : Es} {a b : Expr} {px py pt pos : Pos} {kt k2 pt2} (hc : X.calm = true) (hN : X.N.Nodup) (hi : LocAt X x i) (hj : LocAt X y j) (hij : i ≠ j) (ha : PA X [a, b] (tP w es))
    (hw : swappedStores [.Tuple [.Name x px, .Name y py] kt pt] (.Tuple [a, b] k2 pt2) X.env = pure (some [x, y])) : PS X (.Assign [.Tuple [.Name x px, .Name y py] kt pt] (.Tuple [a, b] k2 pt2) pos) (rS w (.par (nms [i, j]) es)) :=
  PS.imp (ps_par hc hN hi.1 hj.1 hij hi.2 hj.2 ha hw) fun D σ H h => by
    obtain ⟨G, τ, fp, s, h⟩ := h
    rw [exS, okR_toR] at h
    refine rP_args ⟨G, τ, fp, s, okX_mono h fun rs τ1 h vs G1 H1 fp1 s1 st1 q => ?_⟩
    rw [okR_toR] at h
    obtain ⟨τ2, fp2, h1, s2, h2, h3⟩ := nms_rd s1 q (fun b => s.zero) h
    rcases vs with _ | ⟨v, _ | ⟨v2, _ | ⟨v3, r⟩⟩⟩
    · cases h3
    · cases h3
    · exact ⟨v, v2, rfl, h1 _ G1 H1 fp2 s2 (st1.less h2)⟩
    · simp at h3
def tPar3 (i j k : Nat) (ta : TA) : TS := fun D σ H => ta σ H fun vs H1 => ∃ v u t, vs = [v, u, t] ∧ D.nx (((σ.set i (some v)).set j (some u)).set k (some t)) H1
theorem ps_par3 {i j k : Nat} {x y z : Str} {a b c : Expr} {ta : TA} {px py pz pt pos : Pos} {kt k2 pt2} (hc : X.calm = true) (hN : X.N.Nodup) (hi : LocAt X x i) (hj : LocAt X y j) (hk : LocAt X z k) (hij : i ≠ j) (hik : i ≠ k) (hjk : j ≠ k) (ha : PA X [a, b, c] ta)
    (hw : swappedStores [.Tuple [.Name x px, .Name y py, .Name z pz] kt pt] (.Tuple [a, b, c] k2 pt2) X.env = pure (some [x, y, z])) : PS X (.Assign [.Tuple [.Name x px, .Name y py, .Name z pz] kt pt] (.Tuple [a, b, c] k2 pt2) pos) (tPar3 i j k ta) := by
  refine ⟨fun pins s σ H D J h => ?_⟩
  rw [exec_Assign_arm]
  refine wpAny_bind (wpAny_standAt ?_)
  rw [swaps_sole (e := .Tuple [a, b, c] k2 pt2) rfl]
  refine wpAny_bind (wpAny_pure ?_)
  rw [if_neg Bool.false_ne_true]
  refine wpAny_bind (Tuple_ (thn (ha.run _ pins s σ H _ J h) fun us s1 ⟨vs, H1, J1, r1, v, u, t, e1, q1⟩ => ?_))
  subst e1
  obtain ⟨u1, u2, u3, rfl, rv, ru, rt⟩ : ∃ u1 u2 u3, us = [u1, u2, u3] ∧ RelV v u1 ∧ RelV u u2 ∧ RelV t u3 := by
    rcases r1 with _ | ⟨p1, _ | ⟨p2, _ | ⟨p3, r1⟩⟩⟩
    cases r1
    exact ⟨_, _, _, rfl, p1, p2, p3⟩
  refine wpAny_newObj_type ?_ (by show 3 ≤ sizeLine; decide)
  have J2 : Inv X pins σ H1 { s1 with heap := s1.heap.push { cls := .type "tuple", data := .seq [u1, u2, u3].toArray } } := J1.kept (t' := s1.toks) fun b o e => Heap.get?_push_of_some _ e
  rw [hw]
  refine wpAny_bind (wpAny_pure ?_)
  show wpAny (model X.prog X.w) X.A (do rule "assign.swapped-stores"; let items ← unpackItems (.ref s1.heap.objs.size) 3 none; assignInOrder [fun v => bindName X.env z v, fun v => bindName X.env y v, fun v => bindName X.env x v] items.reverse; pure Flow.next) _ _ _
  refine wpAny_bind (wpAny_rule (wpAny_bind (unpackItems_tuple (items := #[u1, u2, u3]) (J.ok.hd hc) (IsTup.new s1.heap _) fun h' hx' => ?_)))
  have J3 := J2.kept (h' := h') (t' := s1.toks) fun b o e => hx' b o (Nat.ne_of_lt (Heap.lt_size e)) e
  show wpAny _ _ (assignInOrder [fun v => bindName X.env z v, fun v => bindName X.env y v, fun v => bindName X.env x v] [u3, u2, u1] >>= fun _ => pure Flow.next) _ _ _
  refine wpAny_bind (assignInOrder_cons (wpAny_bindName (store_ok J3 hN hk.1 (.inl hk.2) rt (fun s2 J4 => ?_) (.inr hk.2))))
  refine assignInOrder_cons (wpAny_bindName (store_ok J4 hN hj.1 (.inl hj.2) ru (fun s3 J5 => ?_) (.inr hj.2)))
  refine assignInOrder_cons (wpAny_bindName (store_ok J5 hN hi.1 (.inl hi.2) rv (fun s4 J6 => assignInOrder_nil (wpAny_pure ?_)) (.inr hi.2)))
  rw [List.set_comm _ _ (Ne.symm hij), List.set_comm _ _ (Ne.symm hik), List.set_comm _ _ (Ne.symm hjk)] at J6
  exact ⟨_, H1, J6, q1⟩
theorem ps_par3E {i j k : Nat} {x y z : Str} {es : Es} {a b c : Expr} {px py pz pt pos : Pos} {kt k2 pt2} (hc : X.calm = true) (hN : X.N.Nodup) (hi : LocAt X x i) (hj : LocAt X y j) (hk : LocAt X z k) (hij : i ≠ j) (hik : i ≠ k) (hjk : j ≠ k) (ha : PA X [a, b, c] (tP w es))
    (hw : swappedStores [.Tuple [.Name x px, .Name y py, .Name z pz] kt pt] (.Tuple [a, b, c] k2 pt2) X.env = pure (some [x, y, z])) : PS X (.Assign [.Tuple [.Name x px, .Name y py, .Name z pz] kt pt] (.Tuple [a, b, c] k2 pt2) pos) (rS w (.par (nms [i, j, k]) es)) :=
  PS.imp (ps_par3 hc hN hi hj hk hij hik hjk ha hw) fun D σ H h => by
    obtain ⟨G, τ, fp, s, h⟩ := h
    rw [exS, okR_toR] at h
    refine rP_args ⟨G, τ, fp, s, okX_mono h fun rs τ1 h vs G1 H1 fp1 s1 st1 q => ?_⟩
    rw [okR_toR] at h
    obtain ⟨τ2, fp2, h1, s2, h2, h3⟩ := nms_rd s1 q (fun b => s.zero) h
    rcases vs with _ | ⟨v, _ | ⟨v2, _ | ⟨v3, _ | ⟨v4, r⟩⟩⟩⟩
    · cases h3
    · cases h3
    · cases h3
    · exact ⟨v, v2, v3, rfl, h1 _ G1 H1 fp2 s2 (st1.less h2)⟩
    · simp at h3
end
end Py
end

section
set_option maxRecDepth 100000
set_option maxHeartbeats 1000000
/-! A def keeps its promise. -/
namespace Py
open PySem PySem.Spec PyProof.Rows L2
section
variable {I : KI} {TT : Tabs} {B : Nat → Option V} {Z G H : Hp} {fp : Nat → Addr → Prop}
theorem app_get {α : Type} {l : List α} {m : Nat} {x y : α} {i : Nat} (h : (l ++ List.replicate m x)[i]? = some y) (hy : y ≠ x) : l[i]? = some y := by
  by_cases hi : i < l.length
  · rw [List.getElem?_append_left hi] at h
    exact h
  · rw [List.getElem?_append_right (by omega), List.getElem?_replicate] at h
    split at h
    · exact absurd (Option.some.inj h).symm hy
    · cases h
theorem app_in {α : Type} {l : List α} {m : Nat} {x y : α} {i : Nat} (h : l[i]? = some y) : (l ++ List.replicate m x)[i]? = some y := by
  rw [List.getElem?_append_left (List.getElem?_eq_some_iff.mp h).1]
  exact h
theorem SR.ext {as : S} {σ : L2.St} (s : SR I TT B Z G as fp σ H) (m : Nat) : SR I TT B Z G (as ++ List.replicate m .no) fp (σ ++ List.replicate m none) H where
  sub := s.sub
  ntb := s.ntb
  sh := fun i t e => let ⟨v, h1, h2⟩ := s.sh i t (app_get e (by simp)); ⟨v, app_in h1, h2⟩
  ow := fun i t e => let ⟨v, h1, h2⟩ := s.ow i t (app_get e (by simp)); ⟨v, app_in h1, h2⟩
  bo := fun i t e => let ⟨v, h0, h1, h2⟩ := s.bo i t (app_get e (by simp)); ⟨v, h0, app_in h1, h2⟩
  dis := s.dis
  out := s.out
  emp := fun i hi => s.emp i fun t => ⟨fun z => (hi t).1 (app_in z), fun z => (hi t).2 (app_in z)⟩
  len := by rw [List.length_append, List.length_append, s.len, List.length_replicate, List.length_replicate]
  tabs := s.tabs
  up := s.up
  fr := fun i t b e => s.fr i t b (app_get e (by simp))
theorem outs_at : ∀ {as : S} {τ : S} {o : List T}, outsOf as τ = some o → ∀ (i : Nat) (x : Sl), (reBo as o)[i]? = some x → (∃ t, x = .sh t ∧ as[i]? = some (.sh t)) ∨ ∃ t u, x = .bo t ∧ as[i]? = some (.bo u) ∧ τ[i]? = some (.bo t)
  | [], τ, o, h, i, x, e => by
    cases o <;> simp [reBo] at e
  | .bo u :: as, τ, o, h, i, x, e => by
    cases τ with
    | nil => simp [outsOf] at h
    | cons y τ =>
      cases y <;> simp only [outsOf, reduceCtorEq, Option.map_eq_some_iff] at h
      obtain ⟨o', h1, rfl⟩ := h
      cases i with
      | zero =>
        simp [reBo] at e
        exact .inr ⟨_, _, e.symm, rfl, rfl⟩
      | succ i => exact outs_at h1 i x (by simpa [reBo] using e)
  | .sh u :: as, τ, o, h, i, x, e => by
    cases τ with
    | nil => simp [outsOf] at h
    | cons y τ =>
      simp only [outsOf] at h
      cases i with
      | zero =>
        have e : some (Sl.sh u) = some x := by
          cases o <;> exact e
        exact .inl ⟨u, (Option.some.inj e).symm, rfl⟩
      | succ i => exact outs_at h i x (by cases o <;> exact e)
  | .no :: as, τ, o, h, i, x, e => by simp [outsOf] at h
  | .ow _ :: as, τ, o, h, i, x, e => by simp [outsOf] at h
theorem reBo_len : ∀ (as : S) (o : List T), (reBo as o).length = as.length
  | [], o => by cases o <;> rfl
  | .bo _ :: as, t :: o => congrArg (· + 1) (reBo_len as o)
  | .bo _ :: as, [] => congrArg (· + 1) (reBo_len as [])
  | .sh _ :: as, [] => congrArg (· + 1) (reBo_len as [])
  | .sh _ :: as, t :: o => congrArg (· + 1) (reBo_len as (t :: o))
  | .no :: as, [] => congrArg (· + 1) (reBo_len as [])
  | .no :: as, t :: o => congrArg (· + 1) (reBo_len as (t :: o))
  | .ow _ :: as, [] => congrArg (· + 1) (reBo_len as [])
  | .ow _ :: as, t :: o => congrArg (· + 1) (reBo_len as (t :: o))
theorem outs_bo : ∀ {as : S} {τ : S} {o : List T}, outsOf as τ = some o → ∀ (i : Nat) (u : T), as[i]? = some (.bo u) → ∃ t, (reBo as o)[i]? = some (.bo t)
  | [], τ, o, h, i, u, e => by simp at e
  | .bo u' :: as, τ, o, h, i, u, e => by
    cases τ with
    | nil => simp [outsOf] at h
    | cons y τ =>
      cases y <;> simp only [outsOf, reduceCtorEq, Option.map_eq_some_iff] at h
      obtain ⟨o', h1, rfl⟩ := h
      cases i with
      | zero => exact ⟨_, rfl⟩
      | succ i =>
        obtain ⟨t, q⟩ := outs_bo h1 i u (by simpa using e)
        exact ⟨t, by simpa [reBo] using q⟩
  | .sh u' :: as, τ, o, h, i, u, e => by
    cases τ with
    | nil => simp [outsOf] at h
    | cons y τ =>
      simp only [outsOf] at h
      cases i with
      | zero => simp at e
      | succ i =>
        obtain ⟨t, q⟩ := outs_bo h i u (by simpa using e)
        exact ⟨t, by cases o <;> exact q⟩
  | .no :: as, τ, o, h, i, u, e => by simp [outsOf] at h
  | .ow _ :: as, τ, o, h, i, u, e => by simp [outsOf] at h
/-- behind the body: what the caller sees -/
theorem SR.leave {vs : List V} {as τ : S} {o : List T} {G' H' : Hp} {fp' : Nat → Addr → Prop} {σ' : L2.St} (s0 : SR I TT (fun i => vs[i]?) H G as fp (vs.map some) H) (s : SR I TT (fun i => vs[i]?) H G' τ fp' σ' H') (ho : outsOf as τ = some o) (st : Stage fp G H fp' G' H') :
    ∃ fp2, SR I TT (fun i => vs[i]?) H G' (reBo as o) fp2 (vs.map some) H' ∧ Stage fp G H fp2 G' H' ∧ ∀ i b, fp2 i b → fp' i b := by
  refine ⟨fun i b => (∃ u, as[i]? = some (Sl.bo u)) ∧ fp' i b, ⟨s.sub, s.ntb, fun i t e => ?_, fun i t e => ?_, fun i t e => ?_, fun i j b h1 h2 => s.dis i j b h1.2 h2.2, fun i b h => s.out i b h.2, fun i hi b h => ?_, ?_, s.tabs, s.up, fun i t b e => ?_⟩, st.less fun i b h => .inl h.2, fun i b h => h.2⟩
  · rcases outs_at ho i _ e with ⟨t', h1, h2⟩ | ⟨t', u, h1, _⟩
    · cases h1
      obtain ⟨v, e1, e2⟩ := s0.sh i t h2
      exact ⟨v, e1, e2.mono st.g⟩
    · cases h1
  · rcases outs_at ho i _ e with ⟨t', h1, h2⟩ | ⟨t', u, h1, _⟩ <;> cases h1
  · rcases outs_at ho i _ e with ⟨t', h1, h2⟩ | ⟨t', u, h1, h2, h3⟩
    · cases h1
    · cases h1
      obtain ⟨v, e0, e1, e2⟩ := s.bo i t h3
      have hf : (fun b => (∃ u, as[i]? = some (Sl.bo u)) ∧ fp' i b) = fp' i := by
        funext b
        exact propext ⟨fun z => z.2, fun z => ⟨⟨u, h2⟩, z⟩⟩
      exact ⟨v, e0, map_some.mpr e0, by rw [hf]; exact e2⟩
  · obtain ⟨⟨u, hu⟩, _⟩ := h
    obtain ⟨t, ht⟩ := outs_bo ho i u hu
    exact (hi t).2 ht
  · rw [reBo_len]; exact s0.len
  · rcases outs_at ho i _ e with ⟨t', h1, h2⟩ | ⟨t', u, h1, _⟩ <;> cases h1
end
/-- what the evaluator says of a call -/
def wdOf (I : KI) (TT : Tabs) (vs : List V) (H : Hp) (p : Prog) (n : Nat) : Wd := ⟨I, TT, fun i => vs[i]?, H, ⟨p.fn, p.sub, run p n, p.most, p.glo⟩⟩
theorem fn_keeps {I : KI} {TT : Tabs} {p : Prog} {n : Nat} {f : Nat} {d : Fn} {P : Program} {w : World} {K : PySem.W.Frag} {mg : Str → Option Value} {base : Heap} {a : Addr} {name qual : Str} {params : Arguments} {body : List Stmt} {scope : Scope} {dV kV doc pm cdv ct oc : Value} {an od : Option Addr}
    {osl : Array (Option Value)} {N ps : List Str} (hd : p.fn f = some d) (lk : K.lookup a = some ⟨oc, od, .func (PySem.W.fnOf name qual params body scope dV kV doc pm an cdv ct), osl⟩) (hcd : PySem.W.codeIn K cdv qual = true) (sc : FnScope N ps scope)
    (hN : N.length = d.ns) (hP : ps.length = d.np)
    (hb : ∀ (A : Around) (outer : List PySem.Env) (s : Shared) (H : Hp) (vs : List V) (E : XK), Room n (A.deeper (envOfC qual scope s.heap.objs.size a cdv)) → PSs (cxOf CX0 P w K mg base N qual scope a cdv A outer s H E) body (rSs (wdOf I TT vs H p n) d.body)) :
    FnOk P w K mg base CX0 (n + 1) a (PySem.W.fnOf name qual params body scope dV kV doc pm an cdv ct) ps (fun vs H Q _ => spC (wdOf I TT [] H p (n + 1)) f vs H Q) := by
  have open_ : ∀ {vs : List V} {H : Hp} {Q : VK}, spC (wdOf I TT [] H p (n + 1)) f vs H Q → ∃ G as fp, Py.SR I TT (fun i => vs[i]?) H G as fp (vs.map some) H ∧ as.length = d.np ∧ ∃ r outs, (exSs (wdOf I TT vs H p n).Γ d.body (as ++ List.replicate (d.ns - d.np) .no)).toFR as = .ok r outs ∧
      ∀ v G' H' fp', Py.SR I TT (fun i => vs[i]?) H G' (reBo as outs) fp' (vs.map some) H' → Stage fp G H fp' G' H' → RV I H fp' G' H' v r → Q v H' := by
    intro vs H Q h
    obtain ⟨G, as, fp, s, r, outs, hr, k⟩ := h
    have hr : run p (n + 1) f as = .ok r outs := hr
    rw [run, hd] at hr
    simp only [runFn] at hr
    split at hr
    · rename_i hl
      exact ⟨G, as, fp, s, hl, r, outs, hr, k⟩
    · cases hr
  refine fn_of lk hcd sc (fun vs H Q E h => ?_) fun A outer s H vs Q E hr h => ?_
  · obtain ⟨G, as, fp, s, hl, _⟩ := open_ h
    rw [hP, ← hl, s.len, List.length_map]
  · obtain ⟨G, as, fp, s0, hl, r, outs, e, k⟩ := open_ h
    refine ⟨_, hb A outer s H vs E hr, ?_⟩
    have hvs : vs.length = d.np := by rw [← hl, s0.len, List.length_map]
    have hst : L2.start N vs = vs.map some ++ List.replicate (d.ns - d.np) none := by
      unfold L2.start
      rw [hN, hvs]
    rw [hst]
    refine ⟨G, _, fp, s0.ext _, ?_⟩
    cases ex : exSs (wdOf I TT vs H p n).Γ d.body (as ++ List.replicate (d.ns - d.np) .no) with
    | nx τ =>
      rw [ex] at e
      simp only [R.toFR] at e
      split at e
      · rename_i o ho
        cases e
        intro σ' G' H' fp' s' st'
        obtain ⟨fp2, s2, st2, _⟩ := s0.leave s' ho st'
        exact k .non G' H' fp2 s2 st2 (.sh .non)
      · cases e
    | rt x τ =>
      rw [ex] at e
      simp only [R.toFR] at e
      split at e
      · rename_i o ho
        cases e
        intro v σ' G' H' fp' s' st' rv
        obtain ⟨fp2, s2, st2, hf⟩ := s0.leave s' ho st'
        refine k v G' H' fp2 s2 st2 ?_
        cases rv with
        | sh hr => exact .sh hr
        | ow hr hF => exact .ow hr fun b hb => ⟨(hF b hb).1, (hF b hb).2.1, fun i hi => (hF b hb).2.2 i (hf i b hi)⟩
      · cases e
    | br τ => rw [ex] at e; cases e
    | ct τ => rw [ex] at e; cases e
    | ex c fs τ =>
      rw [ex] at e
      simp only [R.toFR] at e
      split at e <;> cases e
    | bad => rw [ex] at e; cases e
def notNm : E → Bool
  | .nm _ => false
  | _ => true
/-- a lambda keeps its promise -/
theorem lam_keeps {I : KI} {TT : Tabs} {p : Prog} {n : Nat} {f : Nat} {d : Fn} {e : E} {P : Program} {w : World} {K : PySem.W.Frag} {mg : Str → Option Value} {base : Heap} {a : Addr} {L : LF} {N ps : List Str} (hd : p.fn f = some d) (hbd : d.body = .cons (.ret e) .nil) (he : notNm e = true) (sc : FnScope N ps L.scope)
    (hcl : L.cl = []) (hN : N.length = d.ns) (hP : ps.length = d.np) (hpar : plainPar L.params ps = true)
    (hb : ∀ (A : Around) (outer : List PySem.Env) (s : Shared) (H : Hp) (vs : List V) (E : XK), Room n (A.deeper (envOfC L.qual L.scope s.heap.objs.size a (.ref L.c))) → PE (cxOf CX0 P w K mg base N L.qual L.scope a (.ref L.c) A outer s H E) L.body (rE (wdOf I TT vs H p n) e)) :
    LOk P w K mg base CX0 (n + 1) a L ps (fun vs H Q _ => spC (wdOf I TT [] H p (n + 1)) f vs H Q) := by
  have open_ : ∀ {vs : List V} {H : Hp} {Q : VK}, spC (wdOf I TT [] H p (n + 1)) f vs H Q → ∃ G as fp, Py.SR I TT (fun i => vs[i]?) H G as fp (vs.map some) H ∧ as.length = d.np ∧ ∃ r outs, (exSs (wdOf I TT vs H p n).Γ d.body (as ++ List.replicate (d.ns - d.np) .no)).toFR as = .ok r outs ∧
      ∀ v G' H' fp', Py.SR I TT (fun i => vs[i]?) H G' (reBo as outs) fp' (vs.map some) H' → Stage fp G H fp' G' H' → RV I H fp' G' H' v r → Q v H' := by
    intro vs H Q h
    obtain ⟨G, as, fp, s, r, outs, hr, k⟩ := h
    have hr : run p (n + 1) f as = .ok r outs := hr
    rw [run, hd] at hr
    simp only [runFn] at hr
    split at hr
    · rename_i hl
      exact ⟨G, as, fp, s, hl, r, outs, hr, k⟩
    · cases hr
  refine lok_of sc hcl (fun pm ctv us hl => bind_pos hpar rfl hl) (fun vs H Q E h => ?_) fun A outer s H vs Q E hr h => ?_
  · obtain ⟨G, as, fp, s, hl, _⟩ := open_ h
    rw [hP, ← hl, s.len, List.length_map]
  · obtain ⟨G, as, fp, s0, hl, r, outs, e1, k⟩ := open_ h
    refine ⟨_, hb A outer s H vs E hr, ?_⟩
    have hvs : vs.length = d.np := by rw [← hl, s0.len, List.length_map]
    have hst : L2.start N vs = vs.map some ++ List.replicate (d.ns - d.np) none := by
      unfold L2.start
      rw [hN, hvs]
    rw [hst]
    refine ⟨G, _, fp, s0.ext _, ?_⟩
    rw [hbd, exSs, exS_ret (fun i z => by rw [z] at he; cases he)] at e1
    cases ex : ev (wdOf I TT vs H p n).Γ e (as ++ List.replicate (d.ns - d.np) .no) with
    | ok x τ =>
      rw [ex] at e1
      simp only [Rx.toR, R.toFR] at e1
      split at e1
      · rename_i o ho
        cases e1
        intro v G' H' fp' s' st' rv
        obtain ⟨fp2, s2, st2, hf⟩ := s0.leave s' ho st'
        refine k v G' H' fp2 s2 st2 ?_
        cases rv with
        | sh hr => exact .sh hr
        | ow hr hF => exact .ow hr fun b hb => ⟨(hF b hb).1, (hF b hb).2.1, fun i hi => (hF b hb).2.2 i (hf i b hi)⟩
      · cases e1
    | ex c fs τ =>
      rw [ex] at e1
      simp only [Rx.toR, R.toFR] at e1
      split at e1 <;> cases e1
    | bad => rw [ex] at e1; cases e1
end Py
end

section
set_option maxRecDepth 100000
set_option maxHeartbeats 1000000
/-! append, pop; tests of a comprehension; ranges; comprehensions. -/
namespace Py
open PySem PySem.Spec PyProof.Rows L2
section
variable {w : Wd} {S : Src} {k : Nat} {X : Cx} {σ : L2.St} {H : Hp}
theorem mutV_lst {m : Mut} (hm : m = .append ∨ m = .pop ∨ m = .popAt) : ∀ l ts r, mutV m (.lst l) ts = some r → ∃ l', r.2 = .lst l' := by
  intro l ts r h
  rcases hm with rfl | rfl | rfl
  · rcases ts with _ | ⟨t, _ | ⟨u, ts⟩⟩ <;> simp only [mutV, reduceCtorEq] at h
    split at h
    · cases h; exact ⟨_, rfl⟩
    · cases h
  · rcases ts with _ | ⟨t, ts⟩ <;> simp only [mutV, reduceCtorEq] at h
    split at h
    · cases h; exact ⟨_, rfl⟩
    · cases h
  · rcases ts with _ | ⟨t, _ | ⟨u, ts⟩⟩ <;> simp only [mutV, reduceCtorEq] at h
    · cases t <;> simp only [mutV, reduceCtorEq] at h
      simp only [Option.bind_eq_some_iff, Option.map_eq_some_iff] at h
      obtain ⟨j, _, x, _, rfl⟩ := h
      exact ⟨_, rfl⟩
theorem pe_appendE (c : Ctx w S k X) {i : Nat} {es : Es} {xo e : Expr} {as : List Expr} {apos cpos : Pos} (n : noPk es = true) (ho : PE X xo (tVar i)) (ha : PA X (e :: as) (tArgs w es)) (ns : (e :: as).all noStar = true) (hl : (e :: as).length < 30) (hsup : noSuper xo = true) (hline : (apos.endLine == cpos.line) = true) :
    PE X (.Call (.Attribute xo "append" apos) (e :: as) [] cpos) (rE w (.mut .append i es)) := by
  have ns' := ns
  rw [List.all_cons, Bool.and_eq_true] at ns'
  exact PE.imp (pe_bm PySem.F.plainAttrs_list PySem.F.slot_list_append PySem.F.type_list_append mut_append ho ha (attr_base hsup) (few (pos := cpos) ns hl) hline (starEach_cons ns'.1) (back_any ns'.2)) fun σ H Q h => by
    have h := rE_mut n (mutV_lst (.inl rfl)) h
    rw [c.hK] at h
    exact h
theorem pe_popAtE (c : Ctx w S k X) {i : Nat} {es : Es} {xo e : Expr} {as : List Expr} {apos cpos : Pos} (n : noPk es = true) (ho : PE X xo (tVar i)) (ha : PA X (e :: as) (tArgs w es)) (ns : (e :: as).all noStar = true) (hl : (e :: as).length < 30) (hsup : noSuper xo = true) (hline : (apos.endLine == cpos.line) = true) :
    PE X (.Call (.Attribute xo "pop" apos) (e :: as) [] cpos) (rE w (.mut .popAt i es)) := by
  have ns' := ns
  rw [List.all_cons, Bool.and_eq_true] at ns'
  exact PE.imp (pe_bm PySem.F.plainAttrs_list PySem.F.slot_list_pop PySem.F.type_list_pop mut_popAt ho ha (attr_base hsup) (few (pos := cpos) ns hl) hline (starEach_cons ns'.1) (back_any ns'.2)) fun σ H Q h => by
    have h := rE_mut n (mutV_lst (.inr (.inr rfl))) h
    rw [c.hK] at h
    exact h
theorem pe_popE (c : Ctx w S k X) {i : Nat} {xo : Expr} {apos cpos : Pos} (ho : PE X xo (tVar i)) (hsup : noSuper xo = true) (hline : (apos.endLine == cpos.line) = true) : PE X (.Call (.Attribute xo "pop" apos) [] [] cpos) (rE w (.mut .pop i .nil)) := by
  exact PE.imp (pe_bm0 PySem.F.plainAttrs_list PySem.F.slot_list_pop PySem.F.type_list_pop mut_pop ho (attr_base hsup) hline) fun σ H Q h => by
    have h := rE_mut rfl (mutV_lst (.inr (.inl rfl))) h
    rw [c.hK] at h
    exact h
/-! tests of a comprehension -/
theorem pts_nilE : PTs X [] (rC w .nil) := ⟨fun pins s σ H Q J h => by
  obtain ⟨G, τ, fp, sr, h⟩ := h
  rw [evC] at h
  exact pts_nil.run pins s σ H Q J (h G H fp sr .refl)⟩
theorem rC_one {e : E} {Q : Bool → Hp → Prop} (h : rC w (.cons e .nil) σ H Q) : rT w e σ H Q := by
  obtain ⟨G, τ, fp, s, h⟩ := h
  rw [evC, okX_bind] at h
  refine ⟨G, τ, fp, s, okX_mono h fun b τ1 h => ?_⟩
  cases b with
  | true =>
    rw [if_pos rfl, evC] at h
    exact h
  | false =>
    rw [if_neg Bool.false_ne_true] at h
    exact h
theorem pts_oneE {e : E} {x : Expr} (h : PT X x (rT w e)) : PTs X [x] (rC w (.cons e .nil)) := ⟨fun pins s σ H Q J q => (pts_one h).run pins s σ H Q J (rC_one q)⟩
/-! ranges -/
theorem pi_rng1E (c : Ctx w S k X) {a : E} {xa tg : Expr} {p pos : Pos} (n : noBw (.cons a .nil) = true) (hg : Gl X "range") (ha : PA X [xa] (tArgs w (.cons a .nil))) (hs : noStar xa = true) : PI X tg (.Call (.Name "range" p) [xa] [] pos) (rI w (.rng (.cons a .nil)) false) :=
  PI.imp (pi_range1 hg (c.blt _ (by decide +kernel)) ha (starEach_cons hs)) fun _ _ _ h => rI_rng1 n h
theorem pi_rng2E (c : Ctx w S k X) {a b : E} {xa xb tg : Expr} {p pos : Pos} (n : noBw (two a b) = true) (hg : Gl X "range") (ha : PA X [xa, xb] (tArgs w (two a b))) (hs : noStar xa = true) (hs2 : noStar xb = true) : PI X tg (.Call (.Name "range" p) [xa, xb] [] pos) (rI w (.rng (two a b)) false) :=
  PI.imp (pi_range2 hg (c.blt _ (by decide +kernel)) ha (by rw [starEach_cons hs, starEach_cons hs2]; rfl) (starEach_cons hs2)) fun _ _ _ h => rI_rng2 n h
theorem pi_rng3E (c : Ctx w S k X) {a b d : E} {xa xb xd tg : Expr} {p pos : Pos} (n : noBw (.cons a (two b d)) = true) (hg : Gl X "range") (ha : PA X [xa, xb, xd] (tArgs w (.cons a (two b d)))) (hs : noStar xa = true) (hs2 : [xb, xd].all noStar = true) : PI X tg (.Call (.Name "range" p) [xa, xb, xd] [] pos) (rI w (.rng (.cons a (two b d))) false) :=
  PI.imp (pi_range3 hg (c.blt _ (by decide +kernel)) ha (starEach_cons hs) (back_any hs2)) fun _ _ _ h => rI_rng3 n h
/-! comprehensions -/
theorem Ctx.blk (c : Ctx w S k X) (s : Shared) (H : Hp) (scope : Scope) (env : PySem.Env) (fp : List Addr) (hc : env.code = X.env.code) (hq : env.qual = X.env.qual) : Ctx w S k (X.blk s H scope env fp) := ⟨c.hK, c.calm, c.nd, c.room, c.blt, c.fn, c.glo, c.gf, c.nl, c.lam, c.mkl, fun h => by
  obtain ⟨cc, M, nm, h1, h2, h3, h4, h5⟩ := c.tab h
  exact ⟨cc, M, nm, hc.trans h1, h2, h3, fun l q => by rw [h4 l q]; show _ = env.qual ++ _; rw [hq], h5⟩⟩
theorem pe_lcE (c : Ctx w S k X) {e : E} {own : List Nat} {t : Tg} {it : Py.It} {ifs : Es} {pr : Bool} {elt tg iter : Expr} {xs : List Expr} {scope : Scope} {on : List (Str × Nat)} {pos : Pos} (ho : on.map (·.2) = own) (hs : ∀ i ∈ t.slots, i ∈ own) (hp : pr = true → t.tupB = true)
    (ok : BlkOk X.N X.env.scope scope on) (hi : PI X tg iter (rI w it pr)) (hg : ∀ (s : Shared) (H : Hp) (C : Addr) (cl : List (Str × Addr)) (fp : List Addr), PG (X.blk s H scope (compEnvC scope cl C X.env) fp) tg (rG w t))
    (ht : ∀ (s : Shared) (H : Hp) (C : Addr) (cl : List (Str × Addr)) (fp : List Addr), PTs (X.blk s H scope (compEnvC scope cl C X.env) fp) xs (rC w ifs)) (he : ∀ (s : Shared) (H : Hp) (C : Addr) (cl : List (Str × Addr)) (fp : List Addr), PE (X.blk s H scope (compEnvC scope cl C X.env) fp) elt (rV w e)) (hn : notSet iter = true) :
    PE X (.ListComp elt [⟨tg, iter, xs, 0⟩] scope pos) (rE w (.cmpr e own (.cons t it ifs .nil))) :=
  PE.imp (pe_lc c.calm c.nd hi ok hg ht he (set_no hn)) fun _ _ _ h => by rw [ho]; exact comp_rd hs hp h
theorem ps_lcE (c : Ctx w S k X) {i : Nat} {y : Str} {py : Pos} {e : E} {own : List Nat} {t : Tg} {it : Py.It} {ifs : Es} {pr : Bool} {elt tg iter : Expr} {xs : List Expr} {scope : Scope} {on : List (Str × Nat)} {pos spos : Pos} (ho : on.map (·.2) = own) (hs : ∀ i ∈ t.slots, i ∈ own) (hp : pr = true → t.tupB = true)
    (hy : X.N[i]? = some y) (hyl : X.env.scope.names.lookup y = some .local) (hsw : swapsWith (.ListComp elt [⟨tg, iter, xs, 0⟩] scope pos) (some (.Name y py)) spos.line X.env = pure true)
    (ok : BlkOk X.N X.env.scope scope on) (hi : PI X tg iter (rI w it pr)) (hg : ∀ (s : Shared) (H : Hp) (C : Addr) (cl : List (Str × Addr)) (fp : List Addr), PG (X.blk s H scope (compEnvC scope cl C X.env) fp) tg (rG w t))
    (ht : ∀ (s : Shared) (H : Hp) (C : Addr) (cl : List (Str × Addr)) (fp : List Addr), PTs (X.blk s H scope (compEnvC scope cl C X.env) fp) xs (rC w ifs)) (he : ∀ (s : Shared) (H : Hp) (C : Addr) (cl : List (Str × Addr)) (fp : List Addr), PE (X.blk s H scope (compEnvC scope cl C X.env) fp) elt (rV w e)) (hn : notSet iter = true) :
    PS X (.Assign [.Name y py] (.ListComp elt [⟨tg, iter, xs, 0⟩] scope pos) spos) (rS w (.asg (.nm i) (.cmpr e own (.cons t it ifs .nil)))) :=
  PS.imp (ps_setLc c.calm c.nd hy hyl hsw hi ok hg ht he (set_no hn)) fun D σ H h => by
    have h := rd_asg h
    rw [ho]
    obtain ⟨G, τ, fp, s, h⟩ := h
    exact comp_rd hs hp ⟨G, τ, fp, s, okX_mono h fun r τ1 h v G1 H1 fp1 s1 st1 q => rG_nm (h v G1 H1 fp1 s1 st1 q)⟩
end
end Py
end

section
set_option maxRecDepth 100000
set_option maxHeartbeats 2000000
/-! The check that an IR tells what a text says. -/
namespace Py
open PySem PySem.Spec L2
def isVis (sc : Scope) (x : Str) : Bool := match sc.names.lookup x with
  | some .local => true
  | some .cell => true
  | some .free => true
  | _ => false
def isLoc (sc : Scope) (x : Str) : Bool := match sc.names.lookup x with
  | some .local => true
  | _ => false
def isGl (sc : Scope) (x : Str) : Bool := match sc.names.lookup x with
  | some .globalImplicit => true
  | _ => false
def okName (x : Str) : Bool := !(x == ("__debug__" : Str)) && !(x == ("__classdict__" : Str))
def chkC (t : T) (a : Expr) : Bool := match a with
  | .Constant c _ _ => (match t, c with
    | .int i, .int j => decide (i = j)
    | .bl p, .bool q => p == q
    | .non, .none => true
    | .str s, .str x => decide (x.cps.toList = s)
    | _, _ => false)
  | _ => false
/-- a name at its slot -/
def chkV (N : List Str) (sc : Scope) (i : Nat) (a : Expr) : Bool := match a with
  | .Name x _ => decide (N[i]? = some x) && isVis sc x && okName x
  | _ => false
def bopB (o : Bop) : Bool := match o with
  | .band => false
  | .bor => false
  | .shl => false
  | _ => true
def is2 : Es → Bool
  | .cons _ (.cons _ .nil) => true
  | _ => false
/-- what is left of a row of and, or -/
def restB (op : BoolOp) (l : List Expr) (pos : Pos) : Expr := match l with
  | [y] => y
  | l => .BoolOp op l pos
def kwVals (kws : List Keyword) : List Expr := kws.map (·.value)
def kwNames (kws : List Keyword) : Option (List Str) := kws.mapM (·.arg)
def plainE : E → Bool
  | .pk _ => false
  | .bw _ => false
  | _ => true
def slotOf : E → Nat
  | .pk i => i
  | .bw i => i
  | _ => 0
def lineOk (apos cpos : Pos) : Bool := apos.endLine == cpos.line
/-- a target -/
def tgName (N : List Str) (sc : Scope) (i : Nat) (a : Expr) : Bool := match a with
  | .Name x _ => decide (N[i]? = some x) && isLoc sc x
  | _ => false
def tgNames (N : List Str) (sc : Scope) : List Nat → List Expr → Bool
  | [], [] => true
  | i :: is, a :: as => tgName N sc i a && tgNames N sc is as
  | _, _ => false
def isCel (sc : Scope) (x : Str) : Bool := match sc.names.lookup x with
  | some .cell => true
  | _ => false
/-- .. of a def's own frame (fl) it may be a cell -/
def tgC (N : List Str) (fl : Bool) (sc : Scope) (i : Nat) (a : Expr) : Bool := match a with
  | .Name x _ => decide (N[i]? = some x) && (isLoc sc x || (fl && isCel sc x))
  | _ => false
def tgCs (N : List Str) (fl : Bool) (sc : Scope) : List Nat → List Expr → Bool
  | [], [] => true
  | i :: is, a :: as => tgC N fl sc i a && tgCs N fl sc is as
  | _, _ => false
/-- the block's own names -/
def ownOf (N : List Str) (own : List Nat) : List (Str × Nat) := own.filterMap fun i => (N[i]?).map fun x => (x, i)
mutual
def chkE (S : Src) (N : List Str) : Scope → E → Expr → Bool
  | sc, .nm i, a => chkV N sc i a
  | _, .cst t, a => chkC t a
  | sc, .glo g, a => (match a with
    | .Name x _ => decide (S.glo[g]? = some x) && isGl sc x && okName x
    | _ => false)
  | sc, .tup es, a => (match a with
    | .Tuple as _ _ => noPk es && chkEs S N sc es as
    | _ => false)
  | sc, .lst es, a => (match a with
    | .List as _ => noPk es && chkEs S N sc es as
    | _ => false)
  | sc, .bin o es, a => (match a with
    | .BinOp x op y _ => bopB o && decide (op = opA o) && noBw es && is2 es && chkEs S N sc es [x, y]
    | _ => false)
  | sc, .neg e, a => (match a with
    | .UnaryOp op x _ => decide (op = .USub) && chkE S N sc e x
    | _ => false)
  | sc, .not e, a => (match a with
    | .UnaryOp op x _ => decide (op = .Not) && chkE S N sc e x
    | _ => false)
  | sc, .and p q, a => (match a with
    | .BoolOp op (x :: y :: l) pos => decide (op = .And) && chkE S N sc p x && chkE S N sc q (restB .And (y :: l) pos)
    | _ => false)
  | sc, .or p q, a => (match a with
    | .BoolOp op (x :: y :: l) pos => decide (op = .Or) && chkE S N sc p x && chkE S N sc q (restB .Or (y :: l) pos)
    | _ => false)
  | sc, .cmp o es, a => (match a with
    | .Compare x [op] [y] _ => decide (op = cmpA o) && !behindInMarks op y && noBw es && is2 es && chkEs S N sc es [x, y]
    | _ => false)
  | sc, .chain o p e f g, a => (match a with
    | .Compare x [op, op'] [y, z] _ => decide (op = cmpA o) && decide (op' = cmpA p) && !lastMarks [op, op'] [y, z] && chkE S N sc e x && chkE S N sc f y && chkE S N sc g z
    | _ => false)
  | sc, .ife c e f, a => (match a with
    | .IfExp xc x y _ => chkE S N sc c xc && chkE S N sc e x && chkE S N sc f y
    | _ => false)
  | sc, .call f es, a => (match a with
    | .Call (.Name x _) as [] _ => decide (S.fn[f]? = some x) && isGl sc x && okName x && noPk' es && as.all noStar && chkEs S N sc es as
    | _ => false)
  | sc, .callk f perm es, a => (match a with
    | .Call (.Name x _) [] kws _ => (match kwNames kws with
      | some ks => decide (S.fn[f]? = some x) && isGl sc x && okName x && noPk es && noStarE es && decide (es.len = ks.length) && decide ((f, ks, perm) ∈ S.kws) && chkEs S N sc es (kwVals kws)
      | none => false)
    | _ => false)
  | sc, .cf f e, a => (match a with
    | .Call (.Name x _) [y] [] _ => decide (S.fn[f]? = some x) && isGl sc x && okName x && noStar y && chkE S N sc e y
    | _ => false)
  | sc, .cal i es, a => (match a with
    | .Call (.Name x p) as [] _ => chkV N sc i (.Name x p) && noPk es && as.all noStar && chkEs S N sc es as
    | _ => false)
  | _, .lam f cs, a => (match a with
    | .Lambda params body scope _ => cs.isEmpty && S.mkr && S.lam f params body scope && noDfl params && noFree scope
    | _ => false)
  | sc, .blt b es, a => (match a with
    | .Call (.Name x _) (y :: as) [] _ => ((bltFn b).isSome || (bltTy b).isSome) && decide (x = bltName b) && isGl sc x && noBw es && (y :: as).all noStar && chkEs S N sc es (y :: as)
    | _ => false)
  | sc, .isi e cs, a => (match cs, a with
    | [q], .Call (.Name x _) [y, .Name z _] [] _ => clsB q && decide (x = ("isinstance" : Str)) && decide (z = clsName q) && isGl sc x && isGl sc z && noStar y && chkE S N sc e y
    | _, _ => false)
  | sc, .mth m es, a => (match m, es, a with
    | .index, .cons o r, .Call (.Attribute xo nm apos) (y :: as) [] cpos => decide (nm = ("index" : Str)) && plainE o && noBw r && (y :: as).all noStar && decide ((y :: as).length < 30) && noSuper xo && lineOk apos cpos && chkE S N sc o xo && chkEs S N sc r (y :: as)
    | _, _, _ => false)
  | sc, .mut m i es, a => (match a with
    | .Call (.Attribute xo nm apos) as [] cpos => chkV N sc i xo && noPk es && as.all noStar && decide (as.length < 30) && noSuper xo && lineOk apos cpos && chkEs S N sc es as &&
        (match m, as with
          | .append, _ :: _ => decide (nm = ("append" : Str))
          | .popAt, _ :: _ => decide (nm = ("pop" : Str))
          | .pop, [] => decide (nm = ("pop" : Str))
          | _, _ => false)
    | _ => false)
  | sc, .sub es, a => (match a with
    | .Subscript x y _ => notSlice y && noBw es && is2 es && chkEs S N sc es [x, y]
    | _ => false)
  | sc, .sli e lo hi, a => (match a with
    | .Subscript x (.Slice xl xh none _) _ => chkE S N sc e x && chkO S N sc lo xl && chkO S N sc hi xh
    | _ => false)
  | sc, .cmpr e own gs, a => (match a with
    | .ListComp elt [⟨tg, iter, xs, n⟩] scope _ => decide (n = 0) && decide ((ownOf N own).map (·.2) = own) && blkC N sc scope (ownOf N own) && chkG S N sc (relS scope sc) own gs tg iter xs && chkE S N (relS scope sc) e elt
    | _ => false)
  | _, _, _ => false
def chkEs (S : Src) (N : List Str) : Scope → Es → List Expr → Bool
  | _, .nil, as => as.isEmpty
  | sc, .cons e r, as => (match as with
    | a :: as => noStar a && (if plainE e then chkE S N sc e a else chkV N sc (slotOf e) a) && chkEs S N sc r as
    | [] => false)
  | sc, .star e r, as => (match as with
    | .Starred a _ :: as => chkE S N sc e a && chkEs S N sc r as
    | _ => false)
def chkO (S : Src) (N : List Str) : Scope → Oe → Option Expr → Bool
  | _, .no, a => a.isNone
  | sc, .ex e, a => (match a with
    | some a => chkE S N sc e a
    | none => false)
def chkI (S : Src) (N : List Str) : Scope → Py.It → Expr → Bool
  | sc, .ex e, a => notSet a && chkE S N sc e a
  | sc, .rng es, a => (match a with
    | .Call (.Name x _) as [] _ => decide (x = ("range" : Str)) && isGl sc x && noBw es && noStarE es && as.all noStar && decide (1 ≤ as.length) && decide (as.length ≤ 3) && chkEs S N sc es as
    | _ => false)
  | sc, .enu e, a => (match a with
    | .Call (.Name x _) [y] [] _ => decide (x = ("enumerate" : Str)) && isGl sc x && noStar y && chkE S N sc e y
    | _ => false)
  | _, _, _ => false
/-- the one clause of a comprehension: sc0 around, sc1 within -/
def chkG (S : Src) (N : List Str) : Scope → Scope → List Nat → Gs → Expr → Expr → List Expr → Bool
  | sc0, sc1, own, .cons t it ifs .nil, tg, iter, xs => t.slots.all (own.contains ·) && (match it with
      | .enu _ => t.tupB
      | _ => true) && chkT S N false sc1 t tg && chkI S N sc0 it iter && decide (xs.length ≤ 1) && chkEs S N sc1 ifs xs
  | _, _, _, _, _, _, _ => false
def chkT (S : Src) (N : List Str) : Bool → Scope → Tg → Expr → Bool
  | fl, sc, .nm i, a => tgC N fl sc i a
  | fl, sc, .tup is, a => (match a with
    | .Tuple as _ _ => tgCs N fl sc is as
    | _ => false)
  | fl, sc, .sub i k, a => (match a with
    | .Subscript x y _ => chkV N sc i x && notSlice y && chkE S N sc k y
    | _ => false)
  | fl, sc, .mix ts, a => (match a with
    | .Tuple as _ _ => chkTs S N fl sc ts as
    | _ => false)
def chkTs (S : Src) (N : List Str) : Bool → Scope → Tgs → List Expr → Bool
  | _, _, .nil, as => as.isEmpty
  | fl, sc, .cons t r, as => (match as with
    | a :: as => noStar a && chkT S N fl sc t a && chkTs S N fl sc r as
    | [] => false)
end
end Py
end

section
set_option maxRecDepth 100000
set_option maxHeartbeats 4000000
/-! The check is sound. -/
namespace Py
open PySem PySem.Spec PyProof.Rows L2
structure Bod (w : Wd) (S : Src) (k : Nat) (N : List Str) (sc : Scope) (X : Cx) : Prop where
  c : Ctx w S k X
  n : X.N = N
  s : X.env.scope = sc
theorem rel_eq (scope : Scope) (cl : List (Str × Addr)) (C : Addr) (env : PySem.Env) : (compEnvC scope cl C env).scope = relS scope env.scope := by
  show relabel scope env = relS scope env.scope
  unfold relabel relS
  first
    | rfl
    | (congr 1
       funext ⟨n, k⟩
       rfl)
    | (congr 2
       funext ⟨n, k⟩
       simp [Env.kindOf])
theorem Bod.blk {w : Wd} {S : Src} {k : Nat} {N : List Str} {sc : Scope} {X : Cx} (b : Bod w S k N sc X) (s : Shared) (H : Hp) (scope : Scope) (cl : List (Str × Addr)) (C : Addr) (fp : List Addr) : Bod w S k N (relS scope sc) (X.blk s H scope (compEnvC scope cl C X.env) fp) :=
  ⟨b.c.blk s H scope _ fp rfl rfl, b.n, by rw [← b.s]; exact rel_eq scope cl C X.env⟩
def AllX (w : Wd) (X : Cx) : Es → List Expr → Prop
  | .nil, as => as = []
  | .cons e r, as => ∃ a l, as = a :: l ∧ noStar a = true ∧ PE X a (rX w e) ∧ (plainE e = true → PE X a (rE w e)) ∧ AllX w X r l
  | .star e r, as => ∃ a p l, as = .Starred a p :: l ∧ PE X a (rV w e) ∧ AllX w X r l
section
variable {w : Wd} {S : Src} {k : Nat} {N : List Str} {sc : Scope} {X : Cx}
theorem AllX.pa (hK : w.I.K = X.K) : ∀ {es : Es} {as : List Expr}, AllX w X es as → PA X as (tArgs w es)
  | .nil, _, h => by cases h; exact pa_nil
  | .cons e r, _, ⟨a, l, rfl, h1, h2, _, h3⟩ => pa_cons h2 (AllX.pa hK h3) (starEach_cons h1)
  | .star e r, _, ⟨a, p, l, rfl, h2, h3⟩ => by
    have := StX.pa_star (p := p) h2 (AllX.pa hK h3)
    rw [← hK] at this
    exact this
theorem AllX.pk : ∀ {es : Es} {kws : List Keyword}, noStarE es = true → AllX w X es (kwVals kws) → PK X kws (tArgs w es)
  | .nil, kws, _, h => by
    cases kws with
    | nil => exact pk_nil
    | cons _ _ => cases h
  | .star _ _, _, n, _ => by simp [noStarE] at n
  | .cons e r, kws, n, ⟨a, l, h0, h1, h2, _, h3⟩ => by
    cases kws with
    | nil => cases h0
    | cons q kws =>
      obtain ⟨nm, v, p⟩ := q
      simp only [kwVals, List.map_cons, List.cons.injEq] at h0
      obtain ⟨rfl, rfl⟩ := h0
      exact pk_cons h2 (AllX.pk (es := r) n h3)
theorem AllX.tp : ∀ {es : Es} {as : List Expr}, noPk es = true → noStarE es = true → AllX w X es as → PA X as (tP w es)
  | .nil, _, _, _, h => by cases h; exact pa_nil
  | .star _ _, _, _, n, _ => by simp [noStarE] at n
  | .cons e r, _, n, n2, ⟨a, l, rfl, h1, _, h2, h3⟩ => by
    have hp : plainE e = true ∧ noPk r = true := by
      cases e <;> first | exact ⟨rfl, n⟩ | (simp [noPk] at n; done)
    exact pa_cons (h2 hp.1) (AllX.tp (es := r) hp.2 n2 h3) (starEach_cons h1)
theorem vis_of {x : Str} (b : Bod w S k N sc X) (h : isVis sc x = true) : Vis X.env.scope x := by
  rw [b.s]
  unfold isVis at h
  split at h
  · rename_i e; exact .inl e
  · rename_i e; exact .inr (.inl e)
  · rename_i e; exact .inr (.inr e)
  · cases h
theorem gl_of {x : Str} (b : Bod w S k N sc X) (h : isGl sc x = true) : Gl X x := by
  show X.env.scope.names.lookup x = _
  rw [b.s]
  unfold isGl at h
  split at h
  · rename_i e; exact e
  · cases h
theorem ok_name {x : Str} (h : okName x = true) : (x == ("__debug__" : Str)) = false ∧ (x == ("__classdict__" : Str)) = false := by
  unfold okName at h
  rw [Bool.and_eq_true, Bool.not_eq_true', Bool.not_eq_true'] at h
  exact h
theorem snd_v {i : Nat} {a : Expr} (b : Bod w S k N sc X) (h : chkV N sc i a = true) : PE X a (tVar i) := by
  unfold chkV at h
  split at h
  · simp only [Bool.and_eq_true, decide_eq_true_eq] at h
    obtain ⟨⟨h1, h2⟩, h3⟩ := h
    exact pe_var (by rw [b.n]; exact h1) (vis_of b h2) (ok_name h3).1 (ok_name h3).2
  · cases h
theorem snd_c {t : T} {a : Expr} (h : chkC t a = true) : PE X a (rE w (.cst t)) := by
  unfold chkC at h
  split at h
  · split at h
    · have h := of_decide_eq_true h
      subst h
      exact PE.imp pe_int fun _ _ _ q => rd_cst (fun G => .int _) q
    · have h : _ = _ := eq_of_beq h
      subst h
      exact PE.imp pe_bl fun _ _ _ q => rd_cst (fun G => .bl _) q
    · exact PE.imp pe_non fun _ _ _ q => rd_cst (fun G => .non) q
    · have h := of_decide_eq_true h
      subst h
      exact PE.imp pe_str fun _ _ _ q => rd_cst (fun G => .str _) q
    · cases h
  · cases h
theorem snd_g {g : Nat} {x : Str} {p : Pos} (b : Bod w S k N sc X) (h1 : S.glo[g]? = some x) (h2 : isGl sc x = true) (h3 : okName x = true) : PE X (.Name x p) (rE w (.glo g)) := by
  cases e : w.Γ.glo g with
  | none =>
    refine ⟨fun pins s σ H Q J h => ?_⟩
    obtain ⟨G, τ, fp, s, h⟩ := h
    simp only [ev] at h
    rw [okX_bind, okX_lift, e] at h
    obtain ⟨_, z, _⟩ := h
    cases z
  | some t =>
    obtain ⟨v, u, h4, h5, h6⟩ := b.c.glo g x t h1 e
    exact PE.imp (pe_glob (gl_of b h2) h4 h5 (ok_name h3).1) fun _ _ _ q => rd_glo (fun t' G e' => by rw [e] at e'; cases e'; exact h6 G) q
theorem rV_of {e : E} {a : Expr} (h : PE X a (rE w e)) : PE X a (rV w e) := PE.imp h fun _ _ _ q => rV_rE q
theorem rX_of {e : E} {a : Expr} (hp : plainE e = true) (h : PE X a (rE w e)) : PE X a (rX w e) := by
  have n1 : ∀ i, e ≠ .pk i := fun i z => by rw [z] at hp; cases hp
  have n2 : ∀ i, e ≠ .bw i := fun i z => by rw [z] at hp; cases hp
  rw [rX_plain n1 n2]
  exact rV_of h
theorem two_of {es : Es} {x y : Expr} (h2 : is2 es = true) (h : AllX w X es [x, y]) : ∃ a b, es = two a b ∧ PE X x (rX w a) ∧ PE X y (rX w b) := by
  match es, h2, h with
  | .cons a (.cons b .nil), _, h =>
    obtain ⟨p, l, e, _, h1, _, p2, l2, e2, _, h3, _, _⟩ := h
    simp only [List.cons.injEq] at e
    obtain ⟨rfl, e⟩ := e
    rw [← e] at e2
    simp only [List.cons.injEq] at e2
    obtain ⟨rfl, _⟩ := e2
    exact ⟨a, b, rfl, h1, h3⟩
theorem bop_mem {o : Bop} (h : bopB o = true) : o ∉ [Bop.band, .bor, .shl] := by
  cases o <;> simp [bopB] at h ⊢
end
end Py
end

section
set_option maxRecDepth 100000
set_option maxHeartbeats 8000000
/-! The check is sound: expressions. -/
namespace Py
open PySem PySem.Spec PyProof.Rows L2
section
variable {w : Wd} {S : Src} {k : Nat} {N : List Str}
theorem ba {a b : Bool} (h : (a && b) = true) : a = true ∧ b = true := by simpa using h
theorem own_blk {own : List Nat} {sc scope : Scope} {X : Cx} (b : Bod w S k N sc X) (h : blkC N sc scope (ownOf N own) = true) : BlkOk X.N X.env.scope scope (ownOf N own) := by
  rw [b.n, b.s]
  exact blkOk_by h
theorem tgName_of {sc : Scope} {X : Cx} {i : Nat} {x : Str} {p : Pos} (b : Bod w S k N sc X) (h : tgName N sc i (.Name x p) = true) : X.N[i]? = some x ∧ X.env.scope.names.lookup x = some .local := by
  unfold tgName at h
  obtain ⟨h1, h2⟩ := ba h
  rw [b.n, b.s]
  refine ⟨of_decide_eq_true h1, ?_⟩
  unfold isLoc at h2
  split at h2
  · assumption
  · cases h2
theorem tgName_name {sc : Scope} {i : Nat} {a : Expr} (h : tgName N sc i a = true) : ∃ x p, a = .Name x p := by
  unfold tgName at h
  split at h
  · exact ⟨_, _, rfl⟩
  · cases h
theorem tgNames_of {sc : Scope} {X : Cx} (b : Bod w S k N sc X) : ∀ {is : List Nat} {as : List Expr}, tgNames N sc is as = true → NamesAt X as is
  | [], [], _ => trivial
  | [], _ :: _, h => by simp [tgNames] at h
  | _ :: _, [], h => by simp [tgNames] at h
  | i :: is, a :: as, h => by
    unfold tgNames at h
    obtain ⟨h1, h2⟩ := ba h
    obtain ⟨x, p, rfl⟩ := tgName_name h1
    obtain ⟨e1, e2⟩ := tgName_of b h1
    exact ⟨⟨e1, .inl e2, .inr e2⟩, tgNames_of b h2⟩
theorem tgC_of {fl : Bool} {sc : Scope} {X : Cx} {i : Nat} {a : Expr} (b : Bod w S k N sc X) (hf : fl = true → ∀ x, X.fn x = true) (h : tgC N fl sc i a = true) : ∃ x p, a = .Name x p ∧ X.N[i]? = some x ∧ Loc X.env.scope x ∧ (X.fn x = true ∨ X.env.scope.names.lookup x = some .local) := by
  unfold tgC at h
  split at h
  · rename_i x p
    obtain ⟨h1, h2⟩ := ba h
    refine ⟨x, p, rfl, ?_⟩
    rw [b.n, b.s]
    refine ⟨of_decide_eq_true h1, ?_⟩
    rw [Bool.or_eq_true] at h2
    rcases h2 with h2 | h2
    · unfold isLoc at h2
      split at h2
      · rename_i e; exact ⟨.inl e, .inr e⟩
      · cases h2
    · obtain ⟨h2, h3⟩ := ba h2
      unfold isCel at h3
      split at h3
      · rename_i e; exact ⟨.inr e, .inl (hf h2 x)⟩
      · cases h3
  · cases h
theorem tgCs_of {fl : Bool} {sc : Scope} {X : Cx} (b : Bod w S k N sc X) (hf : fl = true → ∀ x, X.fn x = true) : ∀ {is : List Nat} {as : List Expr}, tgCs N fl sc is as = true → NamesAt X as is
  | [], [], _ => trivial
  | [], _ :: _, h => by simp [tgCs] at h
  | _ :: _, [], h => by simp [tgCs] at h
  | i :: is, a :: as, h => by
    unfold tgCs at h
    obtain ⟨h1, h2⟩ := ba h
    obtain ⟨x, p, rfl, q⟩ := tgC_of b hf h1
    exact ⟨q, tgCs_of b hf h2⟩
theorem kw_of {kws : List Keyword} {ks : List Str} (h : kwNames kws = some ks) : kws.map (·.arg) = ks.map some := by
  unfold kwNames at h
  induction kws generalizing ks with
  | nil => simp at h; subst h; rfl
  | cons q r ih =>
    rw [List.mapM_cons] at h
    cases e : q.arg with
    | none => rw [e] at h; simp at h
    | some x =>
      rw [e] at h
      cases e2 : r.mapM (·.arg) with
      | none => rw [e2] at h; simp at h
      | some l =>
        rw [e2] at h
        simp at h
        subst h
        simp [e, ih e2]
theorem nopk_len {es : Es} {as : List Expr} {X : Cx} (n : noPk' es = true) (h : AllX w X es as) : as = [] → es = .nil := by
  rintro rfl
  cases es with
  | nil => rfl
  | cons e r => obtain ⟨a, l, z, _⟩ := h; cases z
  | star e r => simp [noPk'] at n
theorem plain_ne {e : E} (hp : plainE e = true) : (∀ i, e ≠ .pk i) ∧ ∀ i, e ≠ .bw i := ⟨fun i z => (by rw [z] at hp; cases hp), fun i z => by rw [z] at hp; cases hp⟩
def prOf : Py.It → Bool
  | .enu _ => true
  | _ => false
/-- what the evaluator does not tell -/
theorem pts_never {X : Cx} {e : E} {xs : List Expr} (hp : ¬ plainE e = true) : PTs X xs (rC w (.cons e .nil)) := ⟨fun pins s σ H Q J h => by
  obtain ⟨G, τ, fp, sr, h⟩ := h
  rw [evC, okX_bind] at h
  unfold evB at h
  rw [okX_bind] at h
  cases e <;> first | exact absurd rfl hp | (simp only [ev] at h; exact h.elim)⟩
theorem pts_starNever {X : Cx} {e : E} {r : Es} {xs : List Expr} : PTs X xs (rC w (.star e r)) := ⟨fun pins s σ H Q J h => by
  obtain ⟨G, τ, fp, sr, h⟩ := h
  rw [evC] at h
  exact h.elim⟩
/-- as a value, as a test, as a row of and, or -/
def Full (w : Wd) (X : Cx) (e : E) (a : Expr) : Prop := PE X a (rE w e) ∧ PT X a (rT w e) ∧ ∀ op l pos, a = .BoolOp op l pos → PW X a (rT w e)
theorem Full.plain {X : Cx} {e : E} {a : Expr} (h : PE X a (rE w e)) (hp : plainTest a = true) : Full w X e a := ⟨h, pt_plain h hp, fun op l pos z => by rw [z] at hp; cases hp⟩
theorem chkV_test {sc : Scope} {i : Nat} {a : Expr} (h : chkV N sc i a = true) : plainTest a = true := by
  unfold chkV at h
  split at h
  · rfl
  · cases h
theorem chkC_test {t : T} {a : Expr} (h : chkC t a = true) : plainTest a = true := by
  unfold chkC at h
  split at h
  · rfl
  · cases h
theorem pt_cmpE {X : Cx} {a b : E} {xa xb : Expr} {pos : Pos} (hK : w.I.K = X.K) (hu : X.A.units + 64 < cLine) {o : Cop} (n : noBw (two a b) = true) (ha : PE X xa (rX w a)) (hb : PE X xb (rX w b)) (hm : behindInMarks (cmpA o) xb = false) : PT X (.Compare xa [cmpA o] [xb] pos) (rT w (.cmp o (two a b))) :=
  PT.imp (pt_cmpR (OpR.imp (cmp_ok hK hu o) fun _ _ _ _ h => rB_of (f := cmpF o) (fun _ _ => rfl) h) ha hb hm) fun _ _ _ h => rA_args (rE_op (fun τ => ev_cmp) n (rT_val h))
theorem rT_ife {c a b : E} {σ : L2.St} {H : Hp} {Q : Bool → Hp → Prop} (h : rT w (.ife c a b) σ H Q) : rT w c σ H fun x H1 => if x = true then rT w a σ H1 Q else rT w b σ H1 Q := by
  obtain ⟨G, τ, fp, s, h⟩ := h
  unfold evB at h
  simp only [ev] at h
  rw [okX_bind, okX_bind] at h
  refine ⟨G, τ, fp, s, okX_mono h fun x τ1 h G1 H1 fp1 s1 st1 => ?_⟩
  have key : ∀ e, okX (ev w.Γ e τ1) (fun a τ => okX (lift (a.val.bind truB) τ) fun b τ' => ∀ G' H' fp', w.SR G' τ' fp' σ H' → Stage fp G H fp' G' H' → Q b H') → rT w e σ H1 Q := fun e h => by
    refine ⟨G1, τ1, fp1, s1, ?_⟩
    unfold evB
    rw [okX_bind]
    exact okX_mono h fun r τ2 h => by
      rw [okX_lift] at h ⊢
      obtain ⟨y, e, h⟩ := h
      exact ⟨y, e, fun G2 H2 fp2 s2 st2 => h G2 H2 fp2 s2 (st1.trans st2)⟩
  cases x with
  | true =>
    rw [if_pos rfl] at h
    exact key a h
  | false =>
    rw [if_neg Bool.false_ne_true] at h
    exact key b h
theorem pt_ifeE {X : Cx} {c a b : E} {xc xa xb : Expr} {pos : Pos} (hc : PT X xc (rT w c)) (ha : PT X xa (rT w a)) (hb : PT X xb (rT w b)) : PT X (.IfExp xc xa xb pos) (rT w (.ife c a b)) := ⟨fun pins s σ H Q J h => by
  show wpAny (model X.prog X.w) X.A (isTrue xc X.env (eval xc X.env) >>= fun b => if b then isTrue xa X.env (eval xa X.env) else isTrue xb X.env (eval xb X.env)) _ _ s
  refine wpAny_bind (thn (hc.run pins s σ H _ J (rT_ife h)) fun d s1 ⟨H1, J1, q⟩ => ?_)
  cases d with
  | true => exact ha.run pins s1 σ H1 Q J1 q
  | false => exact hb.run pins s1 σ H1 Q J1 q⟩
mutual
theorem sndE : ∀ (e : E) {sc : Scope} {X : Cx} {a : Expr}, Bod w S k N sc X → chkE S N sc e a = true → Full w X e a
  | .nm i, sc, X, a, b, h => by
    simp only [chkE] at h
    exact Full.plain (PE.imp (snd_v b h) fun _ _ _ q => rd_nm q) (chkV_test h)
  | .cst t, sc, X, a, b, h => by
    simp only [chkE] at h
    exact Full.plain (snd_c h) (chkC_test h)
  | .glo g, sc, X, a, b, h => by
    simp only [chkE] at h
    split at h
    · obtain ⟨h, h3⟩ := ba h
      obtain ⟨h1, h2⟩ := ba h
      exact Full.plain (snd_g b (of_decide_eq_true h1) h2 h3) rfl
    · cases h
  | .tup es, sc, X, a, b, h => by
    simp only [chkE] at h
    split at h
    · obtain ⟨h1, h2⟩ := ba h
      exact Full.plain (pe_tupE h1 ((sndEs es b h2).pa b.c.hK)) rfl
    · cases h
  | .lst es, sc, X, a, b, h => by
    simp only [chkE] at h
    split at h
    · obtain ⟨h1, h2⟩ := ba h
      exact Full.plain (pe_lstE h1 ((sndEs es b h2).pa b.c.hK)) rfl
    · cases h
  | .bin o es, sc, X, a, b, h => by
    simp only [chkE] at h
    split at h
    · obtain ⟨h, h5⟩ := ba h
      obtain ⟨h, h4⟩ := ba h
      obtain ⟨h, h3⟩ := ba h
      obtain ⟨h1, h2⟩ := ba h
      have q := sndEs es b h5
      obtain ⟨p, r, rfl, hp, hr⟩ := two_of h4 q
      have h2 := of_decide_eq_true h2
      subst h2
      exact Full.plain (pe_binE b.c.hK (bop_mem h1) h3 hp hr) rfl
    · cases h
  | .neg e, sc, X, a, b, h => by
    simp only [chkE] at h
    split at h
    · obtain ⟨h1, h2⟩ := ba h
      have h1 := of_decide_eq_true h1
      subst h1
      have q := pe_negE (pos := ‹Pos›) (sndE e b h2).1
      exact ⟨q, PT.imp (pt_val q fun _ => rfl) fun _ _ _ z => rT_val z, fun _ _ _ z => by cases z⟩
    · cases h
  | .not e, sc, X, a, b, h => by
    simp only [chkE] at h
    split at h
    · obtain ⟨h1, h2⟩ := ba h
      have h1 := of_decide_eq_true h1
      subst h1
      exact ⟨pe_notE (sndE e b h2).1, pt_notE (sndE e b h2).2.1, fun _ _ _ z => by cases z⟩
    · cases h
  | .and p q, sc, X, a, b, h => by
    simp only [chkE] at h
    split at h
    · rename_i op x y l pos
      obtain ⟨h, h3⟩ := ba h
      obtain ⟨h1, h2⟩ := ba h
      have h1 := of_decide_eq_true h1
      subst h1
      have hq := sndE q b h3
      have hw : PW X (.BoolOp .And (x :: y :: l) pos) (rT w (.and p q)) := by
        refine PW.imp (L2.pw_and (sndE p b h2).2.1 (tB' := rT w q) ?_) fun _ _ _ z => rT_and z
        cases l with
        | nil => exact L2.pw_and1 hq.2.1
        | cons z l => exact hq.2.2 _ _ _ rfl
      refine ⟨PE.imp (L2.pe_and (sndE p b h2).1 (tb := rE w q) ?_) fun _ _ _ z => rE_and z, hw.pt, fun _ _ _ _ => hw⟩
      cases l with
      | nil => exact L2.pe_one hq.1
      | cons z l => exact hq.1
    · cases h
  | .or p q, sc, X, a, b, h => by
    simp only [chkE] at h
    split at h
    · rename_i op x y l pos
      obtain ⟨h, h3⟩ := ba h
      obtain ⟨h1, h2⟩ := ba h
      have h1 := of_decide_eq_true h1
      subst h1
      have hq := sndE q b h3
      have hw : PW X (.BoolOp .Or (x :: y :: l) pos) (rT w (.or p q)) := by
        refine PW.imp (L2.pw_or (sndE p b h2).2.1 (tB' := rT w q) ?_) fun _ _ _ z => rT_or z
        cases l with
        | nil => exact L2.pw_or1 hq.2.1
        | cons z l => exact hq.2.2 _ _ _ rfl
      refine ⟨PE.imp (L2.pe_or (sndE p b h2).1 (tb := rE w q) ?_) fun _ _ _ z => rE_or z, hw.pt, fun _ _ _ _ => hw⟩
      cases l with
      | nil => exact L2.pe_one hq.1
      | cons z l => exact hq.1
    · cases h
  | .cmp o es, sc, X, a, b, h => by
    simp only [chkE] at h
    split at h
    · obtain ⟨h, h5⟩ := ba h
      obtain ⟨h, h4⟩ := ba h
      obtain ⟨h, h3⟩ := ba h
      obtain ⟨h1, h2⟩ := ba h
      have q := sndEs es b h5
      obtain ⟨p, r, rfl, hp, hr⟩ := two_of h4 q
      have h1 := of_decide_eq_true h1
      subst h1
      exact ⟨pe_cmpE b.c.hK b.c.un h3 hp hr (by simpa using h2), pt_cmpE b.c.hK b.c.un h3 hp hr (by simpa using h2), fun _ _ _ z => by cases z⟩
    · cases h
  | .chain o p e f g, sc, X, a, b, h => by
    simp only [chkE] at h
    split at h
    · obtain ⟨h, h6⟩ := ba h
      obtain ⟨h, h5⟩ := ba h
      obtain ⟨h, h4⟩ := ba h
      obtain ⟨h, h3⟩ := ba h
      obtain ⟨h1, h2⟩ := ba h
      have h1 := of_decide_eq_true h1
      have h2 := of_decide_eq_true h2
      subst h1 h2
      exact ⟨PE.imp (L2.pe_chain (cmp_ok b.c.hK b.c.un o) (cmp_ok b.c.hK b.c.un p) (rV_of (sndE e b h4).1) (rV_of (sndE f b h5).1) (rV_of (sndE g b h6).1) (by simpa using h3)) fun _ _ _ z => rE_chain z,
        PT.imp (L2.pt_chain (cmp_ok b.c.hK b.c.un o) (cmp_ok b.c.hK b.c.un p) (rV_of (sndE e b h4).1) (rV_of (sndE f b h5).1) (rV_of (sndE g b h6).1) (by simpa using h3)) fun _ _ _ z => rE_chain (rT_val z), fun _ _ _ z => by cases z⟩
    · cases h
  | .ife c e f, sc, X, a, b, h => by
    simp only [chkE] at h
    split at h
    · obtain ⟨h, h3⟩ := ba h
      obtain ⟨h1, h2⟩ := ba h
      exact ⟨pe_ifeE (sndE c b h1).2.1 (sndE e b h2).1 (sndE f b h3).1, pt_ifeE (sndE c b h1).2.1 (sndE e b h2).2.1 (sndE f b h3).2.1, fun _ _ _ z => by cases z⟩
    · cases h
  | .call f es, sc, X, a, b, h => by
    simp only [chkE] at h
    split at h
    · obtain ⟨h, h6⟩ := ba h
      obtain ⟨h, h5⟩ := ba h
      obtain ⟨h, h4⟩ := ba h
      obtain ⟨h, h3⟩ := ba h
      obtain ⟨h1, h2⟩ := ba h
      have q := sndEs es b h6
      exact Full.plain (pe_callE b.c (of_decide_eq_true h1) (gl_of b h2) h4 h5 (nopk_len h4 q) (q.pa b.c.hK) (ok_name h3).1) rfl
    · cases h
  | .cal i es, sc, X, a, b, h => by
    simp only [chkE] at h
    split at h
    · obtain ⟨h, h4⟩ := ba h
      obtain ⟨h, h3⟩ := ba h
      obtain ⟨h1, h2⟩ := ba h
      have q := sndEs es b h4
      unfold chkV at h1
      simp only [Bool.and_eq_true, decide_eq_true_eq] at h1
      obtain ⟨⟨c1, c2⟩, c3⟩ := h1
      refine Full.plain (pe_calE b.c (by rw [b.n]; exact c1) (vis_of b c2) h2 h3 (fun z => ?_) (q.pa b.c.hK) (ok_name c3).1 (ok_name c3).2) rfl
      subst z
      cases es with
      | nil => rfl
      | cons e r => obtain ⟨_, _, z, _⟩ := q; cases z
      | star e r => obtain ⟨_, _, _, z, _⟩ := q; cases z
    · cases h
  | .lam f cs, sc, X, a, b, h => by
    simp only [chkE] at h
    split at h
    · obtain ⟨h, h5⟩ := ba h
      obtain ⟨h, h4⟩ := ba h
      obtain ⟨h, h3⟩ := ba h
      obtain ⟨h1, h2⟩ := ba h
      cases cs with
      | nil => exact Full.plain (pe_lamE b.c h3 h2 h4 h5) rfl
      | cons _ _ => cases h1
    · cases h
  | .callk f perm es, sc, X, a, b, h => by
    simp only [chkE] at h
    split at h
    · split at h
      · rename_i ks hk
        obtain ⟨h, h8⟩ := ba h
        obtain ⟨h, h7⟩ := ba h
        obtain ⟨h, h6⟩ := ba h
        obtain ⟨h, h5⟩ := ba h
        obtain ⟨h, h4⟩ := ba h
        obtain ⟨h, h3⟩ := ba h
        obtain ⟨h1, h2⟩ := ba h
        exact Full.plain (pe_callkE b.c (of_decide_eq_true h1) (gl_of b h2) h4 h5 (of_decide_eq_true h6) (kw_of hk) (of_decide_eq_true h7) (AllX.pk h5 (sndEs es b h8)) (ok_name h3).1) rfl
      · cases h
    · cases h
  | .cf f e, sc, X, a, b, h => by
    simp only [chkE] at h
    split at h
    · obtain ⟨h, h5⟩ := ba h
      obtain ⟨h, h4⟩ := ba h
      obtain ⟨h, h3⟩ := ba h
      obtain ⟨h1, h2⟩ := ba h
      exact Full.plain (pe_cfE b.c (of_decide_eq_true h1) (gl_of b h2) h4 (sndE e b h5).1 (ok_name h3).1) rfl
    · cases h
  | .blt t es, sc, X, a, b, h => by
    simp only [chkE] at h
    split at h
    · obtain ⟨h, h6⟩ := ba h
      obtain ⟨h, h5⟩ := ba h
      obtain ⟨h, h4⟩ := ba h
      obtain ⟨h, h3⟩ := ba h
      obtain ⟨h1, h2⟩ := ba h
      have h2 := of_decide_eq_true h2
      subst h2
      exact Full.plain (pe_bltE b.c (by simpa using h1) (gl_of b h3) h4 h5 ((sndEs es b h6).pa b.c.hK)) rfl
    · cases h
  | .isi e cs, sc, X, a, b, h => by
    unfold chkE at h
    split at h
    · obtain ⟨h, h7⟩ := ba h
      obtain ⟨h, h6⟩ := ba h
      obtain ⟨h, h5⟩ := ba h
      obtain ⟨h, h4⟩ := ba h
      obtain ⟨h, h3⟩ := ba h
      obtain ⟨h1, h2⟩ := ba h
      have h2 := of_decide_eq_true h2
      have h3 := of_decide_eq_true h3
      subst h2 h3
      exact Full.plain (pe_isiE b.c h1 (gl_of b h4) (gl_of b h5) h6 (rV_of (sndE e b h7).1)) rfl
    · cases h
  | .mth m .nil, sc, X, a, b, h => by
    unfold chkE at h
    split at h
    · rename_i e; cases e
    · cases h
  | .mth m (.star _ _), sc, X, a, b, h => by
    unfold chkE at h
    split at h
    · rename_i e; cases e
    · cases h
  | .mth m (.cons o r), sc, X, a, b, h => by
    unfold chkE at h
    split at h
    · rename_i o' r' xo nm apos y as cpos e
      cases e
      obtain ⟨h, h9⟩ := ba h
      obtain ⟨h, h8⟩ := ba h
      obtain ⟨h, h7⟩ := ba h
      obtain ⟨h, h6⟩ := ba h
      obtain ⟨h, h5⟩ := ba h
      obtain ⟨h, h4⟩ := ba h
      obtain ⟨h, h3⟩ := ba h
      obtain ⟨h1, h2⟩ := ba h
      have h1 := of_decide_eq_true h1
      subst h1
      exact Full.plain (pe_idxE b.c (plain_ne h2).1 (plain_ne h2).2 h3 (rV_of (sndE o b h8).1) ((sndEs r b h9).pa b.c.hK) h4 (of_decide_eq_true h5) h6 h7) rfl
    · cases h
  | .mut m i es, sc, X, a, b, h => by
    simp only [chkE] at h
    split at h
    · obtain ⟨h, h8⟩ := ba h
      obtain ⟨h, h7⟩ := ba h
      obtain ⟨h, h6⟩ := ba h
      obtain ⟨h, h5⟩ := ba h
      obtain ⟨h, h4⟩ := ba h
      obtain ⟨h, h3⟩ := ba h
      obtain ⟨h1, h2⟩ := ba h
      have q := sndEs es b h7
      split at h8
      · have h8 := of_decide_eq_true h8
        subst h8
        exact Full.plain (pe_appendE b.c h2 (snd_v b h1) (q.pa b.c.hK) h3 (of_decide_eq_true h4) h5 h6) rfl
      · have h8 := of_decide_eq_true h8
        subst h8
        exact Full.plain (pe_popAtE b.c h2 (snd_v b h1) (q.pa b.c.hK) h3 (of_decide_eq_true h4) h5 h6) rfl
      · have h8 := of_decide_eq_true h8
        subst h8
        cases es with
        | nil => exact Full.plain (pe_popE b.c (snd_v b h1) h5 h6) rfl
        | cons e r => obtain ⟨_, _, z, _⟩ := q; cases z
        | star e r => obtain ⟨_, _, _, z, _⟩ := q; cases z
      · cases h8
    · cases h
  | .sub es, sc, X, a, b, h => by
    simp only [chkE] at h
    split at h
    · obtain ⟨h, h4⟩ := ba h
      obtain ⟨h, h3⟩ := ba h
      obtain ⟨h1, h2⟩ := ba h
      have q := sndEs es b h4
      obtain ⟨p, r, rfl, hp, hr⟩ := two_of h3 q
      exact Full.plain (pe_subE b.c.hK h2 hp hr h1) rfl
    · cases h
  | .sli e lo hi, sc, X, a, b, h => by
    simp only [chkE] at h
    split at h
    · obtain ⟨h, h3⟩ := ba h
      obtain ⟨h1, h2⟩ := ba h
      exact Full.plain (pe_sliE b.c (rV_of (sndE e b h1).1) (sndO lo b h2) (sndO hi b h3)) rfl
    · cases h
  | .cmpr e own gs, sc, X, a, b, h => by
    simp only [chkE] at h
    split at h
    · rename_i elt tg iter xs n scope pos
      obtain ⟨h, h5⟩ := ba h
      obtain ⟨h, h4⟩ := ba h
      obtain ⟨h, h3⟩ := ba h
      obtain ⟨h1, h2⟩ := ba h
      have h1 := of_decide_eq_true h1
      subst h1
      obtain ⟨t, it, ifs, pr, rfl, g1, g2, g3, g4, g5, g6⟩ := sndG gs b (fun s H C cl fp => b.blk s H scope cl C fp) h4
      exact Full.plain (pe_lcE b.c (of_decide_eq_true h2) g1 g2 (own_blk b h3) g3 g4 g5 (fun s H C cl fp => rV_of (sndE e (b.blk s H scope cl C fp) h5).1) g6) rfl
    · cases h
  | .pk _, sc, X, a, b, h => by simp [chkE] at h
  | .bw _, sc, X, a, b, h => by simp [chkE] at h
  | .gfn _, sc, X, a, b, h => by simp [chkE] at h
  | .dct _ _, sc, X, a, b, h => by simp [chkE] at h
  | .blti _ _, sc, X, a, b, h => by simp [chkE] at h
  | .rev _, sc, X, a, b, h => by simp [chkE] at h
  | .dcmp _ _ _ _, sc, X, a, b, h => by simp [chkE] at h
  | .fld _ _, sc, X, a, b, h => by simp [chkE] at h
termination_by x => sizeOf x
decreasing_by all_goals (simp_wf; try omega)
theorem sndEs : ∀ (es : Es) {sc : Scope} {X : Cx} {as : List Expr}, Bod w S k N sc X → chkEs S N sc es as = true → AllX w X es as
  | .nil, sc, X, as, b, h => by
    simp only [chkEs] at h
    exact List.isEmpty_iff.mp h
  | .cons e r, sc, X, as, b, h => by
    simp only [chkEs] at h
    split at h
    · rename_i a l
      obtain ⟨h, h3⟩ := ba h
      obtain ⟨h1, h2⟩ := ba h
      have q := sndEs r b h3
      by_cases hp : plainE e = true
      · rw [if_pos hp] at h2
        have z := (sndE e b h2).1
        exact ⟨a, l, rfl, h1, rX_of hp z, fun _ => z, q⟩
      · rw [if_neg hp] at h2
        have z := snd_v b h2
        refine ⟨a, l, rfl, h1, ?_, fun z => absurd z hp, q⟩
        cases e <;> first | exact z | exact absurd rfl hp
    · cases h
  | .star e r, sc, X, as, b, h => by
    simp only [chkEs] at h
    split at h
    · rename_i a p l
      obtain ⟨h1, h2⟩ := ba h
      exact ⟨a, p, l, rfl, rV_of (sndE e b h1).1, sndEs r b h2⟩
    · cases h
termination_by x => sizeOf x
decreasing_by all_goals (simp_wf; try omega)
theorem sndO : ∀ (o : Oe) {sc : Scope} {X : Cx} {a : Option Expr}, Bod w S k N sc X → chkO S N sc o a = true → PO X a (rO w o)
  | .no, sc, X, a, b, h => by
    simp only [chkO] at h
    rw [Option.isNone_iff_eq_none.mp h]
    exact po_none
  | .ex e, sc, X, a, b, h => by
    simp only [chkO] at h
    split at h
    · exact po_some (rV_of (sndE e b h).1)
    · cases h
termination_by x => sizeOf x
decreasing_by all_goals (simp_wf; try omega)
theorem sndI : ∀ (it : Py.It) {sc : Scope} {X : Cx} {tg a : Expr}, Bod w S k N sc X → chkI S N sc it a = true → (prOf it = true → ∃ es kk p, tg = .Tuple es kk p) → PI X tg a (rI w it (prOf it)) ∧ notSet a = true
  | .ex e, sc, X, tg, a, b, h, _ => by
    simp only [chkI] at h
    obtain ⟨h1, h2⟩ := ba h
    exact ⟨pi_exE b.c (rV_of (sndE e b h2).1), h1⟩
  | .rng es, sc, X, tg, a, b, h, _ => by
    simp only [chkI] at h
    split at h
    · rename_i x p as pos
      obtain ⟨h, h8⟩ := ba h
      obtain ⟨h, h7⟩ := ba h
      obtain ⟨h, h6⟩ := ba h
      obtain ⟨h, h5⟩ := ba h
      obtain ⟨h, h4⟩ := ba h
      obtain ⟨h, h3⟩ := ba h
      obtain ⟨h1, h2⟩ := ba h
      have h1 := of_decide_eq_true h1
      subst h1
      have q := sndEs es b h8
      have pa := q.pa b.c.hK
      refine ⟨?_, rfl⟩
      have h6 := of_decide_eq_true h6
      have h7 := of_decide_eq_true h7
      match es, as, q, h3, h4, h5, pa with
      | .nil, as, q, _, _, _, _ => cases q; simp at h6
      | .star _ _, as, q, _, h4, _, _ => simp [noStarE] at h4
      | .cons e1 .nil, as, ⟨a1, l, e0, n1, _, _, q⟩, h3, h4, h5, pa =>
        cases q
        subst e0
        exact pi_rng1E b.c h3 (gl_of b h2) pa n1
      | .cons e1 (.star _ _), as, q, _, h4, _, _ => simp [noStarE] at h4
      | .cons e1 (.cons e2 .nil), as, ⟨a1, l, e0, n1, _, _, a2, l2, e3, n2, _, _, q⟩, h3, h4, h5, pa =>
        cases q
        subst e0 e3
        exact pi_rng2E b.c h3 (gl_of b h2) pa n1 n2
      | .cons e1 (.cons e2 (.star _ _)), as, q, _, h4, _, _ => simp [noStarE] at h4
      | .cons e1 (.cons e2 (.cons e3 .nil)), as, ⟨a1, l, e0, n1, _, _, a2, l2, e4, n2, _, _, a3, l3, e5, n3, _, _, q⟩, h3, h4, h5, pa =>
        cases q
        subst e0 e4 e5
        exact pi_rng3E b.c h3 (gl_of b h2) pa n1 (by simp [n2, n3])
      | .cons e1 (.cons e2 (.cons e3 (.star _ _))), as, q, _, h4, _, _ => simp [noStarE] at h4
      | .cons e1 (.cons e2 (.cons e3 (.cons e4 r))), as, ⟨a1, l, e0, n1, _, _, a2, l2, e5, n2, _, _, a3, l3, e6, n3, _, _, a4, l4, e7, _⟩, h3, h4, h5, pa =>
        subst e0 e5 e6 e7
        simp at h7
    · cases h
  | .enu e, sc, X, tg, a, b, h, ht => by
    simp only [chkI] at h
    split at h
    · obtain ⟨h, h4⟩ := ba h
      obtain ⟨h, h3⟩ := ba h
      obtain ⟨h1, h2⟩ := ba h
      have h1 := of_decide_eq_true h1
      subst h1
      obtain ⟨es, kk, p, rfl⟩ := ht rfl
      exact ⟨pi_enuE b.c (gl_of b h2) (rV_of (sndE e b h4).1) h3, rfl⟩
    · cases h
  | .zip _ _, sc, X, tg, a, b, h, _ => by simp [chkI] at h
  | .itm _, sc, X, tg, a, b, h, _ => by simp [chkI] at h
  | .vls _, sc, X, tg, a, b, h, _ => by simp [chkI] at h
termination_by x => sizeOf x
decreasing_by all_goals (simp_wf; try omega)
theorem sndTg : ∀ (t : Tg) {fl : Bool} {sc : Scope} {X : Cx} {a : Expr}, Bod w S k N sc X → (fl = true → ∀ x, X.fn x = true) → chkT S N fl sc t a = true → PG X a (rG w t) ∧ noStar a = true
  | .nm i, fl, sc, X, a, b, hf, h => by
    simp only [chkT] at h
    obtain ⟨x, p, rfl, e1, e2, e3⟩ := tgC_of b hf h
    exact ⟨pg_nmE b.c.nd e1 e2 e3, rfl⟩
  | .tup is, fl, sc, X, a, b, hf, h => by
    simp only [chkT] at h
    split at h
    · exact ⟨pg_tupE b.c.hK b.c.calm b.c.nd (tgCs_of b hf h), rfl⟩
    · cases h
  | .sub i e, fl, sc, X, a, b, hf, h => by
    simp only [chkT] at h
    split at h
    · obtain ⟨h, h3⟩ := ba h
      obtain ⟨h1, h2⟩ := ba h
      exact ⟨pg_subE (snd_v b h1) (rV_of (sndE e b h3).1) h2, rfl⟩
    · cases h
  | .mix ts, fl, sc, X, a, b, hf, h => by
    simp only [chkT] at h
    split at h
    · obtain ⟨q1, q2, q3⟩ := sndTgs ts b hf h
      exact ⟨pg_mixE b.c.hK b.c.calm q1 q2 q3, rfl⟩
    · cases h
termination_by x => sizeOf x
decreasing_by all_goals (simp_wf; try omega)
theorem sndTgs : ∀ (ts : Tgs) {fl : Bool} {sc : Scope} {X : Cx} {as : List Expr}, Bod w S k N sc X → (fl = true → ∀ x, X.fn x = true) → chkTs S N fl sc ts as = true → PGs X as (gTs w ts) ∧ (assignEach as X.env).length = ts.len ∧ (assignEach as X.env).findIdx? (·.1) = none
  | .nil, fl, sc, X, as, b, hf, h => by
    simp only [chkTs] at h
    rw [List.isEmpty_iff.mp h]
    exact ⟨pgs_nil, rfl, rfl⟩
  | .cons t r, fl, sc, X, as, b, hf, h => by
    simp only [chkTs] at h
    split at h
    · rename_i a l
      obtain ⟨h, h3⟩ := ba h
      obtain ⟨h1, h2⟩ := ba h
      obtain ⟨q1, q2, q3⟩ := sndTgs r b hf h3
      have e : assignEach (a :: l) X.env = (false, assign a X.env) :: assignEach l X.env := by
        cases a <;> first | rfl | (simp [noStar] at h1)
      refine ⟨pgs_cons (sndTg t b hf h2).1 q1 (by rw [e]; rfl), ?_, ?_⟩
      · rw [e]
        show (assignEach l X.env).length + 1 = r.len + 1
        rw [q2]
      · rw [e, List.findIdx?_cons]
        simp [q3]
    · cases h
termination_by x => sizeOf x
decreasing_by all_goals (simp_wf; try omega)
theorem sndG : ∀ (gs : Gs) {sc0 sc1 : Scope} {X : Cx} {F : Shared → Hp → Addr → List (Str × Addr) → List Addr → Cx} {own : List Nat} {tg iter : Expr} {xs : List Expr}, Bod w S k N sc0 X → (∀ s H C cl fp, Bod w S k N sc1 (F s H C cl fp)) → chkG S N sc0 sc1 own gs tg iter xs = true →
    ∃ t it ifs pr, gs = .cons t it ifs .nil ∧ (∀ i ∈ t.slots, i ∈ own) ∧ (pr = true → t.tupB = true) ∧ PI X tg iter (rI w it pr) ∧ (∀ s H C cl fp, PG (F s H C cl fp) tg (rG w t)) ∧ (∀ s H C cl fp, PTs (F s H C cl fp) xs (rC w ifs)) ∧ notSet iter = true
  | .nil, sc0, sc1, X, F, own, tg, iter, xs, b, b1, h => by simp [chkG] at h
  | .cons t it ifs (.cons _ _ _ _), sc0, sc1, X, F, own, tg, iter, xs, b, b1, h => by simp [chkG] at h
  | .cons t it ifs .nil, sc0, sc1, X, F, own, tg, iter, xs, b, b1, h => by
    unfold chkG at h
    obtain ⟨h, h6⟩ := ba h
    obtain ⟨h, h5⟩ := ba h
    obtain ⟨h, h4⟩ := ba h
    obtain ⟨h, h3⟩ := ba h
    obtain ⟨h1, h2⟩ := ba h
    have hp : prOf it = true → t.tupB = true := fun z => by
      cases it <;> first | exact h2 | (simp [prOf] at z)
    have htg : prOf it = true → ∃ es kk p, tg = .Tuple es kk p := fun z => by
      have := hp z
      cases t with
      | tup is =>
        simp only [chkT] at h3
        split at h3
        · exact ⟨_, _, _, rfl⟩
        · cases h3
      | _ => simp [Tg.tupB] at this
    obtain ⟨q1, q2⟩ := sndI it b h4 htg
    refine ⟨t, it, ifs, prOf it, rfl, fun i hi => ?_, hp, q1, fun s H C cl fp => (sndTg t (b1 s H C cl fp) (fun z => by cases z) h3).1, fun s H C cl fp => ?_, q2⟩
    · simpa using List.all_eq_true.mp h1 i hi
    · exact sndIfs ifs (b1 s H C cl fp) h6 (of_decide_eq_true h5)
termination_by x => sizeOf x
decreasing_by all_goals (simp_wf; try omega)
theorem sndIfs : ∀ (ifs : Es) {sc : Scope} {X : Cx} {xs : List Expr}, Bod w S k N sc X → chkEs S N sc ifs xs = true → xs.length ≤ 1 → PTs X xs (rC w ifs)
  | .nil, sc, X, xs, b, h, _ => by
    simp only [chkEs] at h
    rw [List.isEmpty_iff.mp h]
    exact pts_nilE
  | .cons e .nil, sc, X, xs, b, h, hl => by
    match xs, h, hl with
    | [], h, _ => simp [chkEs] at h
    | _ :: _ :: _, _, hl => simp at hl
    | [x], h, _ =>
      simp only [chkEs] at h
      obtain ⟨h, _⟩ := ba h
      obtain ⟨_, h⟩ := ba h
      by_cases hp : plainE e = true
      · rw [if_pos hp] at h
        exact pts_oneE (sndE e b h).2.1
      · exact pts_never hp
  | .cons e (.cons _ _), sc, X, xs, b, h, hl => by
    match xs, h, hl with
    | [], h, _ => simp [chkEs] at h
    | _ :: _ :: _, _, hl => simp at hl
    | [x], h, _ => simp [chkEs] at h
  | .cons e (.star _ _), sc, X, xs, b, h, hl => by
    match xs, h, hl with
    | [], h, _ => simp [chkEs] at h
    | _ :: _ :: _, _, hl => simp at hl
    | [x], h, _ => simp [chkEs] at h
  | .star e r, sc, X, xs, b, h, hl => pts_starNever
termination_by x => sizeOf x
decreasing_by all_goals (simp_wf; try omega)
end
end
end Py
end

section
set_option maxRecDepth 100000
set_option maxHeartbeats 8000000
/-! The check of statements. -/
namespace Py
open PySem PySem.Spec PyProof.Rows L2
def notPair (t x : Expr) : Bool := match t, x with
  | .Tuple _ _ _, .Tuple _ _ _ => false
  | .List _ _, .Tuple _ _ _ => false
  | _, _ => true
theorem pair_no {t x : Expr} {env : PySem.Env} (h : notPair t x = true) : swappedStores [t] x env = pure none := by
  cases t <;> cases x <;> first | rfl | (simp [notPair] at h; done)
def nmOf : Tgs → Option (List Nat)
  | .nil => some []
  | .cons (.nm i) r => (nmOf r).map (i :: ·)
  | .cons _ _ => none
theorem nmOf_eq : ∀ {ts : Tgs} {is : List Nat}, nmOf ts = some is → ts = nms is
  | .nil, is, h => by simp only [nmOf] at h; cases h; rfl
  | .cons t r, is, h => by
    cases t <;> simp only [nmOf, reduceCtorEq, Option.map_eq_some_iff] at h
    obtain ⟨l, h1, rfl⟩ := h
    rw [nmOf_eq h1]
    rfl
/-- the lines of names -/
def linesB : List Expr → Bool
  | [.Name _ p, .Name _ q] => q.line == p.line
  | [.Name _ p, .Name _ q, .Name _ r] => q.line == p.line && r.line == p.line
  | _ => false
/-- what swappedStores looks at -/
def pairB (sc : Scope) (ts vs : List Expr) : Bool :=
  linesB ts && decide (vs.length = ts.length) && decide (sc.kind = .function) && vs.all noStar && !(vs.all (foldedForSure 8)) && !(vs.all (constantsAlone 8))
mutual
def chkS (S : Src) (N : List Str) (sc : Scope) : St → Stmt → Bool
  | .asg t e, s => (match s with
    | .Assign [tg] x _ => noStar tg && notComp x && notPair tg x && chkT S N true sc t tg && chkE S N sc e x
    | _ => false) || (match t, e, s with
    | .nm i, .cmpr el own gs, .Assign [.Name y py] (.ListComp elt [⟨tg, iter, xs, n⟩] scope lpos) _ => decide (n = 0) && tgName N sc i (.Name y py) && decide (sc.kind = .function) && (py.line == lpos.line) && !(scope.names.any fun (n, k) => n == y && (k == .local || k == .cell)) &&
        decide ((ownOf N own).map (·.2) = own) && blkC N sc scope (ownOf N own) && chkG S N sc (relS scope sc) own gs tg iter xs && chkE S N (relS scope sc) el elt
    | _, _, _ => false)
  | .par ts es, s => (match s with
    | .Assign [.Tuple tl _ _] (.Tuple as _ _) _ => (match nmOf ts with
      | some is => decide is.Nodup && tgNames N sc is tl && pairB sc tl as && noPk es && noStarE es && chkEs S N sc es as
      | none => false)
    | _ => false)
  | .exp e, s => (match s with
    | .Expr x _ => notComp x && chkE S N sc e x
    | _ => false)
  | .ret (.nm i), s => (match s with
    | .Return (some x) _ => chkV N sc i x
    | _ => false)
  | .ret e, s => (match s with
    | .Return (some x) _ => chkE S N sc e x
    | _ => false)
  | .iff c a b, s => (match s with
    | .If xc xa xb _ => chkE S N sc c xc && chkSs S N sc a xa && chkSs S N sc b xb
    | _ => false)
  | .for_ t it body _, s => (match s with
    | .For tg iter xb [] _ => (match it with
        | .enu _ => t.tupB
        | _ => true) && chkT S N true sc t tg && chkI S N sc it iter && chkSs S N sc body xb
    | _ => false)
  | .rai _ _, _ => true
  | .pss, s => (match s with
    | .Pass _ => true
    | _ => false)
  | .cont, s => (match s with
    | .Continue _ => true
    | _ => false)
  | .brk, s => (match s with
    | .Break _ => true
    | _ => false)
  | _, _ => false
def chkSs (S : Src) (N : List Str) (sc : Scope) : Ss → List Stmt → Bool
  | .nil, l => l.isEmpty
  | .cons a r, l => (match l with
    | x :: xs => chkS S N sc a x && chkSs S N sc r xs
    | [] => false)
end
end Py
end

section
set_option maxRecDepth 100000
set_option maxHeartbeats 8000000
/-! The check of statements is sound. -/
namespace Py
open PySem PySem.Spec PyProof.Rows L2
section
variable {w : Wd} {S : Src} {k : Nat} {N : List Str} {sc : Scope} {X : Cx}
theorem ps_asgComp (b : Bod w S k N sc X) {i : Nat} {el : E} {own : List Nat} {gs : Gs} {y : Str} {py lpos pos : Pos} {elt tg iter : Expr} {xs : List Expr} {scope : Scope} (h1 : tgName N sc i (.Name y py) = true) (h2 : sc.kind = .function) (h3 : (py.line == lpos.line) = true) (h4 : (scope.names.any fun (n, k) => n == y && (k == .local || k == .cell)) = false)
    (h5 : (ownOf N own).map (·.2) = own) (h6 : blkC N sc scope (ownOf N own) = true) (h7 : chkG S N sc (relS scope sc) own gs tg iter xs = true) (h8 : chkE S N (relS scope sc) el elt = true) :
    PS X (.Assign [.Name y py] (.ListComp elt [⟨tg, iter, xs, 0⟩] scope lpos) pos) (rS w (.asg (.nm i) (.cmpr el own gs))) := by
  obtain ⟨e1, e2⟩ := tgName_of b h1
  obtain ⟨t, it, ifs, pr, rfl, g1, g2, g3, g4, g5, g6⟩ := sndG gs b (fun s H C cl fp => b.blk s H scope cl C fp) h7
  exact ps_lcE b.c h5 g1 g2 e1 e2 (sw_true (by rw [b.s]; exact h2) e2 h3 h4) (own_blk b h6) g3 g4 g5 (fun s H C cl fp => rV_of (sndE el (b.blk s H scope cl C fp) h8).1) g6
theorem ret_ne {e : E} : (∃ i, e = .nm i) ∨ ∀ i, e ≠ .nm i := by
  cases e <;> first | exact .inl ⟨_, rfl⟩ | exact .inr fun i z => by cases z
theorem chkS_ret {e : E} {s : Stmt} (n : ∀ i, e ≠ .nm i) (h : chkS S N sc (.ret e) s = true) : ∃ x p, s = .Return (some x) p ∧ chkE S N sc e x = true := by
  cases e <;> first
    | exact absurd rfl (n _)
    | (simp only [chkS] at h
       split at h
       · exact ⟨_, _, rfl, h⟩
       · cases h)
theorem swap2 {env : PySem.Env} {x y : Str} {px py pt p2 : Pos} {a b : Expr} {kt k2 : Nat} (hb : env.blockKind = .function) (hx : env.kindOf x = some .local) (hy : env.kindOf y = some .local) (hl : (py.line == px.line) = true) (hxy : x ≠ y) (ha : noStar a = true) (hb' : noStar b = true)
    (h1 : ([a, b].all (foldedForSure 8)) = false) (h2 : ([a, b].all (constantsAlone 8)) = false) : swappedStores [.Tuple [.Name x px, .Name y py] kt pt] (.Tuple [a, b] k2 p2) env = pure (some [x, y]) := by
  have hl' : py.line = px.line := by simpa using hl
  unfold swappedStores
  simp only [pure_bind, hb, List.length_cons, List.length_nil]
  rw [if_neg (by decide)]
  rw [if_neg (by
    rw [Bool.not_eq_true, List.any_eq_false]
    intro e he
    have hn : noStar e = true := by
      rcases List.mem_cons.mp he with rfl | he
      · exact ha
      · rw [List.mem_singleton.mp he]; exact hb'
    cases e <;> first | (simp [noStar] at hn; done) | simp)]
  have hd : ([x, y] : List Str).eraseDups = [x, y] := by
    rw [List.eraseDups_cons]
    have : (List.filter (fun b => !b == x) [y]) = [y] := by
      simp [Ne.symm hxy]
    rw [this]
    simp [List.eraseDups_cons]
  simp [hx, hy, hl', Expr.pos, hd, h1, h2]
theorem swap3 {env : PySem.Env} {x y z : Str} {px py pz pt p2 : Pos} {a b c : Expr} {kt k2 : Nat} (hb : env.blockKind = .function) (hx : env.kindOf x = some .local) (hy : env.kindOf y = some .local) (hz : env.kindOf z = some .local) (hl : (py.line == px.line) = true) (hm : (pz.line == px.line) = true) (hxy : x ≠ y) (hxz : x ≠ z) (hyz : y ≠ z) (hn : [a, b, c].all noStar = true)
    (h1 : ([a, b, c].all (foldedForSure 8)) = false) (h2 : ([a, b, c].all (constantsAlone 8)) = false) : swappedStores [.Tuple [.Name x px, .Name y py, .Name z pz] kt pt] (.Tuple [a, b, c] k2 p2) env = pure (some [x, y, z]) := by
  have hl' : py.line = px.line := by simpa using hl
  have hm' : pz.line = px.line := by simpa using hm
  unfold swappedStores
  simp only [pure_bind, hb, List.length_cons, List.length_nil]
  rw [if_neg (by decide)]
  rw [if_neg (by
    rw [Bool.not_eq_true, List.any_eq_false]
    intro e he
    have hn : noStar e = true := List.all_eq_true.mp hn e he
    cases e <;> first | (simp [noStar] at hn; done) | simp)]
  have hd : ([x, y, z] : List Str).eraseDups = [x, y, z] := by
    rw [List.eraseDups_cons]
    have e1 : (List.filter (fun b => !b == x) [y, z]) = [y, z] := by
      simp [Ne.symm hxy, Ne.symm hxz]
    rw [e1, List.eraseDups_cons]
    have e2 : (List.filter (fun b => !b == y) [z]) = [z] := by
      simp [Ne.symm hyz]
    rw [e2]
    simp [List.eraseDups_cons]
  simp [hx, hy, hz, hl', hm', Expr.pos, hd, h1, h2]
theorem names_ne {x y : Str} {i j : Nat} (hN : X.N.Nodup) (h1 : X.N[i]? = some x) (h2 : X.N[j]? = some y) (h : i ≠ j) : x ≠ y := fun e => h (nodup_ix hN h1 (e ▸ h2))
theorem ps_parE (b : Bod w S k N sc X) {is : List Nat} {es : Es} {tl as : List Expr} {kt k2 : Nat} {pt p2 pos : Pos} (h1 : is.Nodup) (h2 : tgNames N sc is tl = true) (h3 : linesB tl = true) (h4 : as.length = tl.length) (h5 : sc.kind = .function) (h6 : as.all noStar = true) (h7 : as.all (foldedForSure 8) = false) (h8 : as.all (constantsAlone 8) = false) (ha : PA X as (tP w es)) : PS X (.Assign [.Tuple tl kt pt] (.Tuple as k2 p2) pos) (rS w (.par (nms is) es)) := by
  have hb : X.env.blockKind = .function := by
    unfold Env.blockKind
    rw [b.s, h5]
    rfl
  unfold linesB at h3
  split at h3
  · rename_i x px y py
    rcases is with _ | ⟨i, _ | ⟨j, _ | ⟨m, is⟩⟩⟩
    · simp [tgNames] at h2
    · simp [tgNames] at h2
    · simp only [tgNames] at h2
      obtain ⟨g1, g2⟩ := ba h2
      obtain ⟨g2, _⟩ := ba g2
      obtain ⟨a1, a2⟩ := tgName_of b g1
      obtain ⟨b1, b2⟩ := tgName_of b g2
      have hij : i ≠ j := by
        intro z; subst z; simp at h1
      rcases as with _ | ⟨a, _ | ⟨c, _ | ⟨d, as⟩⟩⟩
      · simp at h4
      · simp at h4
      · simp only [List.all_cons, List.all_nil, Bool.and_true] at h6
        obtain ⟨n1, n2⟩ := ba h6
        exact ps_par2E b.c.calm b.c.nd ⟨a1, a2⟩ ⟨b1, b2⟩ hij ha (swap2 hb a2 b2 h3 (names_ne b.c.nd a1 b1 hij) n1 n2 h7 h8)
      · simp at h4
    · simp [tgNames] at h2
  · rename_i x px y py z pz
    obtain ⟨l1, l2⟩ := ba h3
    rcases is with _ | ⟨i, _ | ⟨j, _ | ⟨m, _ | ⟨m2, is⟩⟩⟩⟩
    · simp [tgNames] at h2
    · simp [tgNames] at h2
    · simp [tgNames] at h2
    · simp only [tgNames] at h2
      obtain ⟨g1, g2⟩ := ba h2
      obtain ⟨g2, g3⟩ := ba g2
      obtain ⟨g3, _⟩ := ba g3
      obtain ⟨a1, a2⟩ := tgName_of b g1
      obtain ⟨b1, b2⟩ := tgName_of b g2
      obtain ⟨c1, c2⟩ := tgName_of b g3
      have hij : i ≠ j := by intro z; subst z; simp at h1
      have him : i ≠ m := by intro z; subst z; simp at h1
      have hjm : j ≠ m := by intro z; subst z; simp at h1
      rcases as with _ | ⟨a, _ | ⟨c, _ | ⟨d, _ | ⟨e, as⟩⟩⟩⟩
      · simp at h4
      · simp at h4
      · simp at h4
      · exact ps_par3E b.c.calm b.c.nd ⟨a1, a2⟩ ⟨b1, b2⟩ ⟨c1, c2⟩ hij him hjm ha (swap3 hb a2 b2 c2 l1 l2 (names_ne b.c.nd a1 b1 hij) (names_ne b.c.nd a1 c1 him) (names_ne b.c.nd b1 c1 hjm) h6 h7 h8)
      · simp at h4
    · simp [tgNames] at h2
  · cases h3
mutual
theorem sndS : ∀ (a : St) {s : Stmt}, Bod w S k N sc X → PassesOwn (model X.prog X.w) X.A X.env X.xe → (∀ x, X.fn x = true) → chkS S N sc a s = true → PS X s (rS w a)
  | .asg t e, s, b, hp, hf, h => by
    simp only [chkS, Bool.or_eq_true] at h
    rcases h with h | h
    · split at h
      · obtain ⟨h, h5⟩ := ba h
        obtain ⟨h, h4⟩ := ba h
        obtain ⟨h, h3⟩ := ba h
        obtain ⟨h1, h2⟩ := ba h
        exact ps_asgE (sndE e b h5).1 (sndTg t b (fun _ => hf) h4).1 h2 (pair_no h3) h1
      · cases h
    · split at h
      · obtain ⟨h, h9⟩ := ba h
        obtain ⟨h, h8⟩ := ba h
        obtain ⟨h, h7⟩ := ba h
        obtain ⟨h, h6⟩ := ba h
        obtain ⟨h, h5⟩ := ba h
        obtain ⟨h, h4⟩ := ba h
        obtain ⟨h, h3⟩ := ba h
        obtain ⟨h1, h2⟩ := ba h
        have h1 := of_decide_eq_true h1
        subst h1
        exact ps_asgComp b h2 (of_decide_eq_true h3) h4 (by simpa using h5) (of_decide_eq_true h6) h7 h8 h9
      · cases h
  | .par ts es, s, b, hp, hf, h => by
    simp only [chkS] at h
    split at h
    · split at h
      · rename_i is hi
        obtain ⟨h, h6⟩ := ba h
        obtain ⟨h, h5⟩ := ba h
        obtain ⟨h, h4⟩ := ba h
        obtain ⟨h, h3⟩ := ba h
        obtain ⟨h1, h2⟩ := ba h
        rw [nmOf_eq hi]
        obtain ⟨h3, h3e⟩ := ba h3
        obtain ⟨h3, h3d⟩ := ba h3
        obtain ⟨h3, h3c⟩ := ba h3
        obtain ⟨h3, h3b⟩ := ba h3
        obtain ⟨h3, h3a⟩ := ba h3
        exact ps_parE b (of_decide_eq_true h1) h2 h3 (by simpa using h3a) (of_decide_eq_true h3b) h3c (by simpa using h3d) (by simpa using h3e) ((sndEs es b h6).tp h4 h5)
      · cases h
    · cases h
  | .exp e, s, b, hp, hf, h => by
    simp only [chkS] at h
    split at h
    · obtain ⟨h1, h2⟩ := ba h
      exact ps_expE (sndE e b h2).1 h1
    · cases h
  | .ret e, s, b, hp, hf, h => by
    rcases ret_ne (e := e) with ⟨i, rfl⟩ | n
    · simp only [chkS] at h
      split at h
      · exact ps_retnE (snd_v b h)
      · cases h
    · obtain ⟨x, p, rfl, h2⟩ := chkS_ret n h
      exact ps_retE n (sndE e b h2).1
  | .iff c x y, s, b, hp, hf, h => by
    simp only [chkS] at h
    split at h
    · obtain ⟨h, h3⟩ := ba h
      obtain ⟨h1, h2⟩ := ba h
      exact ps_ifE (sndE c b h1).2.1 (sndSs x b hp hf h2) (sndSs y b hp hf h3)
    · cases h
  | .for_ t it body fg, s, b, hp, hf, h => by
    unfold chkS at h
    split at h
    · rename_i tg iter xb pos
      obtain ⟨h, h4⟩ := ba h
      obtain ⟨h, h3⟩ := ba h
      obtain ⟨h1, h2⟩ := ba h
      have hpr : prOf it = true → t.tupB = true := fun z => by
        cases it <;> first | exact h1 | (simp [prOf] at z)
      have htg : prOf it = true → ∃ es kk p, tg = .Tuple es kk p := fun z => by
        have := hpr z
        cases t with
        | tup is =>
          simp only [chkT] at h2
          split at h2
          · exact ⟨_, _, _, rfl⟩
          · cases h2
        | _ => simp [Tg.tupB] at this
      obtain ⟨q1, q2⟩ := sndI it b h3 htg
      exact ps_forE hpr hp b.c.calm q1 (sndTg t b (fun _ => hf) h2).1 (sndSs body b hp hf h4) q2
    · cases h
  | .rai c es, s, b, hp, hf, h => ps_raiseE
  | .pss, s, b, hp, hf, h => by
    simp only [chkS] at h
    split at h
    · exact ps_passE
    · cases h
  | .cont, s, b, hp, hf, h => by
    simp only [chkS] at h
    split at h
    · exact ps_contE
    · cases h
  | .brk, s, b, hp, hf, h => by
    simp only [chkS] at h
    split at h
    · exact ps_breakE
    · cases h
  | .whl _ _ _, s, b, hp, hf, h => by simp [chkS] at h
  | .tryx _ _ _ _, s, b, hp, hf, h => by simp [chkS] at h
termination_by x => sizeOf x
decreasing_by all_goals (simp_wf; try omega)
theorem sndSs : ∀ (a : Ss) {l : List Stmt}, Bod w S k N sc X → PassesOwn (model X.prog X.w) X.A X.env X.xe → (∀ x, X.fn x = true) → chkSs S N sc a l = true → PSs X l (rSs w a)
  | .nil, l, b, hp, hf, h => by
    simp only [chkSs] at h
    rw [List.isEmpty_iff.mp h]
    exact pss_nilE
  | .cons a r, l, b, hp, hf, h => by
    simp only [chkSs] at h
    split at h
    · obtain ⟨h1, h2⟩ := ba h
      exact pss_consE (sndS a b hp hf h1) (sndSs r b hp hf h2)
    · cases h
termination_by x => sizeOf x
decreasing_by all_goals (simp_wf; try omega)
end
end
end Py
end

section
set_option maxRecDepth 100000
set_option maxHeartbeats 1000000
/-! All defs and lambdas of a module keep their promises. -/
namespace Py
open PySem PySem.Spec PyProof.Rows L2
theorem permute_map : ∀ {perm : List Nat} {us ws : List Value}, permute us perm = some ws → ws = perm.map fun i => us.getD i .none
  | [], us, ws, h => by
    simp only [permute] at h
    cases h
    rfl
  | i :: r, us, ws, h => by
    simp only [permute, Option.bind_eq_some_iff, Option.map_eq_some_iff] at h
    obtain ⟨t, h1, ys, h2, rfl⟩ := h
    rw [List.map_cons, ← permute_map h2]
    simp [List.getD, h1]
/-- what a lambda's text must be -/
def lamB (S : Src) (p : Prog) (nm : Nat → Option (List Str)) (f : Nat) (params : Arguments) (body : Expr) (scope : Scope) : Bool := match p.fn f, nm f with
  | some d, some N => (match d.body with
    | .cons (.ret e) .nil => notNm e && decide (N.length = d.ns) && decide ((N.take d.np).length = d.np) && plainPar params (N.take d.np) && C8.scC N (N.take d.np) scope && chkE S N scope e body
    | _ => false)
  | _, _ => false
/-- lambdas make no lambdas -/
def Src.low (S : Src) : Src := { S with mkr := false, lam := fun _ _ _ _ => false }
/-- of the module: lambdas are those of these texts -/
def Src.of (p : Prog) (nm : Nat → Option (List Str)) (fn glo : List Str) (kws : List (Nat × List Str × List Nat)) : Src := ⟨fn, glo, kws, lamB ⟨fn, glo, kws, fun _ _ _ _ => false, false⟩ p nm, false⟩
def kwOk (S : Src) (f : Nat) (ps : List Str) : Bool := S.kws.all fun q => !(q.1 == f) || kwPerm ps q.2.1 q.2.2
/-- a def's text is what the IR says -/
structure DefAt (I : KI) (TT : Tabs) (cs : List (Addr × Addr)) (S : Src) (p : Prog) (nm : Nat → Option (List Str)) (K : PySem.W.Frag) (mg : Str → Option Value) (f : Nat) (x : Str) : Prop where
  ex : ∃ (a : Addr) (d : Fn) (name qual : Str) (params : Arguments) (body : List Stmt) (scope : Scope) (kV doc pm cdv ct oc : Value) (an od : Option Addr) (osl : Array (Option Value)) (N : List Str) (mk : Bool),
    p.fn f = some d ∧ nm f = some N ∧ mg x = some (.ref a) ∧ PySem.W.keepIn K (.ref a) = true ∧ I.fadr f = some a ∧ K.lookup a = some ⟨oc, od, .func (PySem.W.fnOf name qual params body scope .none kV doc pm an cdv ct), osl⟩ ∧ PySem.W.codeIn K cdv qual = true ∧ FnScope N (N.take d.np) scope ∧
    N.length = d.ns ∧ (N.take d.np).length = d.np ∧ chkSs { S with mkr := mk } N scope d.body body = true ∧ plainPar params (N.take d.np) = true ∧ kwOk S f (N.take d.np) = true ∧
    (mk = true → ∃ c M nm, cdv = .ref c ∧ (c, M) ∈ cs ∧ (M, nm) ∈ TT ∧ (∀ l k, nm l k = (qual ++ ".<locals>.") ++ "<lambda>") ∧ ∀ q ∈ TT, q.1 = M → q.2 = nm)
def CalAt (I : KI) (TT : Tabs) (S : Src) (p : Prog) (nm : Nat → Option (List Str)) (P : Program) (w : World) (K : PySem.W.Frag) (mg : Str → Option Value) (base : Heap) (n f : Nat) (x : Str) : Prop :=
  ∃ a fd ps, (∃ oc od osl d N, K.lookup a = some ⟨oc, od, .func fd, osl⟩ ∧ nm f = some N ∧ p.fn f = some d ∧ ps = N.take d.np) ∧ mg x = some (.ref a) ∧ PySem.W.keepIn K (.ref a) = true ∧ I.fadr f = some a ∧ FnOk P w K mg base CX0 n a fd ps (fun vs H Q _ => spC (wdOf I TT [] H p n) f vs H Q) ∧ Binds K fd ps [] ∧
    ∀ ks perm, (f, ks, perm) ∈ S.kws → ∀ us ws, us.length = ks.length → permute us perm = some ws → bindArgs fd ⟨[], ks.zip us⟩ = pure (ps.zip ws)
def LamAt (I : KI) (TT : Tabs) (p : Prog) (P : Program) (w : World) (K : PySem.W.Frag) (mg : Str → Option Value) (base : Heap) (n : Nat) : Prop :=
  ∀ f L, I.lam f L → L.cl = [] ∧ ∃ ps, ∀ a, LOk P w K mg base CX0 n a L ps (fun vs H Q _ => spC (wdOf I TT [] H p n) f vs H Q)
theorem LOk.imp {P : Program} {w : World} {K : PySem.W.Frag} {mg : Str → Option Value} {base : Heap} {CX : CXT} {k : Nat} {f : Addr} {L : LF} {ps : List Str} {sp sp' : Sp} (h : LOk P w K mg base CX k f L ps sp) (m : ∀ vs H Q E, sp' vs H Q E → sp vs H Q E) : LOk P w K mg base CX k f L ps sp' :=
  ⟨fun A outer s H us vs Q E hr e0 hf hc r q => h.run A outer s H us vs Q E hr e0 hf hc r (m _ _ _ _ q)⟩
theorem defs_keep {I : KI} {TT : Tabs} {cs : List (Addr × Addr)} {S : Src} {p : Prog} {nm : Nat → Option (List Str)} {P : Program} {w : World} {K : PySem.W.Frag} {mg : Str → Option Value} {base : Heap} (hK : I.K = K) (hb : ∀ x ∈ bltNames, mg x = none)
    (hg : ∀ g x t, S.glo[g]? = some x → p.glo g = some t → ∃ v u, mg x = some u ∧ RelV v u ∧ ∀ G, Rep I G v t) (gf : ∀ f, I.gf f = none) (nl : ∀ f, I.lamNames f = []) (il : ∀ f L, I.lam f L ↔ L.cl = [] ∧ S.lam f L.params L.body L.scope = true) (hl : S.lam = lamB S.low p nm)
    (TB : ∀ q ∈ cs, LamX.TabB base mg q.1 q.2) (hd : ∀ f x, S.fn[f]? = some x → DefAt I TT cs S p nm K mg f x) : ∀ n, (∀ f x, S.fn[f]? = some x → CalAt I TT S p nm P w K mg base n f x) ∧ LamAt I TT p P w K mg base n := by
  intro n
  have no : ∀ f vs H Q, ¬ spC (wdOf I TT [] H p 0) f vs H Q := fun f vs H Q h => by
    obtain ⟨G, as, fp, s, r, outs, hr, _⟩ := h
    have hr : run p 0 f as = .ok r outs := hr
    rw [run] at hr
    cases hr
  have kw : ∀ {f : Nat} {ps : List Str} {fd : FuncData}, kwOk S f ps = true → plainPar fd.params ps = true → fd.defaults = .none → ∀ ks perm, (f, ks, perm) ∈ S.kws → ∀ us ws, us.length = ks.length → permute us perm = some ws → bindArgs fd ⟨[], ks.zip us⟩ = pure (ps.zip ws) := fun {f ps fd} h1 h2 h3 ks perm hm us ws hlen hp => by
    have := List.all_eq_true.mp h1 _ hm
    simp only [beq_self_eq_true, Bool.not_true, Bool.false_or] at this
    exact bind_kws h2 h3 this hlen (permute_map hp)
  induction n with
  | zero =>
    refine ⟨fun f x hf => ?_, fun f L hL => ⟨((il f L).mp hL).1, [], fun a => ⟨fun A outer s H us vs Q E hr e0 hf hc r h => (no f vs H Q h).elim⟩⟩⟩
    obtain ⟨a, d, name, qual, params, body, scope, kV, doc, pm, cdv, ct, oc, an, od, osl, N, mk, h1, h0, h2, h3, h4, h5, h6, h7, h8, h9, h10, h11, h12, h13⟩ := (hd f x hf).ex
    exact ⟨a, _, N.take d.np, ⟨_, _, _, d, N, h5, h0, h1, rfl⟩, h2, h3, h4, ⟨fun vs H Q E h => (no f vs H Q h).elim, fun A outer s H args us vs Q E hr he hbt hv h => (no f vs H Q h).elim⟩, .all fun us hlen => bind_pos h11 rfl hlen, fun ks perm hm us ws e1 e2 => kw (fd := PySem.W.fnOf name qual params body scope .none kV doc pm an cdv ct) h12 h11 rfl ks perm hm us ws e1 e2⟩
  | succ n ih =>
    obtain ⟨ihF, ihL⟩ := ih
    have fnC : ∀ {X : Cx} {vs : List V} {H : Hp}, X.prog = P → X.w = w → X.K = K → X.mg = mg → X.base = base → ∀ f x, S.fn[f]? = some x → ∃ a fd ps, X.mg x = some (.ref a) ∧ PySem.W.keepIn X.K (.ref a) = true ∧ (wdOf I TT vs H p n).I.fadr f = some a ∧ FnOk X.prog X.w X.K X.mg X.base CX0 n a fd ps (fun vs' H' Q _ => spC (wdOf I TT vs H p n) f vs' H' Q) ∧ Binds X.K fd ps [] ∧
        ∀ ks perm, (f, ks, perm) ∈ S.kws → ∀ us ws, us.length = ks.length → permute us perm = some ws → bindArgs fd ⟨[], ks.zip us⟩ = pure (ps.zip ws) := fun {X vs H} e1 e2 e3 e4 e5 f x hf => by
      subst e1 e2 e3 e4 e5
      obtain ⟨a, fd, ps, _, e1, e2, e3, e4, e5, e6⟩ := ihF f x hf
      exact ⟨a, fd, ps, e1, e2, e3, e4.imp fun _ _ _ _ h => h, e5, e6⟩
    have lamC : ∀ {vs : List V} {H : Hp}, ∀ f L, (wdOf I TT vs H p n).I.lam f L → L.cl = [] ∧ ∃ ps, ∀ a, LOk P w K mg base CX0 n a L ps (fun vs' H' Q _ => spC (wdOf I TT vs H p n) f vs' H' Q) := fun {vs H} f L hL => by
      obtain ⟨h1, ps, h2⟩ := ihL f L hL
      exact ⟨h1, ps, fun a => (h2 a).imp fun _ _ _ _ h => h⟩
    refine ⟨fun f x hf => ?_, fun f L hL => ?_⟩
    · obtain ⟨a, d, name, qual, params, body, scope, kV, doc, pm, cdv, ct, oc, an, od, osl, N, mk, h1, h0, h2, h3, h4, h5, h6, h7, h8, h9, h10, h11, h12, h13⟩ := (hd f x hf).ex
      refine ⟨a, _, N.take d.np, ⟨_, _, _, d, N, h5, h0, h1, rfl⟩, h2, h3, h4, fn_keeps h1 h5 h6 h7 h8 h9 fun A outer s H vs E hr => ?_, .all fun us hlen => bind_pos h11 rfl hlen, fun ks perm hm us ws e1 e2 => kw (fd := PySem.W.fnOf name qual params body scope .none kV doc pm an cdv ct) h12 h11 rfl ks perm hm us ws e1 e2⟩
      refine sndSs (k := n) d.body (S := { S with mkr := mk }) (N := N) (sc := scope) ⟨⟨hK, rfl, h7.nd, hr, hb, fnC rfl rfl rfl rfl rfl, hg, gf, nl, lamC, fun f params body scope qual c z => (il f _).mpr ⟨rfl, z⟩, fun z => ?_⟩, rfl, rfl⟩ (passes_of rfl) (fun _ => rfl) h10
      obtain ⟨c, M, nm, e1, e2, e3, e4, e5⟩ := h13 z
      exact ⟨c, M, nm, e1, TB _ e2, e3, e4, e5⟩
    · obtain ⟨hcl, z⟩ := (il f L).mp hL
      refine ⟨hcl, ?_⟩
      rw [hl] at z
      unfold lamB at z
      split at z
      · rename_i d N hd1 hN
        split at z
        · rename_i e hbd
          simp only [Bool.and_eq_true, decide_eq_true_eq] at z
          obtain ⟨⟨⟨⟨⟨z1, z2⟩, z3⟩, z4⟩, z5⟩, z6⟩ := z
          have sc := C8.fnScope_by z5
          refine ⟨N.take d.np, fun a => lam_keeps hd1 hbd z1 sc hcl z2 z3 z4 fun A outer s H vs E hr => ?_⟩
          have C : Ctx (wdOf I TT vs H p n) S.low n (cxOf CX0 P w K mg base N L.qual L.scope a (.ref L.c) A outer s H E) :=
            { hK := hK, calm := rfl, nd := sc.nd, room := hr, blt := hb, fn := fnC rfl rfl rfl rfl rfl, glo := hg, gf := gf, nl := nl, lam := lamC, mkl := fun f params body scope qual c z => (by cases (show false = true from z)), tab := fun z => by cases (show false = true from z) }
          exact (sndE (k := n) e (S := S.low) (N := N) (sc := L.scope) ⟨C, rfl, rfl⟩ z6).1
        · cases z
      · cases z
end Py
end

section
set_option maxRecDepth 100000
set_option maxHeartbeats 1000000
/-! What the head's look must say; the law's end. -/
namespace Py
open PySem PySem.Spec PyProof.Rows L2
/-- a constant -/
def repB (K : PySem.W.Frag) : Nat → Value → T → Bool
  | _, .int i _, .int j => decide (i = j)
  | _, .str s _, .str l => decide (s.cps.toList = l)
  | _, .bool b, .bl c => b == c
  | _, .none, .non => true
  | n + 1, .ref a, .tup ts => (match K.lookup a with
    | some ⟨.type c, none, .seq its _, _⟩ => decide (c = "tuple") && Nat.ble its.size 10000 && decide (its.toList.length = ts.length) && (its.toList.zip ts).all fun q => repB K n q.1 q.2
    | _ => false)
  | _, _, _ => false
theorem repB_ok {K : PySem.W.Frag} : ∀ {n : Nat} {u : Value} {t : T}, repB K n u t = true → ∃ v, RelV v u ∧ ∀ (I : KI) (G : Hp), I.K = K → Rep I G v t := by
  intro n
  induction n with
  | zero =>
    intro u t h
    cases u <;> cases t <;> first
      | (simp [repB] at h; done)
      | (simp only [repB, decide_eq_true_eq] at h; subst h; first | exact ⟨.int _, ⟨_, rfl⟩, fun I G _ => .int _⟩ | exact ⟨.str _, ⟨_, rfl⟩, fun I G _ => .str _⟩)
      | (simp only [repB, beq_iff_eq] at h; subst h; exact ⟨.bl _, rfl, fun I G _ => .bl _⟩)
      | exact ⟨.non, rfl, fun I G _ => .non⟩
  | succ n ih =>
    intro u t h
    cases u <;> cases t <;> first
      | (simp [repB] at h; done)
      | (simp only [repB, decide_eq_true_eq] at h; subst h; first | exact ⟨.int _, ⟨_, rfl⟩, fun I G _ => .int _⟩ | exact ⟨.str _, ⟨_, rfl⟩, fun I G _ => .str _⟩)
      | (simp only [repB, beq_iff_eq] at h; subst h; exact ⟨.bl _, rfl, fun I G _ => .bl _⟩)
      | exact ⟨.non, rfl, fun I G _ => .non⟩
      | skip
    rename_i a ts
    rw [repB] at h
    split at h
    · rename_i c its m sl hk
      simp only [Bool.and_eq_true, decide_eq_true_eq] at h
      obtain ⟨⟨⟨h1, h2⟩, h3⟩, h4⟩ := h
      have key : ∀ (us : List Value) (ts : List T), us.length = ts.length → (us.zip ts).all (fun q => repB K n q.1 q.2) = true → ∃ vs, Vals vs us ∧ ∀ (I : KI) (G : Hp), I.K = K → Reps I G vs ts := by
        intro us
        induction us with
        | nil =>
          intro ts hl _
          cases ts with
          | nil => exact ⟨[], .nil, fun _ _ _ => .nil⟩
          | cons _ _ => cases hl
        | cons u us ihu =>
          intro ts hl ha
          cases ts with
          | nil => cases hl
          | cons t ts =>
            rw [List.zip_cons_cons, List.all_cons, Bool.and_eq_true] at ha
            obtain ⟨v, r1, r2⟩ := ih ha.1
            obtain ⟨vs, s1, s2⟩ := ihu ts (by simpa using hl) ha.2
            exact ⟨v :: vs, .cons r1 s1, fun I G e => .cons (r2 I G e) (s2 I G e)⟩
      obtain ⟨vs, r1, r2⟩ := key _ _ h3 h4
      refine ⟨.ref a, rfl, fun I G e => .tup (xs := vs) (.inr ⟨_, its, m, by rw [e]; exact hk, congrArg Value.type h1, rfl, rfl, ?_, r1⟩) (r2 I G e)⟩
      have := Nat.le_of_ble_eq_true h2
      rw [sizeLine_eq]
      omega
    · cases h
def noneV : Value → Bool
  | .none => true
  | _ => false
/-- one def -/
def defB (S : Src) (p : Prog) (nm : Nat → Option (List Str)) (mk : List Str) (K : PySem.W.Frag) (f : Nat) (x : Str) : Bool := match p.fn f, nm f, K.lookup (He.ga K x) with
  | some d, some N, some ⟨_, _, .func fd, _⟩ => (match fd.body with
    | .stmts body => He.eqO (PySem.W.nsIn K mainGlobals x) (some (some (.ref (He.ga K x)))) && PySem.W.keepIn K (.ref (He.ga K x)) && decide (fd.globals = mainGlobals) && fd.closure.isEmpty && noneV fd.defaults && decide (fd.builtins = builtinsNs) && decide (fd.qualname = x) && PySem.W.codeIn K fd.code fd.qualname && C8.scC N (N.take d.np) fd.scope && decide (N.length = d.ns) && decide ((N.take d.np).length = d.np) &&
        plainPar fd.params (N.take d.np) && kwOk S f (N.take d.np) && chkSs { S with mkr := mk.contains x } N fd.scope d.body body
    | _ => false)
  | _, _, _ => false
def defsB (S : Src) (p : Prog) (nm : Nat → Option (List Str)) (mk : List Str) (K : PySem.W.Frag) : Nat → List Str → Bool
  | _, [] => true
  | f, x :: r => defB S p nm mk K f x && defsB S p nm mk K (f + 1) r
def gloB (p : Prog) (K : PySem.W.Frag) : Nat → List Str → Bool
  | _, [] => true
  | g, x :: r => (match PySem.W.nsIn K mainGlobals x, p.glo g with
    | some (some u), some t => repB K 5 u t
    | _, _ => false) && gloB p K (g + 1) r
def noList : Obj → Bool
  | ⟨.type c, _, .seq _ _, _⟩ => !decide (c = "list")
  | _ => true
def modB (S : Src) (p : Prog) (nm : Nat → Option (List Str)) (mk : List Str) (K : PySem.W.Frag) : Bool :=
  (bltNames.all fun x => He.eqO (PySem.W.nsIn K mainGlobals x) (some none)) && gloB p K 0 S.glo && (K.all fun q => noList q.2) && decide ((mk.map fun x => (He.cT K (x, none)).2).Nodup) && mk.all (S.fn.contains ·) && (mk.all fun x => !((He.cT K (x, none)).2 == mainGlobals)) && defsB S p nm mk K 0 S.fn
theorem defsB_at {S : Src} {p : Prog} {nm : Nat → Option (List Str)} {mk : List Str} {K : PySem.W.Frag} : ∀ {l : List Str} {n f : Nat} {x : Str}, defsB S p nm mk K n l = true → l[f]? = some x → defB S p nm mk K (n + f) x = true
  | [], _, _, _, _, h => by simp at h
  | y :: l, n, 0, x, h, e => by
    simp at e
    subst e
    unfold defsB at h
    exact (Bool.and_eq_true_iff.mp h).1
  | y :: l, n, f + 1, x, h, e => by
    unfold defsB at h
    have := defsB_at (f := f) (x := x) (Bool.and_eq_true_iff.mp h).2 (by simpa using e)
    rw [show n + (f + 1) = n + 1 + f by omega]
    exact this
theorem gloB_at {p : Prog} {K : PySem.W.Frag} : ∀ {l : List Str} {n g : Nat} {x : Str}, gloB p K n l = true → l[g]? = some x → ∃ u t, PySem.W.nsIn K mainGlobals x = some (some u) ∧ p.glo (n + g) = some t ∧ repB K 5 u t = true
  | [], _, _, _, _, h => by simp at h
  | y :: l, n, 0, x, h, e => by
    simp at e
    subst e
    unfold gloB at h
    have h := (Bool.and_eq_true_iff.mp h).1
    split at h
    · rename_i u t e1 e2
      exact ⟨u, t, e1, e2, h⟩
    · cases h
  | y :: l, n, g + 1, x, h, e => by
    unfold gloB at h
    have := gloB_at (g := g) (x := x) (Bool.and_eq_true_iff.mp h).2 (by simpa using e)
    rw [show n + (g + 1) = n + 1 + g by omega]
    exact this
/-- the code objects of the defs that make lambdas, their tables -/
def csOf (K : PySem.W.Frag) (mk : List Str) : List (Addr × Addr) := mk.map fun x => He.cT K (x, none)
def ttOf (K : PySem.W.Frag) (mk : List Str) : Tabs := mk.map fun x => ((He.cT K (x, none)).2, fun _ _ => (x ++ ".<locals>.") ++ "<lambda>")
def kiOf (S : Src) (K : PySem.W.Frag) : KI := ⟨K, fun f => (S.fn[f]?).map fun x => He.ga K x, fun _ => none, fun f L => L.cl = [] ∧ S.lam f L.params L.body L.scope = true, fun _ => [], fun _ _ _ => False⟩
section
variable {S : Src} {p : Prog} {nm : Nat → Option (List Str)} {mk : List Str} {K : PySem.W.Frag} {h : Heap} {mg : Str → Option Value}
theorem defAt_of {I : KI} (il : I = kiOf S K) (X : K.In h) (G : h.Ns mainGlobals mg) (hd : ∀ y ∈ mk, PySem.W.codeHdIn K (He.cT K (y, none)).1 (He.cT K (y, none)).2 = true) (nd : (mk.map fun x => (He.cT K (x, none)).2).Nodup) {f : Nat} {x : Str} (hf : S.fn[f]? = some x) (c : defB S p nm mk K f x = true) : DefAt I (ttOf K mk) (csOf K mk) S p nm K mg f x := by
  subst il
  unfold defB at c
  split at c
  · rename_i d N oc od fd osl h1 h2 h3
    split at c
    · rename_i body hb
      simp only [Bool.and_eq_true, decide_eq_true_eq] at c
      obtain ⟨⟨⟨⟨⟨⟨⟨⟨⟨⟨⟨⟨⟨c1, c2⟩, c3⟩, c4⟩, c5⟩, c6⟩, c7⟩, c8⟩, c9⟩, c10⟩, c11⟩, c12⟩, c13⟩, c14⟩ := c
      obtain ⟨n1, n2, n3, n4, n5, n6, n7, n8, n9, n10, n11, n12, n13, n14, n15⟩ := fd
      simp only at hb c3 c4 c5 c6 c7 c8 c9 c12 c14
      subst hb c3 c6 c7
      have c4 := List.isEmpty_iff.mp c4
      subst c4
      have c5 : n8 = .none := by cases n8 <;> first | rfl | cases c5
      subst c5
      refine ⟨He.ga K n2, d, n1, n2, n3, body, n5, n9, n10, n11, n13, n14, oc, n12, od, osl, N, mk.contains n2, h1, h2, PySem.W.mg_of X G (He.eqO_ok c1), c2, ?_, h3, c8, C8.fnScope_by c9, c10, c11, c14, c12, c13, fun z => ?_⟩
      · show (S.fn[f]?).map _ = _
        rw [hf]; rfl
      · have z : n2 ∈ mk := by simpa using z
        obtain ⟨cc, e⟩ := He.codeIn_ref c8
        have e1 : (He.cT K (n2, none)).1 = cc := He.codeOf_eq (p := (n2, none)) h3 e
        refine ⟨cc, (He.cT K (n2, none)).2, fun _ _ => (n2 ++ ".<locals>.") ++ "<lambda>", e, ?_, ?_, fun _ _ => rfl, fun q hq e2 => ?_⟩
        · exact List.mem_map.mpr ⟨n2, z, Prod.ext e1 rfl⟩
        · exact List.mem_map.mpr ⟨n2, z, rfl⟩
        · obtain ⟨y, hy, rfl⟩ := List.mem_map.mp hq
          have : y = n2 := by
            have e3 : (He.cT K (y, none)).2 = (He.cT K (n2, none)).2 := e2
            obtain ⟨i, hi⟩ := List.mem_iff_getElem?.mp hy
            obtain ⟨j, hj⟩ := List.mem_iff_getElem?.mp z
            have hi2 : (mk.map fun x => (He.cT K (x, none)).2)[i]? = some ((He.cT K (y, none)).2) := by rw [List.getElem?_map, hi]; rfl
            have hj2 : (mk.map fun x => (He.cT K (x, none)).2)[j]? = some ((He.cT K (n2, none)).2) := by rw [List.getElem?_map, hj]; rfl
            have hlt := (List.getElem?_eq_some_iff.mp hi2).1
            have : i = j := (List.getElem?_inj hlt nd).mp (by rw [hi2, hj2, e3])
            subst this
            rw [hi] at hj
            exact Option.some.inj hj
          rw [this]
    · cases c
  · cases c
theorem sqL_rd {H : Hp} {a : Addr} {xs : List V} (c : (K.all fun q => noList q.2) = true) (h : SqL K H a xs) : Rd H a (.lst xs) := by
  rcases h with h | ⟨o, its, n, h1, h2, h3, h4, _⟩
  · exact h
  · have := List.all_eq_true.mp c _ (He.lookup_mem h1)
    obtain ⟨oc, od, dt, osl⟩ := o
    simp only at h2 h4
    subst h2 h4
    simp [noList] at this
/-- the script handed over -/
theorem script_sr {I : KI} {TT : Tabs} {H : Hp} {a : Addr} {ns : List Int} (hT : ∀ q ∈ TT, H q.1 = some (.tbl #[])) (r : Rd H a (.lst (ns.map V.int))) :
    ∃ G fp, Py.SR I TT (fun i => ([V.ref a] : List V)[i]?) H G [.sh (.lst (ns.map .int))] fp (([V.ref a] : List V).map some) H := by
  have nt : ∀ b ps, (if b = a then H a else none) ≠ some (HO.tbl ps) := fun b ps e => by
    split at e
    · rcases r with r | ⟨o, r⟩ <;> rw [r] at e <;> cases e
    · cases e
  have hg : (fun b => if b = a then H a else none : Hp) a = H a := if_pos rfl
  refine ⟨fun b => if b = a then H a else none, fun _ _ => False, ⟨fun b o e => ?_, nt, fun i t e => ?_, fun i t e => ?_, fun i t e => ?_, fun i j b e => e.elim, fun i b e => e.elim, fun i _ b e => e, rfl, fun q hq => ?_, fun b e => e, fun i t b e z => z.elim⟩⟩
  · have e : (if b = a then H a else none) = some o := e
    split at e
    · rename_i z; rw [z]; exact e
    · cases e
  · cases i with
    | zero =>
      simp at e
      subst e
      refine ⟨_, rfl, .lst (xs := ns.map V.int) ?_ ?_⟩
      · rcases r with r | ⟨o, r⟩
        · exact .inl (hg.trans r)
        · exact .inr ⟨o, hg.trans r⟩
      · induction ns with
        | nil => exact .nil
        | cons n ns ih => exact .cons (.int n) (by
            clear ih r nt hg hT
            induction ns with
            | nil => exact .nil
            | cons m ms ih => exact .cons (.int m) ih)
    | succ i => simp at e
  · cases i <;> simp at e
  · cases i <;> simp at e
  · exact ⟨#[], hT q hq, trivial, fun pos u e => by simp [codeAmong] at e⟩
/-- THE END: what the law's promise asks -/
theorem law_at {l : PySem.W.OpenLaw} {w : World} {fa : Addr} {n m fl : Nat} {d : Fn} {x : Str} (hl : S.lam = lamB S.low p nm) (X : K.In h) (G : h.Ns mainGlobals mg) (c : He.SaysX [] [] [] (mk.map fun y => (y, none)) (modB S p nm mk) w h K) (hm : mg "law" = some (.ref fa)) (hf : S.fn[fl]? = some "law") (hn : nm fl = some [x]) (hd : p.fn fl = some d) (hp : d.np = 1)
    (plain : ∀ ns : List Int, ns.length ≤ m → run p n fl [.sh (.lst (ns.map .int))] = .ok (.sh (.bl true)) []) : LamX.LawAtS l w K CX0 n m x mg fa h := by
  have cm := c.more
  unfold modB at cm
  simp only [Bool.and_eq_true, decide_eq_true_eq] at cm
  obtain ⟨⟨⟨⟨⟨⟨m1, m2⟩, m3⟩, m4⟩, m5⟩, m6⟩, m7⟩ := cm
  have hdc : ∀ y ∈ mk, PySem.W.codeHdIn K (He.cT K (y, none)).1 (He.cT K (y, none)).2 = true := fun y hy => c.hd _ (List.mem_map.mpr ⟨y, hy, rfl⟩)
  have D : ∀ f x, S.fn[f]? = some x → DefAt (kiOf S K) (ttOf K mk) (csOf K mk) S p nm K mg f x := fun f x e => defAt_of rfl X G hdc m4 e (by
    have := defsB_at m7 e
    rw [Nat.zero_add] at this
    exact this)
  have keep : ∀ base : Heap, K.In base → base.Ns mainGlobals mg → (∀ q ∈ csOf K mk, LamX.TabB base mg q.1 q.2) → CalAt (kiOf S K) (ttOf K mk) S p nm l.prog w K mg base n fl "law" := fun base KB NB TB => by
    refine (defs_keep (P := l.prog) (w := w) (base := base) (cs := csOf K mk) rfl (fun x hx => PySem.W.mg_none_of X G (He.eqO_ok (List.all_eq_true.mp m1 x hx))) (fun g x t e1 e2 => ?_) (fun _ => rfl) (fun _ => rfl) (fun _ _ => Iff.rfl) hl TB D n).1 fl _ hf
    obtain ⟨u, t', h1, h2, h3⟩ := gloB_at m2 e1
    rw [Nat.zero_add, e2] at h2
    cases h2
    obtain ⟨v, r1, r2⟩ := repB_ok h3
    exact ⟨v, u, PySem.W.mg_of X G h1, r1, fun G => r2 _ G rfl⟩
  obtain ⟨a, d', name, qual, params, body, scope, kV, doc, pm, cdv, ct, oc, an, od, osl, N, mk', h1, h0, h2, h3, h4, h5, h6, h7, h8, h9, h10, h11, h12, h13⟩ := (D fl _ hf).ex
  rw [hm] at h2
  cases h2
  rw [hd] at h1
  cases h1
  rw [hn] at h0
  cases h0
  rw [hp] at h11
  have at_ : ∀ q ∈ csOf K mk, ∃ y ∈ mk, q = He.cT K (y, none) := fun q hq => by
    obtain ⟨y, hy, e⟩ := List.mem_map.mp hq
    exact ⟨y, hy, e.symm⟩
  refine ⟨PySem.W.fnOf name qual params body scope .none kV doc pm an cdv ct, csOf K mk, fun vs H Q _ => spC (wdOf (kiOf S K) (ttOf K mk) [] H p n) fl vs H Q, fun q hq => ?_, fun q hq => ?_, fun q hq => ?_, fun s u => BindsTo.of_eq (bind_pos (ps := [x]) (us := [u]) (fd := PySem.W.fnOf name qual params body scope .none kV doc pm an cdv ct) h11 rfl rfl), fun H a ns hlen _ hT hS => ?_, fun base KB NB TB => ?_⟩
  · obtain ⟨y, hy, rfl⟩ := at_ q hq
    exact c.empty _ (List.mem_map.mpr ⟨y, hy, rfl⟩)
  · obtain ⟨y, hy, rfl⟩ := at_ q hq
    exact c.out _ (List.mem_map.mpr ⟨y, hy, rfl⟩)
  · obtain ⟨y, hy, rfl⟩ := at_ q hq
    exact PySem.W.codeHd_of_K X (hdc y hy)
  · obtain ⟨G', fp, s⟩ := script_sr (I := kiOf S K) (TT := ttOf K mk) (a := a) (ns := ns) (fun q hq => by
      obtain ⟨y, hy, rfl⟩ := List.mem_map.mp hq
      exact hT _ (List.mem_map.mpr ⟨y, hy, rfl⟩)) (sqL_rd m3 hS)
    refine ⟨G', _, fp, s, _, _, plain ns hlen, fun v G2 H2 fp2 _ _ rv => ?_⟩
    cases rv with
    | sh hr => cases hr; rfl
  · obtain ⟨a', fd, ps, ⟨oc', od', osl', d2, N2, e1, e2, e3, e4⟩, e5, e6, e7, e8, _⟩ := keep base KB NB TB
    rw [hm] at e5
    cases e5
    rw [hn] at e2
    cases e2
    rw [hd] at e3
    cases e3
    rw [h5] at e1
    cases e1
    subst e4
    rw [hp] at e8
    exact e8
end
end Py
end

section
set_option maxRecDepth 100000
set_option maxHeartbeats 0
namespace K43
open PySem PySem.Spec PyProof.Rows L2 Py
def S : Src := Src.of prog nm s_fn s_glo s_kws
abbrev R : PySem.W.OpenRow := PySem.W.OpenLaw.row PySem.Challenge.rw_bidbooks_k43_whole_cards_let_and_tricks
def tf : List He.Defn := s_mk.map fun y => (y, none)
abbrev hk : PySem.W.Hook := He.hookX 5 [] [] [] tf (modB S prog nm s_mk)
def ob (s : PySem.W.SharedT) : He.AlX := He.obsX 5 [] [] [] tf (modB S prog nm s_mk) (HandSHeadRun.getT s)
theorem ob_eq (s : PySem.W.SharedT) : ob s = hk.obs s.abs := He.obsX_eq (HandSHeadRun.getT_eq s)
end K43
end

section
set_option maxRecDepth 100000
set_option maxHeartbeats 0
namespace K43
open PySem PySem.Spec PyProof.Rows L2 Py
def loose : List PySem.Str := s_fn.dropLast ++ s_glo ++ (["BidError", "InvalidContract", "InvalidDeal", "InvalidPlay", "Over"] : List PySem.Str)
theorem hrun (w : World) : HandSHeadRun.RunEq R (PySem.W.view R.prog [61]) hk ob 4000 loose w := by
  intro os
  kernel_rfl
end K43
end

section
set_option maxRecDepth 100000
set_option maxHeartbeats 0
open PySem PySem.W PySem.Calls PyProof.Rows
theorem PySem.Challenge.cw_bidbooks_k43_whole_cards_let_and_tricks_holds : PySem.Challenge.rw_bidbooks_k43_whole_cards_let_and_tricks.Holds := by
  w_on; o_law
  refine HandSHeadRun.head_any (r := OpenLaw.row PySem.Challenge.rw_bidbooks_k43_whole_cards_let_and_tricks) (q := view (OpenLaw.row PySem.Challenge.rw_bidbooks_k43_whole_cards_let_and_tricks).prog [61]) (H := K43.hk) (ob := K43.ob) (M := 4000) (loose := K43.loose) (d := HandSHeadRun.topDef (OpenLaw.row PySem.Challenge.rw_bidbooks_k43_whole_cards_let_and_tricks).prog 61) (kwd := []) K43.ob_eq
    (by kernel_rfl) (fun s => by kernel_rfl) K43.hrun (by kernel_rfl) (by kernel_rfl) (by kernel_rfl) (by rfl) (by first | assumption | decide +kernel) (by decide +kernel) ⟨rfl, rfl, rfl, rfl, rfl, by decide +kernel⟩ ?hw ?hc
  case hw => w_witness2
  case hc =>
    refine LamX.walk_ofTsE (l := PySem.Challenge.rw_bidbooks_k43_whole_cards_let_and_tricks) (n := 63) (k := 60) (x := "script") (CX := fun _ => Py.CX0) rfl (by decide) (by kernel_rfl) ⟨rfl, by decide, by decide⟩ ?F (fun _ _ _ _ _ z => z)
    intro w mg fa h Y G hmg0
    obtain ⟨K, KX, c⟩ := Y
    have hmg : mg ("law" : PySem.Str) = some (.ref fa) := by
      have e : (HandSHeadRun.topDef (OpenLaw.row PySem.Challenge.rw_bidbooks_k43_whole_cards_let_and_tricks).prog 61).name = ("law" : PySem.Str) := by kernel_rfl
      rw [← e]
      exact hmg0
    exact ⟨K, KX, Py.law_at (S := K43.S) (p := K43.prog) (nm := K43.nm) (mk := K43.s_mk) (fl := K43.f_law) (d := K43.d_law) rfl KX G c hmg (by decide +kernel) rfl rfl rfl K43.plain⟩
end
