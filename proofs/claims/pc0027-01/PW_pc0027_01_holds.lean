import PyProof.Rows.All
import Wide.All
import OpenK.AllK
import Wide.FinOn
import Lean
import PySem.Challenge.RW_pc0027_01
open PySem PySem.W PyProof.Rows
set_option Elab.async false
set_option maxRecDepth 100000
set_option maxHeartbeats 0
namespace Mine
section
local macro_rules | `(tactic| o_head $_) => `(tactic| assumption)
theorem mk (h : PySem.Challenge.rw_pc0027_01.row.Holds) : PySem.Challenge.rw_pc0027_01.row.Holds := by k_head
end
end Mine
open PySem PySem.W PySem.Calls PyProof.Rows
namespace Mine
abbrev Led := List (Addr × Obj)

/-- the text as the head views it: the statements that it keeps -/
def vw : Program := view PySem.Challenge.pw_pc0027_01 [1, 2, 3, 5, 6, 7, 8, 9, 10, 11, 12, 13, 14, 16, 17, 18, 19, 20, 21, 22, 23, 24, 25, 26, 27]

/-- the world's facts at a base -/
structure G0 (w : World) (h : Heap) : Prop where
  X : (mk.heap_1 w.params).In h
  T : ∃ mean mg mb, Top vw (looseW vw [Str.ofString "FORMS", Str.ofString "PAIRS"]) mean mg mb h
theorem G0.keeps {w : World} {h h' : Heap} (G : G0 w h) (k : ∀ b o, h.get? b = some o → h'.get? b = some o) : G0 w h' :=
  ⟨G.X.keeps k, let ⟨a, b, c, T⟩ := G.T; ⟨a, b, c, T.keeps k⟩⟩

/-- the end of a def's body: its frame, its ledger, what is said of them -/
def Done (g : Heap) (L' : Addr) (s : Shared) (Post : Value → Led → Prop) (v : Value) (s' : Shared) : Prop :=
  ∃ m' led h' tk', s' = { s with heap := h', toks := tk' } ∧ Fr g L' h' m' ∧ News g L' h' led ∧ Post v led

/-- what a call comes to: it comes back with a value, its own part of the ledger turned, the rest as it was -/
def Calls (w : World) (A : Around) (f : Addr) (args : List Value) (s : Shared) (hot : Led) (Post : Value → Led → Prop) : Prop :=
  ∀ (h₀ : Heap) (L : Addr) (m : Str → Option Value) (cold : Led) (Q E : Value → Shared → Prop), G0 w h₀ → Fr h₀ L s.heap m → News h₀ L s.heap (hot ++ cold) → (∀ p ∈ cold, ∀ q ∈ hot, p.1 ≠ q.1) →
    (∀ r led h' tk', Fr h₀ L h' m → News h₀ L h' (led ++ cold) → Post r led → Q r { s with heap := h', toks := tk' }) →
    wpAny (model PySem.Challenge.rw_pc0027_01.row.prog w) A (call (.ref f) args) Q E s

section
variable {w : World} {A : Around} {s : Shared}
  {name qual : Str} {params : Arguments} {body : List Stmt} {scope : Scope} {dV kV doc pm cdv ct oc : Value} {an od : Option Addr} {osl : Array (Option Value)} {f : Addr} {args : List Value} {binds : List (Str × Value)}

theorem calls_of {hot : Led} {Post : Value → Led → Prop}
    (ho : (mk.heap_1 w.params).lookup f = some ⟨oc, od, .func (fnOf name qual params body scope dV kV doc pm an cdv ct), osl⟩) (hcd : codeIn (mk.heap_1 w.params) cdv qual = true) (hroom : A.depth < recursionLimit)
    (hbind : BindsTo s (fnOf name qual params body scope dV kV doc pm an cdv ct) ⟨args, []⟩ binds) (hloc : ∀ y ∈ binds, scope.names.lookup y.1 = some .local)
    (h : ∀ g h₁, G0 w g → Fr g s.heap.objs.size h₁ (fun y => binds.reverse.lookup y) → News g s.heap.objs.size h₁ hot → (∀ p ∈ hot, p.1 < s.heap.objs.size) →
      (∀ b o, s.heap.get? b = some o → (∀ q ∈ hot, b ≠ q.1) → g.get? b = some o) →
      wpAny (model PySem.Challenge.rw_pc0027_01.row.prog w) (A.deeper (envOf qual scope s.heap.objs.size f cdv)) (execs body (envOf qual scope s.heap.objs.size f cdv))
        (fun fl s' => Done g s.heap.objs.size s Post (match fl with | .ret v => v | _ => .none) s') (fun _ _ => False)
        { s with heap := h₁, toks := s.toks + binds.length })
    (hco : scope.isCoroutine = false) (hgen : scope.isGenerator = false) (hk : scope.kind = .function)
    (hcell : ∀ x ∈ scope.names, x.2 ≠ .cell) : Calls w A f args s hot Post := by
  intro h₀ L m cold Q E G F N hap ret
  have nm : ∀ b o, h₀.get? b = some o → b ∉ hot.map (·.1) := fun b o e q => by
    obtain ⟨p, hp, rfl⟩ := List.mem_map.mp q
    rw [(N p (List.mem_append_left _ hp)).2.2] at e; cases e
  have st : h₀.StaysIn (hideAll s.heap (hot.map (·.1))) := fun b o e => hideAll_get _ (F.keep b o e) (nm b o e)
  obtain ⟨oL, es, ep, hL, hLd, hLk, hLf⟩ := F.ns
  have nL : L ∉ hot.map (·.1) := fun q => by
    obtain ⟨p, hp, e⟩ := List.mem_map.mp q
    exact (N p (List.mem_append_left _ hp)).2.1 e
  have hLg := hideAll_get (hot.map (·.1)) hL nL
  have GG : G0 w (hideAll s.heap (hot.map (·.1))) := G.keeps st
  have GS : G0 w s.heap := G.keeps F.keep
  obtain ⟨mean, mg, mb, T⟩ := GS.T
  refine wpAny_call (codeAny_call_def (fd := fnOf name qual params body scope dV kV doc pm an cdv ct) (body := body) (binds := binds) hroom (GS.X _ _ ho) rfl T.nolimit (codeRec_of GS.X hcd) rfl hbind hcell hloc (fun h₁ hns hk₁ => ?_) hco hgen hk)
  have FG : Fr (hideAll s.heap (hot.map (·.1))) s.heap.objs.size h₁ (fun y => binds.reverse.lookup y) := ⟨hns, fun b o e => hk₁ b o (of_hideAll _ e), Nat.le_of_eq (hideAll_size _ _)⟩
  have NG : News (hideAll s.heap (hot.map (·.1))) s.heap.objs.size h₁ hot := fun p hp => ⟨hk₁ _ _ (N p (List.mem_append_left _ hp)).1, Nat.ne_of_lt (Heap.lt_size (N p (List.mem_append_left _ hp)).1), hideAll_none _ (List.mem_map_of_mem hp)⟩
  refine wpAny_mono (h _ h₁ GG FG NG (fun p hp => Heap.lt_size (N p (List.mem_append_left _ hp)).1) fun b o e hb => hideAll_get _ e fun q => ?_) (fun fl s' hl => ?_) fun _ _ y => y.elim
  · obtain ⟨p, hp, e⟩ := List.mem_map.mp q
    exact hb p hp e.symm
  · obtain ⟨m', led, h', tk', rfl, F', N', hp⟩ := hl
    refine ret _ led h' tk' ⟨⟨oL, es, ep, F'.keep L oL hLg, hLd, hLk, hLf⟩, fun b o e => F'.keep b o (st b o e), F.above⟩ (fun p hp => ?_) hp
    rcases List.mem_append.mp hp with hp | hp
    · refine ⟨(N' p hp).1, fun q => ?_, ?_⟩
      · have := (N' p hp).2.2; rw [q, hLg] at this; cases this
      · cases q : h₀.get? p.1 with
        | none => rfl
        | some o => have := (N' p hp).2.2; rw [st _ _ q] at this; cases this
    · have n := N p (List.mem_append_right _ hp)
      refine ⟨F'.keep _ _ (hideAll_get _ n.1 fun q => ?_), n.2⟩
      obtain ⟨q', hq, e⟩ := List.mem_map.mp q
      exact hap p hp q' hq e.symm
end


section
variable {w : World} {A : Around} {s : Shared}
  {name qual : Str} {params : Arguments} {body : List Stmt} {scope : Scope} {dV kV doc pm cdv ct oc : Value} {an od : Option Addr} {osl : Array (Option Value)} {f : Addr} {args : List Value} {binds : List (Str × Value)}

theorem calls_ofC {hot : Led} {Post : Value → Led → Prop}
    (ho : (mk.heap_1 w.params).lookup f = some ⟨oc, od, .func (fnOf name qual params body scope dV kV doc pm an cdv ct), osl⟩) (hcd : codeIn (mk.heap_1 w.params) cdv qual = true) (hroom : A.depth < recursionLimit)
    (hbind : BindsTo s (fnOf name qual params body scope dV kV doc pm an cdv ct) ⟨args, []⟩ binds) (hkind : (binds.all fun y => scope.names.lookup y.1 == some .local || scope.names.lookup y.1 == some .cell) = true)
    (hnd : ((cellsFrom 0 scope.names []).map (·.1)).Nodup)
    (h : ∀ g h₁ tk cells, G0 w g → Fr g s.heap.objs.size h₁ (bindL (envOfC qual scope s.heap.objs.size f cdv).kindOf binds fun _ => none) → News g s.heap.objs.size h₁ (cells ++ hot) →
      CellsAre (bindC (envOfC qual scope s.heap.objs.size f cdv).kindOf binds fun _ => none) (cellsFrom (s.heap.objs.size + 1) scope.names []) cells → (∀ p ∈ hot, p.1 < s.heap.objs.size) →
      (∀ b o, s.heap.get? b = some o → (∀ q ∈ hot, b ≠ q.1) → g.get? b = some o) →
      wpAny (model PySem.Challenge.rw_pc0027_01.row.prog w) (A.deeper (envOfC qual scope s.heap.objs.size f cdv)) (execs body (envOfC qual scope s.heap.objs.size f cdv))
        (fun fl s' => Done g s.heap.objs.size s Post (match fl with | .ret v => v | _ => .none) s') (fun _ _ => False)
        { s with heap := h₁, toks := tk })
    (hco : scope.isCoroutine = false) (hgen : scope.isGenerator = false) (hk : scope.kind = .function) : Calls w A f args s hot Post := by
  intro h₀ L m cold Q E G F N hap ret
  have nm : ∀ b o, h₀.get? b = some o → b ∉ hot.map (·.1) := fun b o e q => by
    obtain ⟨p, hp, rfl⟩ := List.mem_map.mp q
    rw [(N p (List.mem_append_left _ hp)).2.2] at e; cases e
  have st : h₀.StaysIn (hideAll s.heap (hot.map (·.1))) := fun b o e => hideAll_get _ (F.keep b o e) (nm b o e)
  obtain ⟨oL, es, ep, hL, hLd, hLk, hLf⟩ := F.ns
  have nL : L ∉ hot.map (·.1) := fun q => by
    obtain ⟨p, hp, e⟩ := List.mem_map.mp q
    exact (N p (List.mem_append_left _ hp)).2.1 e
  have hLg := hideAll_get (hot.map (·.1)) hL nL
  have GG : G0 w (hideAll s.heap (hot.map (·.1))) := G.keeps st
  have GS : G0 w s.heap := G.keeps F.keep
  obtain ⟨mean, mg, mb, T⟩ := GS.T
  refine wpAny_call (codeAny_call_function hroom (GS.X _ _ ho) rfl hco hgen rfl (codeRec_of GS.X hcd) (hbind _ _ _ _ ?_))
  refine wpAny_newFunctionEnv_cells hk (kindsX hkind _) fun env' he s' x => ?_
  subst he
  refine ⟨T.nolimit.keeps x.toInCall.keep, codeAny_func ?_⟩
  obtain ⟨h₁, tk, rfl, _⟩ := x.done
  have hk₁ := x.toInCall.keep
  obtain ⟨cells, NC, Y⟩ := Cl.news (h₀ := s.heap) (Nat.le_refl _) fun n c hm => ⟨x.cell n c (lookup_of_mem_nodup (cellsFrom_names scope.names 0 (s.heap.objs.size + 1) [] [] rfl ▸ hnd) hm), x.above n c hm⟩
  have FG : Fr (hideAll s.heap (hot.map (·.1))) s.heap.objs.size h₁ _ := ⟨x.toInCall.ns, fun b o e => hk₁ b o (of_hideAll _ e), Nat.le_of_eq (hideAll_size _ _)⟩
  have NG : News (hideAll s.heap (hot.map (·.1))) s.heap.objs.size h₁ (cells ++ hot) := by
    intro p hp
    rcases List.mem_append.mp hp with hp | hp
    · refine ⟨(NC p hp).1, (NC p hp).2.1, ?_⟩
      cases q : (hideAll s.heap (hot.map (·.1))).get? p.1 with
      | none => rfl
      | some o => have := of_hideAll _ q; rw [(NC p hp).2.2] at this; cases this
    · exact ⟨hk₁ _ _ (N p (List.mem_append_left _ hp)).1, Nat.ne_of_lt (Heap.lt_size (N p (List.mem_append_left _ hp)).1), hideAll_none _ (List.mem_map_of_mem hp)⟩
  refine wpAny_mono (h _ h₁ tk cells GG FG NG Y (fun p hp => Heap.lt_size (N p (List.mem_append_left _ hp)).1) fun b o e hb => hideAll_get _ e fun q => ?_) (fun fl s' hl => ?_) fun _ _ y => y.elim
  · obtain ⟨p, hp, e⟩ := List.mem_map.mp q
    exact hb p hp e.symm
  · obtain ⟨m', led, h', tk', rfl, F', N', hp⟩ := hl
    refine ret _ led h' tk' ⟨⟨oL, es, ep, F'.keep L oL hLg, hLd, hLk, hLf⟩, fun b o e => F'.keep b o (st b o e), F.above⟩ (fun p hp => ?_) hp
    rcases List.mem_append.mp hp with hp | hp
    · refine ⟨(N' p hp).1, fun q => ?_, ?_⟩
      · have := (N' p hp).2.2; rw [q, hLg] at this; cases this
      · cases q : h₀.get? p.1 with
        | none => rfl
        | some o => have := (N' p hp).2.2; rw [st _ _ q] at this; cases this
    · have n := N p (List.mem_append_right _ hp)
      refine ⟨F'.keep _ _ (hideAll_get _ n.1 fun q => ?_), n.2⟩
      obtain ⟨q', hq, e⟩ := List.mem_map.mp q
      exact hap p hp q' hq e.symm
end


theorem done_of {g : Heap} {L' : Addr} {s : Shared} {Post : Value → Led → Prop} {v : Value} {h' : Heap} {tk : Nat} {m' : Str → Option Value} {news' led : Led}
    (F : Fr g L' h' m') (N : News g L' h' news') (hs : ∀ p ∈ led, p ∈ news') (hp : Post v led) : Done g L' s Post v { s with heap := h', toks := tk } :=
  ⟨m', led, h', tk, rfl, F, fun p h => N p (hs p h), hp⟩
theorem fmod_range (a : Int) {b : Int} (h : 0 < b) : 0 ≤ a.fmod b ∧ a.fmod b < b := by
  rw [Int.fmod_eq_emod_of_nonneg a (Int.le_of_lt h)]
  exact ⟨Int.emod_nonneg a (by omega), Int.emod_lt_of_pos a h⟩

section
variable {M : Model} {A : Around} {E : Value → Shared → Prop} {s : Shared} {h₀ : Heap} {L : Addr} {m : Str → Option Value} {news : Led}
theorem newTuple_M {vs : List Value} {Q : Value → Shared → Prop} (F : Fr h₀ L s.heap m) (N : News h₀ L s.heap news)
    (h : ∀ t h', Fr h₀ L h' m → News h₀ L h' ((t, { cls := .type "tuple", data := .seq vs.toArray }) :: news) → (∀ p ∈ news, p.1 < t) → L < t → Q (.ref t) { s with heap := h' }) (hsz : vs.length ≤ sizeLine) : wpAny M A (newTuple vs) Q E s :=
  newTuple_N F N (fun h' F' N' => h _ h' F' N' (fun p hp => Heap.lt_size (N p hp).1) F.ns.lt) hsz
theorem newList_M {vs : List Value} {Q : Value → Shared → Prop} (F : Fr h₀ L s.heap m) (N : News h₀ L s.heap news)
    (h : ∀ l h', Fr h₀ L h' m → News h₀ L h' ((l, listOf vs.toArray 0) :: news) → (∀ p ∈ news, p.1 < l) → L < l → Q (.ref l) { s with heap := h' }) (hsz : vs.length ≤ sizeLine) : wpAny M A (newList vs) Q E s :=
  newList_N F N (fun h' F' N' => h _ h' F' N' (fun p hp => Heap.lt_size (N p hp).1) F.ns.lt) hsz
end

section
variable {prog : Program} {w : World} {A : Around} {E : Value → Shared → Prop} {s : Shared} {h₀ : Heap} {L : Addr} {m : Str → Option Value} {news : Led}
/-- tuple(l) of the list at the ledger's head, which is let go -/
theorem tuple_drop_M {l : Addr} {vs : List Value} {n : Nat} {Q : Value → Shared → Prop} (F : Fr h₀ L s.heap m) (N : News h₀ L s.heap ((l, { cls := .type "list", data := .seq vs.toArray n }) :: news))
    (h : ∀ t h', Fr h₀ L h' m → News h₀ L h' ((t, { cls := .type "tuple", data := .seq vs.toArray }) :: news) → (∀ p ∈ news, p.1 < t) → L < t → Q (.ref t) { s with heap := h' }) (hsz : vs.length ≤ sizeLine) :
    wpAny (model prog w) A (call (.type "tuple") [.ref l]) Q E s := by
  refine call_tuple_list ⟨_, (N _ (.head _)).1, rfl, n, rfl⟩ (fun h' hk => ?_) (by rw [List.size_toArray]; exact hsz)
  have F' : Fr h₀ L h' m := F.keeps hk
  have N' : News h₀ L h' news := fun p hp => ⟨hk _ _ (N p (.tail _ hp)).1, (N p (.tail _ hp)).2⟩
  exact h _ _ (F'.push _) (N'.push F' _) (fun p hp => Heap.lt_size (N' p hp).1) F'.ns.lt
end
section
variable {prog : Program} {w : World} {A : Around} {E : Value → Shared → Prop} {s : Shared} {h₀ : Heap} {L : Addr} {m : Str → Option Value} {news : Led}
/-- l + m of two lists of the ledger; what is to be kept is said -/
theorem add_lists_M {a b : Addr} {xs ys : List Value} {n k : Nat} {Q : Value → Shared → Prop} (keep : Led) (F : Fr h₀ L s.heap m) (N : News h₀ L s.heap news) (ha : (a, ({ cls := .type "list", data := .seq xs.toArray n } : Obj)) ∈ news) (hb : (b, ({ cls := .type "list", data := .seq ys.toArray k } : Obj)) ∈ news)
    (hs : ∀ q ∈ keep, q ∈ news) (hsz : xs.length + ys.length ≤ sizeLine)
    (h : ∀ l h', Fr h₀ L h' m → News h₀ L h' ((l, { cls := .type "list", data := .seq (xs ++ ys).toArray }) :: keep) → (∀ p ∈ keep, p.1 < l) → L < l → Q (.ref l) { s with heap := h' }) :
    wpAny (model prog w) A (binaryOp .Add (.ref a) (.ref b)) Q E s :=
  add_lists (hsz := hsz) F N ⟨_, (N _ ha).1, rfl, n, rfl⟩ ⟨_, (N _ hb).1, rfl, k, rfl⟩ fun h' F' N' =>
    h _ h' F' (fun q hq => by
      rcases List.mem_cons.mp hq with rfl | hq
      · exact N' _ (.head _)
      · exact N' q (.tail _ (hs q hq))) (fun q hq => Heap.lt_size (N q (hs q hq)).1) F.ns.lt
end

theorem range_facts {n : Nat} (h : n ≤ 10) : Builtin.Range.small 0 (n : Int) 1 = true ∧ Builtin.Range.rangeSize 0 (n : Int) 1 = ((n : Nat) : Int) := by
  have : ∀ k : Fin 11, Builtin.Range.small 0 ((k.val : Nat) : Int) 1 = true ∧ Builtin.Range.rangeSize 0 ((k.val : Nat) : Int) 1 = ((k.val : Nat) : Int) := by decide
  exact this ⟨n, by omega⟩

/-- the feed: a dict of a list and a place -/
def FeedObj (w : World) (o : Obj) (c : Addr) (p : Nat) : Prop :=
  ∃ t, Obj.IsDictOf (PySem.strKind PySem.Challenge.rw_pc0027_01.row.prog w) o [(Str.ofString "cells", Value.ref c), (Str.ofString "place", Value.int (p : Int) t)]

/-- the feed's cells -/
def CellsAt (h : Heap) (c : Addr) : Prop := ∃ ws ns, h.IsList c (List.toArray ws) ∧ IntsAre ws ns ∧ ns.length ≤ 60
theorem CellsAt.keeps {h h' : Heap} {c : Addr} (x : CellsAt h c) (k : ∀ o, h.get? c = some o → h'.get? c = some o) : CellsAt h' c :=
  let ⟨ws, ns, a, b⟩ := x; ⟨ws, ns, a.at k, b⟩

/-- what a def that draws comes to: the feed turned, new data -/
def FPost (w : World) (feed c : Addr) (n p k : Nat) (D : Dat → Prop) (r : Value) (led : Led) : Prop :=
  ∃ fo tl p' d, led = (feed, fo) :: tl ∧ FeedObj w fo c p' ∧ p' ≤ p + k ∧ (∀ q ∈ tl, n < q.1) ∧ DatIn tl r d ∧ D d
/-- a def that draws: dd frames deep, k draws at most, a datum D -/
def FeedFn (w : World) (f : Addr) (args : List Value) (dd k : Nat) (D : Dat → Prop) : Prop :=
  ∀ (dp un : Nat) (fr : Option (List Env)) (gd : Option (List Code)) (s : Shared) (feed c : Addr) (fo : Obj) (p : Nat), dp + dd < recursionLimit → p + k < 100000 → FeedObj w fo c p → CellsAt s.heap c → c ≠ feed →
    Calls w ⟨none, dp, fr, gd, un⟩ f (.ref feed :: args) s [(feed, fo)] (FPost w feed c s.heap.objs.size p k D)

theorem FeedFn.use {w : World} {f : Addr} {args : List Value} {dd k : Nat} {D : Dat → Prop} (C : FeedFn w f args dd k D) {dp un : Nat} {fr : Option (List Env)} {gd : Option (List Code)} {s : Shared} {feed c : Addr} {fo : Obj} {p : Nat}
    {h₀ : Heap} {L : Addr} {m : Str → Option Value} {Q E : Value → Shared → Prop} {news : Led} (cold : Led)
    (hd : dp + dd < recursionLimit) (hp : p + k < 100000) (hF : FeedObj w fo c p) (hc : CellsAt h₀ c) (hne : c ≠ feed) (G : G0 w h₀) (F : Fr h₀ L s.heap m) (N : News h₀ L s.heap news)
    (hm : (feed, fo) ∈ news) (hs : ∀ q ∈ cold, q ∈ news) (hap : ∀ q ∈ cold, q.1 ≠ feed)
    (ret : ∀ r fo' tl p' d h' tk', Fr h₀ L h' m → News h₀ L h' ((feed, fo') :: (tl ++ cold)) → FeedObj w fo' c p' → p' ≤ p + k → (∀ q ∈ tl, L < q.1) → (∀ q ∈ tl, ∀ q' ∈ news, q'.1 < q.1) → DatIn tl r d → D d → Q r { s with heap := h', toks := tk' }) :
    wpAny (model PySem.Challenge.rw_pc0027_01.row.prog w) ⟨none, dp, fr, gd, un⟩ (call (.ref f) (.ref feed :: args)) Q E s := by
  have lt : ∀ q ∈ news, q.1 < s.heap.objs.size := fun q hq => Heap.lt_size (N q hq).1
  refine C dp un fr gd s feed c fo p hd hp hF (hc.keeps fun o e => F.keep c o e) hne h₀ L m cold Q E G F ?_ ?_ ?_
  · intro q hq
    rcases List.mem_append.mp hq with hq | hq
    · rw [List.mem_singleton.mp hq]; exact N _ hm
    · exact N q (hs q hq)
  · intro q hq q' hq'
    rw [List.mem_singleton.mp hq']; exact hap q hq
  · rintro r led h' tk' F' N' ⟨fo', tl, p', d, rfl, hF', hp', hfr, hd', hD⟩
    exact ret r fo' tl p' d h' tk' F' N' hF' hp' (fun q hq => Nat.lt_trans F.ns.lt (hfr q hq)) (fun q hq q' hq' => Nat.lt_trans (lt q' hq') (hfr q hq)) hd' hD
mutual
theorem datIn_seqs {news news' : Led} (hs : ∀ p ∈ news, (∃ xs n, p.2.data = .seq xs n) → p ∈ news') : ∀ {v : Value} {d : Dat}, DatIn news v d → DatIn news' v d
  | _, _, .none => .none
  | _, _, .bool b => .bool b
  | _, _, .int i t => .int i t
  | _, _, .str x t => .str x t
  | _, _, .bytes b t => .bytes b t
  | _, _, .tuple h r => .tuple (hs _ h ⟨_, _, rfl⟩) (datAll_seqs hs r)
  | _, _, .list h r => .list (hs _ h ⟨_, _, rfl⟩) (datAll_seqs hs r)
theorem datAll_seqs {news news' : Led} (hs : ∀ p ∈ news, (∃ xs n, p.2.data = .seq xs n) → p ∈ news') : ∀ {vs : List Value} {ds : List Dat}, DatAll news vs ds → DatAll news' vs ds
  | _, _, .nil => .nil
  | _, _, .cons h r => .cons (datIn_seqs hs h) (datAll_seqs hs r)
end
/-- the end of a def that draws -/
theorem fdone_of {w : World} {g : Heap} {L' : Addr} {s : Shared} {feed c : Addr} {p k p' : Nat} {D : Dat → Prop} {r : Value} {d : Dat} {fo : Obj} {h' : Heap} {tk : Nat} {m' : Str → Option Value} {news : Led}
    (F : Fr g L' h' m') (N : News g L' h' news) (hF : FeedObj w fo c p') (hm : (feed, fo) ∈ news) (hp : p' ≤ p + k) (hfr : ∀ q ∈ news, q.1 = feed ∨ L' < q.1) (hd : DatIn news r d) (hD : D d) :
    Done g L' s (FPost w feed c L' p k D) r { s with heap := h', toks := tk } := by
  have hno : ∀ q ∈ news, (∃ xs n, q.2.data = .seq xs n) → L' < q.1 := by
    rintro q hq ⟨xs, n, e⟩
    refine (hfr q hq).resolve_left fun hf => ?_
    obtain ⟨t, es, ep, _, hdd, _⟩ := hF
    have h1 := (N q hq).1
    have h2 := (N _ hm).1
    rw [hf] at h1
    rw [h1] at h2
    rw [Option.some.inj h2] at e
    rw [hdd] at e; cases e
  refine ⟨m', (feed, fo) :: news.filter (fun q => decide (L' < q.1)), h', tk, rfl, F, fun q hq => ?_, fo, _, p', d, rfl, hF, hp, fun q hq => ?_, datIn_seqs (fun q hq hx => List.mem_filter.mpr ⟨hq, decide_eq_true (hno q hq hx)⟩) hd, hD⟩
  · rcases List.mem_cons.mp hq with rfl | hq
    · exact N _ hm
    · exact N _ (List.mem_filter.mp hq).1
  · exact of_decide_eq_true (List.mem_filter.mp hq).2

section
open LCg
variable {prog : Program} {w : World} {A : Around} {h₀ : Heap} {L : Addr} {m : Str → Option Value} {env : Env} {elt : PySem.Expr} {x : Str} {scope : Scope} {cl : List (Str × Addr)} {s : Shared} {S : Led → Prop} {P : Nat → Value → Prop} {Fin : List Value → Led → Prop}
/-- a comprehension's turns by an invariant of the turn, the items so far and the ledger -/
theorem compRest_ind (n : Nat) (J : Nat → List Value → Led → Prop)
    (turn : ∀ i ys news v I oI C oC D m₂ h tk (E' : Value → Shared → Prop), i < n → P i v → J i ys news → NsObj oC m₂ → m₂ x = some v → Fr h₀ L h m → News h₀ L h ((I, oI) :: (C, oC) :: (D, lst ys) :: news) → Off3 I C D news → ((@Ne Nat I C) ∧ (@Ne Nat I D) ∧ (@Ne Nat C D)) →
      wpAny (model prog w) A (eval elt (compEnvC scope cl C env)) (CompEnd h₀ L m { s with heap := h, toks := tk } I oI C oC D (lst ys) S (fun y news' => J (i + 1) (ys ++ [y]) news')) E' { s with heap := h, toks := tk })
    (fin : ∀ ys news, J n ys news → Fin ys news) :
    ∀ k i ys news, i + k = n → J i ys news → CompRest prog w A h₀ L m env elt x scope cl s S P Fin k i ys news
  | 0, i, ys, news, hik, hj => fin ys news (by rw [Nat.add_zero] at hik; exact hik ▸ hj)
  | k + 1, i, ys, news, hik, hj => CompRest.succ fun v I oI C oC D m₂ h tk E' hP hC hx F N off ne =>
      wpAny_mono (turn i ys news v I oI C oC D m₂ h tk E' (by omega) hP hj hC hx F N off ne) (fun y s₂ ⟨h', tk', news', e, F', N', off', hS, hr⟩ => ⟨h', tk', news', e, F', N', off', hS, compRest_ind n J turn fin k (i + 1) _ news' (by omega) hr⟩) fun _ _ e => e

/-- an element that draws -/
def FeedElt (w : World) (A : Around) (h₀ : Heap) (L : Addr) (m : Str → Option Value) (env : Env) (elt : PySem.Expr) (x : Str) (scope : Scope) (cl : List (Str × Addr)) (s : Shared) (P : Value → Prop) (feed c : Addr) (k : Nat) (D : Dat → Prop) (must : Led) : Prop :=
  ∀ (C : Addr) (oC : Obj) (m₂ : Str → Option Value) (v : Value) (h : Heap) (tk : Nat) (fo : Obj) (p : Nat) (rest : Led) (Q E : Value → Shared → Prop), NsObj oC m₂ → m₂ x = some v → P v → Fr h₀ L h m → News h₀ L h ((feed, fo) :: (C, oC) :: rest) → C ≠ feed → (∀ q ∈ rest, q.1 ≠ feed) → (∀ q ∈ must, q ∈ rest) →
    FeedObj w fo c p → p + k < 100000 →
    (∀ r fo' tl p' d h' tk', Fr h₀ L h' m → News h₀ L h' ((feed, fo') :: (tl ++ (C, oC) :: rest)) → FeedObj w fo' c p' → p' ≤ p + k → (∀ q ∈ tl, L < q.1) → (∀ q ∈ tl, ∀ q' ∈ (feed, fo) :: (C, oC) :: rest, q'.1 < q.1) → DatIn tl r d → D d → Q r { s with heap := h', toks := tk' }) →
    wpAny (model PySem.Challenge.rw_pc0027_01.row.prog w) A (eval elt (compEnvC scope cl C env)) Q E { s with heap := h, toks := tk }

theorem compSrc_feed {Q : Value → Shared → Prop} {s₁ : Shared} {r : Addr} {a b : Int} {t u v : Tok} {news : Led} {feed c : Addr} {fo : Obj} {p : Nat} (n k : Nat) (D : Dat → Prop) (rest : Led) (must : Led)
    (hh : A.handled = none) (F : Fr h₀ L s₁.heap m) (N : News h₀ L s₁.heap news) (hr : IsRange s₁.heap r a b 1 t u v) (hsm : Builtin.Range.small a b 1 = true) (hn : Builtin.Range.rangeSize a b 1 = ((n : Nat) : Int)) (hsz : n ≤ sizeLine)
    (hm : (feed, fo) ∈ news) (hs : ∀ q ∈ rest, q ∈ news) (hap : ∀ q ∈ rest, q.1 ≠ feed) (hmust : ∀ q ∈ must, q ∈ rest) (hF : FeedObj w fo c p) (hp : p + n * k < 100000)
    (helt : ∀ g, FeedElt w A h₀ L m env elt x scope cl { s₁ with heap := g } (fun v => ∃ i t, v = .int i t) feed c k D must)
    (fin : ∀ l h tk fo' p' tl ys ds, Fr h₀ L h m → News h₀ L h ((l, lst ys) :: (feed, fo') :: (tl ++ rest)) → FeedObj w fo' c p' → p' ≤ p + n * k → (∀ q ∈ tl, L < q.1) → (∀ q ∈ tl, q.1 ≠ feed) → l ≠ feed → DatAll tl ys ds → (∀ d ∈ ds, D d) → ds.length = n → Q (.ref l) { s₁ with heap := h, toks := tk }) :
    CompSrc PySem.Challenge.rw_pc0027_01.row.prog w A h₀ L m env elt x scope cl (fun s₂ => FinE h₀ L m s₂ Q) (.ref r) s₁ := by
  refine CompSrc.range (n := n) (news := (feed, fo) :: rest) hh F (fun q hq => ?_) hr hsm hn hsz fun g => ?_
  · rcases List.mem_cons.mp hq with rfl | hq
    · exact N _ hm
    · exact N _ (hs q hq)
  refine compRest_ind n (fun i ys nw => ∃ fo' p' tl ds, nw = (feed, fo') :: (tl ++ rest) ∧ FeedObj w fo' c p' ∧ p' ≤ p + i * k ∧ (∀ q ∈ tl, L < q.1) ∧ (∀ q ∈ tl, q.1 ≠ feed) ∧ DatAll tl ys ds ∧ (∀ d ∈ ds, D d) ∧ ds.length = i) ?_ ?_ n 0 [] ((feed, fo) :: rest) (Nat.zero_add _)
    ⟨fo, p, [], [], rfl, hF, by omega, (fun _ h => nomatch h), (fun _ h => nomatch h), .nil, (fun _ h => nomatch h), rfl⟩
  · rintro i ys nw v I oI C oC l m₂ h tk E' hi ⟨t, rfl⟩ ⟨fo', p', tl, ds, rfl, hF', hp', htl, htf, hd, hD, hl⟩ hC hx F' N' off ne
    have off' := off.mem
    have hfo := off' _ (List.mem_cons_self (a := (feed, fo')))
    have hik : i * k + k ≤ n * k := by
      have := Nat.mul_le_mul_right k (show i + 1 ≤ n from hi)
      rw [Nat.add_mul, Nat.one_mul] at this; exact this
    refine helt g C oC m₂ _ h tk fo' p' ((I, oI) :: (l, lst ys) :: (tl ++ rest)) _ E' hC hx ⟨_, _, rfl⟩ F' (fun q hq => N' q ?_) (Ne.symm hfo.2.1) ?_ (fun q hq => .tail _ (.tail _ (List.mem_append_right _ (hmust q hq)))) hF' (by omega) ?_
    · rcases List.mem_cons.mp hq with rfl | hq
      · exact .tail _ (.tail _ (.tail _ (.head _)))
      rcases List.mem_cons.mp hq with rfl | hq
      · exact .tail _ (.head _)
      rcases List.mem_cons.mp hq with rfl | hq
      · exact .head _
      rcases List.mem_cons.mp hq with rfl | hq
      · exact .tail _ (.tail _ (.head _))
      · exact .tail _ (.tail _ (.tail _ (.tail _ hq)))
    · intro q hq
      rcases List.mem_cons.mp hq with rfl | hq
      · exact Ne.symm hfo.1
      rcases List.mem_cons.mp hq with rfl | hq
      · exact Ne.symm hfo.2.2
      rcases List.mem_append.mp hq with hq | hq
      · exact htf q hq
      · exact hap q hq
    · intro r fo'' tl' p'' d h' tk' F'' N'' hF'' hp'' hL' hfr hd' hD'
      have big : ∀ q ∈ tl', q.1 ≠ I ∧ q.1 ≠ C ∧ q.1 ≠ l ∧ q.1 ≠ feed := fun q hq =>
        ⟨Nat.ne_of_gt (hfr q hq (I, oI) (.tail _ (.tail _ (.head _)))), Nat.ne_of_gt (hfr q hq (C, oC) (.tail _ (.head _))), Nat.ne_of_gt (hfr q hq (l, lst ys) (.tail _ (.tail _ (.tail _ (.head _))))), Nat.ne_of_gt (hfr q hq (feed, fo') (.head _))⟩
      refine CompEnd.intro F'' N'' ((feed, fo'') :: ((tl' ++ tl) ++ rest)) (fun q hq => ?_) (Off3.of fun q hq => ?_) trivial ⟨fo'', p'', tl' ++ tl, ds ++ [d], rfl, hF'', by rw [Nat.add_mul, Nat.one_mul]; omega, ?_, ?_, (hd.mono fun q hq => List.mem_append_right _ hq).append (DatAll.one (hd'.mono fun q hq => List.mem_append_left _ hq)), ?_, by rw [List.length_append, hl]; rfl⟩
      · rcases List.mem_cons.mp hq with rfl | hq
        · exact .tail _ (List.mem_append_right _ (.tail _ (.head _)))
        rcases List.mem_cons.mp hq with rfl | hq
        · exact .tail _ (List.mem_append_right _ (.head _))
        rcases List.mem_cons.mp hq with rfl | hq
        · exact .tail _ (List.mem_append_right _ (.tail _ (.tail _ (.head _))))
        rcases List.mem_cons.mp hq with rfl | hq
        · exact .head _
        rcases List.mem_append.mp hq with hq | hq
        · rcases List.mem_append.mp hq with hq | hq
          · exact .tail _ (List.mem_append_left _ hq)
          · exact .tail _ (List.mem_append_right _ (.tail _ (.tail _ (.tail _ (List.mem_append_left _ hq)))))
        · exact .tail _ (List.mem_append_right _ (.tail _ (.tail _ (.tail _ (List.mem_append_right _ hq)))))
      · rcases List.mem_cons.mp hq with rfl | hq
        · exact hfo
        rcases List.mem_append.mp hq with hq | hq
        · rcases List.mem_append.mp hq with hq | hq
          · exact ⟨(big q hq).1, (big q hq).2.1, (big q hq).2.2.1⟩
          · exact off' q (.tail _ (List.mem_append_left _ hq))
        · exact off' q (.tail _ (List.mem_append_right _ hq))
      · intro q hq
        rcases List.mem_append.mp hq with hq | hq
        · exact hL' q hq
        · exact htl q hq
      · intro q hq
        rcases List.mem_append.mp hq with hq | hq
        · exact (big q hq).2.2.2
        · exact htf q hq
      · intro e he
        rcases List.mem_append.mp he with he | he
        · exact hD e he
        · rw [List.mem_singleton.mp he]; exact hD'
  · rintro ys nw ⟨fo', p', tl, ds, rfl, hF', hp', htl, htf, hd, hD, hl⟩ l h tk F' N' off
    have hlf : l ≠ feed := by
      have := off.1
      exact fun e => this e.symm
    exact fin l h tk fo' p' tl ys ds F' N' hF' hp' htl htf hlf hd hD hl
end

theorem FeedFn.useA {w : World} {f : Addr} {args : List Value} {dd k : Nat} {D : Dat → Prop} (C : FeedFn w f args dd k D) (pre : Led) {dp un : Nat} {fr : Option (List Env)} {gd : Option (List Code)} {s : Shared} {feed c : Addr} {fo : Obj} {p : Nat}
    {h₀ : Heap} {L : Addr} {m : Str → Option Value} {Q E : Value → Shared → Prop} {post : Led}
    (hd : dp + dd < recursionLimit) (hp : p + k < 100000) (hF : FeedObj w fo c p) (hc : CellsAt h₀ c) (hne : c ≠ feed) (hfl : feed < L) (G : G0 w h₀) (F : Fr h₀ L s.heap m) (N : News h₀ L s.heap (pre ++ (feed, fo) :: post))
    (hlow : ∀ q ∈ pre ++ post, L < q.1)
    (ret : ∀ r fo' arch p' d h' tk', Fr h₀ L h' m → News h₀ L h' ((feed, fo') :: arch) → FeedObj w fo' c p' → p' ≤ p + k → (∀ q ∈ arch, L < q.1) → (∀ q ∈ pre ++ post, q ∈ arch) → DatIn arch r d → D d → Q r { s with heap := h', toks := tk' }) :
    wpAny (model PySem.Challenge.rw_pc0027_01.row.prog w) ⟨none, dp, fr, gd, un⟩ (call (.ref f) (.ref feed :: args)) Q E s :=
  FeedFn.use C (pre ++ post) hd hp hF hc hne G F N (List.mem_append_right _ (.head _)) (fun q hq => (List.mem_append.mp hq).elim (fun h => List.mem_append_left _ h) fun h => List.mem_append_right _ (.tail _ h))
    (fun q hq => Nat.ne_of_gt (Nat.lt_trans hfl (hlow q hq))) fun r fo' tl p' d h' tk' F' N' hF' hp' hL hfr hd' hD =>
      ret r fo' (tl ++ (pre ++ post)) p' d h' tk' F' N' hF' hp' (fun q hq => (List.mem_append.mp hq).elim (hL q) (hlow q)) (fun q hq => List.mem_append_right _ hq) (hd'.mono fun q hq => List.mem_append_left _ hq) hD

theorem of_allLt {d : Addr} : ∀ {l : Led}, AllLt d l → ∀ p ∈ l, p.1 < d
  | [], _, _, h => nomatch h
  | q :: r, x, p, h => by
    rcases List.mem_cons.mp h with rfl | h
    · exact x.1
    · exact of_allLt x.2 p h
theorem datAll_ints {led : Led} : ∀ {is : List Int} {ys : List Value}, DatAll led ys (is.map .int) → DatAll [] ys (is.map .int)
  | [], _, h => by cases h; exact .nil
  | i :: is, _, h => by
    cases h with
    | cons h r => cases h; exact .cons (.int _ _) (datAll_ints r)

theorem old_of {T : Addr} {l l' : Led} (h : ∀ p ∈ l, p.1 < T) (hs : ∀ q ∈ l', q ∈ l) : ∀ q ∈ l', q.1 < T := fun q hq => h q (hs q hq)
theorem old_one {T : Addr} {o : Obj} {l : Led} (h : ∀ q' ∈ l, q'.1 < T) : ∀ q ∈ [(T, o)], ∀ q' ∈ l, q'.1 < q.1 := fun q hq => by rw [List.mem_singleton.mp hq]; exact h

theorem old_feed {T feed : Addr} {fo fo' : Obj} {tl l : Led} (h : ∀ p ∈ (feed, fo') :: (tl ++ l), p.1 < T) : ∀ q ∈ (feed, fo) :: l, q.1 < T :=
  List.forall_mem_cons.mpr ⟨h (feed, fo') (.head _), fun q hq => h q (.tail _ (List.mem_append_right _ hq))⟩

theorem FeedFn.useB {w : World} {f : Addr} {args : List Value} {dd k : Nat} {D : Dat → Prop} (C : FeedFn w f args dd k D) (cold : Led) {dp un : Nat} {fr : Option (List Env)} {gd : Option (List Code)} {s : Shared} {feed c : Addr} {fo : Obj} {p : Nat}
    {h₀ : Heap} {L : Addr} {m : Str → Option Value} {Q E : Value → Shared → Prop} {news : Led}
    (hd : dp + dd < recursionLimit) (hp : p + k < 100000) (hF : FeedObj w fo c p) (hc : CellsAt h₀ c) (hne : c ≠ feed) (hfl : feed < L) (G : G0 w h₀) (F : Fr h₀ L s.heap m) (N : News h₀ L s.heap news) (hm : (feed, fo) ∈ news) (hs : ∀ q ∈ cold, q ∈ news)
    (hlow : ∀ q ∈ cold, L < q.1)
    (ret : ∀ r fo' arch p' d h' tk', Fr h₀ L h' m → News h₀ L h' ((feed, fo') :: arch) → FeedObj w fo' c p' → p' ≤ p + k → (∀ q ∈ arch, L < q.1) → (∀ q ∈ cold, q ∈ arch) → DatIn arch r d → D d → Q r { s with heap := h', toks := tk' }) :
    wpAny (model PySem.Challenge.rw_pc0027_01.row.prog w) ⟨none, dp, fr, gd, un⟩ (call (.ref f) (.ref feed :: args)) Q E s :=
  FeedFn.useA C [] hd hp hF hc hne hfl G F (fun q hq => by
    rcases List.mem_cons.mp hq with rfl | hq
    · exact N _ hm
    · exact N _ (hs q hq)) hlow ret

section
open LCg
variable {w : World} {A : Around} {h₀ : Heap} {L : Addr} {m : Str → Option Value} {env : Env} {elt : PySem.Expr} {x : Str} {scope : Scope} {cl : List (Str × Addr)}
theorem compSrc_feedA {Q : Value → Shared → Prop} {s₁ : Shared} {r : Addr} {a b : Int} {t u v : Tok} {feed c : Addr} {fo : Obj} {p : Nat} (n k : Nat) (D : Dat → Prop) (pre : Led) {post : Led} (must : Led)
    (hh : A.handled = none) (F : Fr h₀ L s₁.heap m) (N : News h₀ L s₁.heap (pre ++ (feed, fo) :: post)) (hr : IsRange s₁.heap r a b 1 t u v) (hsm : Builtin.Range.small a b 1 = true) (hn : Builtin.Range.rangeSize a b 1 = ((n : Nat) : Int)) (hsz : n ≤ sizeLine)
    (hfl : feed < L) (hlow : ∀ q ∈ pre ++ post, L < q.1) (hmust : ∀ q ∈ must, q ∈ pre ++ post) (hF : FeedObj w fo c p) (hp : p + n * k < 100000)
    (helt : ∀ g, FeedElt w A h₀ L m env elt x scope cl { s₁ with heap := g } (fun v => ∃ i t, v = .int i t) feed c k D must)
    (fin : ∀ l h tk fo' p' arch ys ds, Fr h₀ L h m → News h₀ L h ((l, lst ys) :: (feed, fo') :: arch) → FeedObj w fo' c p' → p' ≤ p + n * k → (∀ q ∈ arch, L < q.1) → (∀ q ∈ pre ++ post, q ∈ arch) → l ≠ feed → DatAll arch ys ds → (∀ d ∈ ds, D d) → ds.length = n → Q (.ref l) { s₁ with heap := h, toks := tk }) :
    CompSrc PySem.Challenge.rw_pc0027_01.row.prog w A h₀ L m env elt x scope cl (fun s₂ => FinE h₀ L m s₂ Q) (.ref r) s₁ :=
  compSrc_feed n k D (pre ++ post) must hh F N hr hsm hn hsz (List.mem_append_right _ (.head _)) (fun q hq => (List.mem_append.mp hq).elim (fun h => List.mem_append_left _ h) fun h => List.mem_append_right _ (.tail _ h))
    (fun q hq => Nat.ne_of_gt (Nat.lt_trans hfl (hlow q hq))) hmust hF hp helt fun l h tk fo' p' tl ys ds F' N' hF' hp' hfr hne hlf hd hD hl =>
      fin l h tk fo' p' (tl ++ (pre ++ post)) ys ds F' N' hF' hp' (fun q hq => (List.mem_append.mp hq).elim (hfr q) (hlow q)) (fun q hq => List.mem_append_right _ hq) hlf (hd.mono fun q hq => List.mem_append_left _ hq) hD hl
end
local macro_rules | `(tactic| walk_at "m_1") => `(tactic| (first | (k_unfold; (try dsimp only)) | (k_end; wrow_close) | walk1 | (dsimp only; walk1) | (leave1; walk_say "STEP leave1"; try dsimp only) | fail "no step"))
local macro_rules | `(tactic| walk_at "m_new") => `(tactic| (intro D' h' F' N' l1 l2; (have l0 := l1); (try k_lt l1); (try k_lt2 l2); (try k_sweep)))
local macro_rules | `(tactic| walk_at "m_fill") => `(tactic| (have kfill : (PySem.Challenge.rw_pc0027_01.row.prog = PySem.Challenge.rw_pc0027_01.row.prog ∧ mk.heap_1 = mk.heap_1) := (by k_fill; exact ⟨rfl, rfl⟩); clear kfill))
local macro_rules | `(tactic| walk_at "m_enter") => `(tactic| (walk_at "m_fill"; refine' calls_of (by k_is) (by k_is) (by dsimp only; omega) (by exact BindsTo.of_eq rfl) (by exact locs rfl) ?_ (by rfl) (by rfl) (by rfl) (by decide); k_whole))
local macro_rules | `(tactic| walk_at "newTuple") => `(tactic| (k_here; k_dflt refine' newTuple_M (by k_asm) (by k_asm) ?_ (by kmk_size); walk_at "m_new"))
local macro_rules | `(tactic| walk_at "newList") => `(tactic| (k_here; k_dflt refine' newList_M (by k_asm) (by k_asm) ?_ (by kmk_size); walk_at "m_new"))
local macro_rules | `(tactic| walk_at "m_in") => `(tactic| first | with_reducible assumption | with_reducible exact List.mem_cons_self | (with_reducible refine List.mem_cons_of_mem _ ?_; walk_at "m_in") | (with_reducible refine List.mem_append_left _ ?_; walk_at "m_in") | (with_reducible refine List.mem_append_right _ ?_; walk_at "m_in"))
local macro_rules | `(tactic| walk_at "m_sub") => `(tactic| first | exact fun _ h => h | with_reducible exact List.forall_mem_nil _ | (with_reducible refine List.forall_mem_cons.mpr ⟨?_, ?_⟩; walk_at "m_in"; walk_at "m_sub") | (with_reducible refine List.forall_mem_append.mpr ⟨?_, ?_⟩; walk_at "m_sub"; walk_at "m_sub") | (intro q hq; walk_at "m_in"))
local macro_rules | `(tactic| walk_at "m_dat") => `(tactic| first | with_reducible exact DatIn.int _ _ | with_reducible exact DatIn.str _ _ | with_reducible assumption | (refine' DatIn.mono ?md1 ?md2; (case md2 => with_reducible assumption); (case md1 => walk_at "m_sub")) | (refine' DatIn.tuple ?md1 ?md2; (case md1 => walk_at "m_in"); (case md2 => walk_at "m_dats")) | (refine' DatIn.list ?md1 ?md2; (case md1 => walk_at "m_in"); (case md2 => walk_at "m_dats")))
local macro_rules | `(tactic| walk_at "m_dats") => `(tactic| first | with_reducible exact DatAll.nil | with_reducible assumption | (with_reducible refine' DatAll.cons ?md3 ?md4; (case md3 => walk_at "m_dat"); (case md4 => walk_at "m_dats")) | (refine' DatAll.mono ?md1 ?md2; (case md2 => with_reducible assumption); (case md1 => walk_at "m_sub")))
local macro_rules | `(tactic| walk_at "m_low") => `(tactic| first | with_reducible exact List.forall_mem_nil _ | (with_reducible refine' List.forall_mem_cons.mpr ⟨?ms1, ?ms2⟩; (case ms1 => (dsimp only; first | exact .inl rfl | (refine .inr ?_; first | assumption | exact Nat.lt_succ_self _ | (show @LT.lt Nat _ _ _; omega)))); (case ms2 => walk_at "m_low")) | (with_reducible refine List.forall_mem_append.mpr ⟨?_, ?_⟩; walk_at "m_low"; walk_at "m_low") | (intro q hq; refine .inr ?_; solve_by_elim))
local macro_rules | `(tactic| walk_at "m_fdone") => `(tactic| (refine' fdone_of ?mA ?mN ?mF ?mm ?mp ?ml ?mdd ?mD; (case mA => k_asm); (case mN => k_asm); (case mF => assumption); (case mm => k_mem); (case mp => omega); (case ml => walk_at "m_low"); (case mdd => walk_at "m_dat")))
local macro_rules | `(tactic| walk_at "m_enterC") => `(tactic| (walk_at "m_fill"; refine' calls_ofC (by k_is) (by k_is) (by dsimp only; omega) (by exact BindsTo.of_eq rfl) (by rfl) (by decide +kernel) ?_ (by rfl) (by rfl) (by rfl); k_whole))
local macro_rules | `(tactic| walk_at "m_size") => `(tactic| first | ((have hLd := DatAll.length (by assumption)); rw [sizeLine_eq]; omega) | kmk_size)
local macro_rules | `(tactic| walk_at "call type:tuple") => `(tactic| (k_here; (with_reducible show wpAny _ _ (call (Value.type _) [Value.ref _]) _ _ _); k_dflt refine' tuple_drop_M (by k_asm) (by k_asm) ?_ (by walk_at "m_size"); walk_at "m_new"))
local macro_rules | `(tactic| k_mem) => `(tactic| walk_at "m_in")
local macro_rules | `(tactic| walk_at "eval Name") => `(tactic| (k_here; (with_reducible show wpAny _ _ (eval (Expr.Name _ _) (compEnvC _ _ _ _)) _ _ _); k_dflt (first
  | (refine' lcf_cell (by k_asm) rfl (by walk_at "m_in") (by k_asm) ?_ rfl rfl; k_whole)
  | (refine' lcf_free (by k_asm) rfl (by walk_at "m_in") (by k_asm) ?_ rfl rfl; k_whole))))
local macro_rules | `(tactic| walk_at "m_lowP") => `(tactic| first | with_reducible exact List.forall_mem_nil _ | with_reducible assumption | (with_reducible refine' List.forall_mem_cons.mpr ⟨?ms1, ?ms2⟩; (case ms1 => (dsimp only; first | assumption | exact Nat.lt_succ_self _ | (show @LT.lt Nat _ _ _; omega))); (case ms2 => walk_at "m_lowP")) | (with_reducible refine List.forall_mem_append.mpr ⟨?_, ?_⟩; walk_at "m_lowP"; walk_at "m_lowP") | (intro q hq; solve_by_elim) | (dsimp only [List.cons_append, List.nil_append]; walk_at "m_lowP"))
local macro_rules | `(tactic| walk_at "m_om") => `(tactic| first | omega | (dsimp only; omega))
local macro_rules | `(tactic| walk_at "m_old") => `(tactic| (refine' old_of ?mo1 ?mo2; (case mo1 => assumption); (case mo2 => walk_at "m_sub")))
local macro_rules | `(tactic| k_tabat) => `(tactic| exact TabAt.keep (by with_reducible assumption) (Fr.keep (by k_asm)))
section
/-- what a draw gives -/
def DipD (many : Int) (d : Dat) : Prop := ∃ i, d = .int i ∧ 0 ≤ i ∧ i < many
theorem dip_fn {w : World} {many : Int} {t : Tok} (hm : 0 < many) (hm2 : many < 100) : FeedFn w 96 [.int many t] 1 1 (DipD many) := by
  intro dp un fr gd s feed c fo p hroom hp hF hcells hc
  obtain ⟨ws, ns, hl, hi, hlen⟩ := hcells
  walk_at "m_enter"
  intro g h₁ G F N hlow hkeep
  (try dsimp only)
  obtain ⟨X, mean, mg, mb, T⟩ := G
  obtain ⟨t1, hD⟩ := hF
  have hl' : g.IsList c ws.toArray := hl.at fun o e => hkeep c o e (by simpa using hc)
  (try k_fold)
  k_steps
  all_goals (refine done_of (led := [(feed, _)]) (by k_asm) (by k_asm) ?hs ⟨_, [], p + 1, _, rfl, ⟨_, by assumption⟩, Nat.le_refl _, (fun _ h => nomatch h), DatIn.int _ _, ⟨_, rfl, (fmod_range _ hm).1, (fmod_range _ hm).2⟩⟩; (case hs => (intro p hp; rw [List.mem_singleton.mp hp]; k_mem)))
end
section
def OneD (d : Dat) : Prop := ∃ i, d = .tuple [.str (Str.ofString "v"), .int i] ∧ 0 ≤ i ∧ i < 6
theorem one_fn {w : World} : FeedFn w 103 [] 2 1 OneD := by
  intro dp un fr gd s feed c fo p hroom hp hF hcells hc
  walk_at "m_enter"
  intro g h₁ G F N hlow hkeep
  (try dsimp only)
  have GG := G
  have hC : CellsAt g c := hcells.keeps fun o e => hkeep c o e (by simpa using hc)
  obtain ⟨X, mean, mg, mb, T⟩ := G
  (try k_fold)
  iterate 15 (walk_at "m_1")
  refine FeedFn.use (dip_fn (by decide) (by decide)) [] (by omega) (by omega) hF hC hc GG (by k_asm) (by k_asm) (by k_mem) (fun _ h => nomatch h) (fun _ h => nomatch h) ?_
  intro r fo' tl p' d h' tk' F' N' hF' hp' hne hfr hd' hD
  obtain ⟨i, rfl, h0, h6⟩ := hD
  cases hd'
  (try dsimp only)
  (try k_fold)
  k_steps
  walk_at "m_fdone"
  exact ⟨i, rfl, h0, h6⟩
def NumD (d : Dat) : Prop := ∃ i, d = .tuple [.str (Str.ofString "n"), .int i] ∧ 0 ≤ i ∧ i < 6
theorem num_fn {w : World} : FeedFn w 120 [] 2 1 NumD := by
  intro dp un fr gd s feed c fo p hroom hp hF hcells hc
  walk_at "m_enter"
  intro g h₁ G F N hlow hkeep
  (try dsimp only)
  have GG := G
  have hC : CellsAt g c := hcells.keeps fun o e => hkeep c o e (by simpa using hc)
  obtain ⟨X, mean, mg, mb, T⟩ := G
  (try k_fold)
  iterate 15 (walk_at "m_1")
  refine FeedFn.use (dip_fn (by decide) (by decide)) [] (by omega) (by omega) hF hC hc GG (by k_asm) (by k_asm) (by k_mem) (fun _ h => nomatch h) (fun _ h => nomatch h) ?_
  intro r fo' tl p' d h' tk' F' N' hF' hp' hne hfr hd' hD
  obtain ⟨i, rfl, h0, h6⟩ := hD
  cases hd'
  (try dsimp only)
  (try k_fold)
  k_steps
  walk_at "m_fdone"
  exact ⟨i, rfl, h0, h6⟩
end
section
def SomeD (kind : Str) (n : Nat) (b : Int) (d : Dat) : Prop := ∃ is : List Int, d = .tuple [.str kind, .tuple (is.map .int)] ∧ is.length = n ∧ ∀ i ∈ is, 0 ≤ i ∧ i < b
theorem dips_are {b : Int} : ∀ {ds : List Dat}, (∀ d ∈ ds, DipD b d) → ∃ is : List Int, ds = is.map .int ∧ is.length = ds.length ∧ ∀ i ∈ is, 0 ≤ i ∧ i < b
  | [], _ => ⟨[], rfl, rfl, fun _ h => nomatch h⟩
  | d :: ds, h => by
    obtain ⟨i, rfl, hi⟩ := h d (.head _)
    obtain ⟨is, rfl, hl, hr⟩ := dips_are fun d hd => h d (.tail _ hd)
    exact ⟨i :: is, rfl, by simp, fun j hj => by rcases List.mem_cons.mp hj with rfl | hj; exact hi; exact hr j hj⟩
theorem some_fn {w : World} {n : Nat} {t : Tok} (hn : n ≤ 3) : FeedFn w 108 [.int (n : Int) t] 2 3 (SomeD (Str.ofString "V") n 6) := by
  intro dp un fr gd s feed c fo p hroom hp hF hcells hc
  walk_at "m_enterC"
  intro g h₁ tk cells G F N Y hlow hkeep
  (try dsimp only)
  have GG := G
  have hC : CellsAt g c := hcells.keeps fun o e => hkeep c o e (by simpa using hc)
  obtain ⟨X, mean, mg, mb, T⟩ := G
  obtain ⟨o₁, hE, d1⟩ := CellsAre.one Y
  subst hE
  (try simp only [List.cons_append, List.nil_append] at N)
  have hfl : feed < s.heap.objs.size := hlow _ (.head _)
  (try k_fold)
  iterate 18 (walk_at "m_1")
  refine compSrc_feed n 1 (DipD 6) [(s.heap.objs.size + 1, o₁)] [(s.heap.objs.size + 1, o₁)] rfl (by k_asm) (by k_asm) (by assumption) (range_facts (by omega)).1 (range_facts (by omega)).2 (by rw [sizeLine_eq]; omega) (by k_mem) (by walk_at "m_sub") (fun q hq => ?_) (fun _ h => h) hF (by omega) ?_ ?_
  · rw [List.mem_singleton.mp hq]; exact Nat.ne_of_gt (Nat.lt_succ_of_lt hfl)
  · intro g1 C oC m₂ v h tk fo p rest Q E hNC hx hv F N hCf hap hmust hF hp ret
    have hcell := hmust _ (List.mem_singleton.mpr rfl)
    (try k_fold)
    iterate 10 (walk_at "m_1")
    refine FeedFn.use (dip_fn (by decide) (by decide)) ((C, oC) :: rest) (by omega) (by omega) hF hC hc GG (by k_asm) (by k_asm) (by k_mem) (by walk_at "m_sub") (List.forall_mem_cons.mpr ⟨hCf, hap⟩) ?_
    intro r fo' tl p' d h' tk' F' N' hF' hp' hL hfr hd' hD
    exact ret r fo' tl p' d h' tk' F' N' hF' (by omega) hL hfr hd' hD
  · intro l h tk fo' p' tl ys ds F N hF' hp' hfr hne hlf hd hD hl
    obtain ⟨is, rfl, hlen, hr⟩ := dips_are hD
    k_steps
    walk_at "m_fdone"
    exact ⟨is, rfl, by omega, hr⟩
theorem data_fn {w : World} {n : Nat} {t : Tok} (hn : n ≤ 3) : FeedFn w 113 [.int (n : Int) t] 2 3 (SomeD (Str.ofString "n") n 6) := by
  intro dp un fr gd s feed c fo p hroom hp hF hcells hc
  walk_at "m_enterC"
  intro g h₁ tk cells G F N Y hlow hkeep
  (try dsimp only)
  have GG := G
  have hC : CellsAt g c := hcells.keeps fun o e => hkeep c o e (by simpa using hc)
  obtain ⟨X, mean, mg, mb, T⟩ := G
  obtain ⟨o₁, hE, d1⟩ := CellsAre.one Y
  subst hE
  (try simp only [List.cons_append, List.nil_append] at N)
  have hfl : feed < s.heap.objs.size := hlow _ (.head _)
  (try k_fold)
  iterate 18 (walk_at "m_1")
  refine compSrc_feed n 1 (DipD 6) [(s.heap.objs.size + 1, o₁)] [(s.heap.objs.size + 1, o₁)] rfl (by k_asm) (by k_asm) (by assumption) (range_facts (by omega)).1 (range_facts (by omega)).2 (by rw [sizeLine_eq]; omega) (by k_mem) (by walk_at "m_sub") (fun q hq => ?_) (fun _ h => h) hF (by omega) ?_ ?_
  · rw [List.mem_singleton.mp hq]; exact Nat.ne_of_gt (Nat.lt_succ_of_lt hfl)
  · intro g1 C oC m₂ v h tk fo p rest Q E hNC hx hv F N hCf hap hmust hF hp ret
    have hcell := hmust _ (List.mem_singleton.mpr rfl)
    (try k_fold)
    iterate 10 (walk_at "m_1")
    refine FeedFn.use (dip_fn (by decide) (by decide)) ((C, oC) :: rest) (by omega) (by omega) hF hC hc GG (by k_asm) (by k_asm) (by k_mem) (by walk_at "m_sub") (List.forall_mem_cons.mpr ⟨hCf, hap⟩) ?_
    intro r fo' tl p' d h' tk' F' N' hF' hp' hL hfr hd' hD
    exact ret r fo' tl p' d h' tk' F' N' hF' (by omega) hL hfr hd' hD
  · intro l h tk fo' p' tl ys ds F N hF' hp' hfr hne hlf hd hD hl
    obtain ⟨is, rfl, hlen, hr⟩ := dips_are hD
    k_steps
    walk_at "m_fdone"
    exact ⟨is, rfl, by omega, hr⟩
end
section
/-- a row of a machine -/
def RowD (d : Dat) : Prop := ∃ is : List Int, d = .tuple (is.map .int) ∧ is.length = 2 ∧ ∀ i ∈ is, 0 ≤ i ∧ i < 3
def NumT (i : Int) : Dat := .tuple [.str (Str.ofString "n"), .int i]
def MachD (n : Nat) (d : Dat) : Prop := ∃ v rows st fi, SomeD (Str.ofString "V") n 6 v ∧ (∀ r ∈ rows, RowD r) ∧ rows.length = 2 ∧ 1 ≤ st ∧ st ≤ 2 ∧ 1 ≤ fi ∧ fi ≤ 2 ∧
  d = .list [v, NumT 2, NumT 2, .tuple [.str (Str.ofString "n"), .tuple rows], NumT st, .tuple [.str (Str.ofString "n"), .tuple [.int fi]]]
theorem mach_fn {w : World} {n : Nat} {t : Tok} (hn : n ≤ 3) : FeedFn w 125 [.int (n : Int) t] 3 9 (MachD n) := by
  intro dp un fr gd s feed c fo p hroom hp hF hcells hc
  walk_at "m_enterC"
  intro g h₁ tk cells G F N Y hlow hkeep
  (try dsimp only)
  have GG := G
  have hC : CellsAt g c := hcells.keeps fun o e => hkeep c o e (by simpa using hc)
  obtain ⟨X, mean, mg, mb, T⟩ := G
  obtain ⟨o₁, hE, d1⟩ := CellsAre.one Y
  subst hE
  (try simp only [List.cons_append, List.nil_append] at N)
  have hfl : feed < s.heap.objs.size := hlow _ (.head _)
  (try k_fold)
  iterate 6 (walk_at "m_1")
  refine LCg.ListComp_U (F₀ := by k_asm) (by with_unfolding_all rfl) (by decide) (by rfl) (by decide) (by rfl) ?_
  iterate 7 (walk_at "m_1")
  refine compSrc_feed 2 2 RowD [(s.heap.objs.size + 1, o₁)] [(s.heap.objs.size + 1, o₁)] rfl (by k_asm) (by k_asm) (by assumption) (range_facts (n := 2) (by omega)).1 (range_facts (n := 2) (by omega)).2 (by rw [sizeLine_eq]; omega) (by k_mem) (by walk_at "m_sub") (fun q hq => ?_) (fun _ h => h) hF (by omega) ?_ ?_
  · rw [List.mem_singleton.mp hq]; exact Nat.ne_of_gt (Nat.lt_succ_of_lt hfl)
  · intro g1 C oC m₂ v h tk fo p rest Q E hNC hx hv F N hCf hap hmust hF hp ret
    have hcell := hmust _ (List.mem_singleton.mpr rfl)
    (try k_fold)
    iterate 5 (walk_at "m_1")
    refine LCg.ListComp_U (F₀ := by k_asm) (by with_unfolding_all rfl) (by decide) (by rfl) (by decide) (by rfl) ?_
    iterate 7 (walk_at "m_1")
    refine compSrc_feed 2 1 (DipD 3) ((C, oC) :: rest) [(s.heap.objs.size + 1, o₁)] rfl (by k_asm) (by k_asm) (by assumption) (range_facts (n := 2) (by omega)).1 (range_facts (n := 2) (by omega)).2 (by rw [sizeLine_eq]; omega) (by k_mem) (by walk_at "m_sub") (List.forall_mem_cons.mpr ⟨hCf, hap⟩) (by walk_at "m_sub") hF (by omega) ?_ ?_
    · intro g1 C2 oC2 m₃ v h tk fo p rest Q E hNC hx hv F N hCf hap hmust hF hp ret
      have hcell := hmust _ (List.mem_singleton.mpr rfl)
      (try k_fold)
      iterate 10 (walk_at "m_1")
      refine FeedFn.use (dip_fn (by decide) (by decide)) ((C2, oC2) :: rest) (by walk_at "m_om") (by omega) hF hC hc GG (by k_asm) (by k_asm) (by k_mem) (by walk_at "m_sub") (List.forall_mem_cons.mpr ⟨hCf, hap⟩) ?_
      intro r fo' tl p' d h' tk' F' N' hF' hp' hL hfr hd' hD
      exact ret r fo' tl p' d h' tk' F' N' hF' (by omega) hL hfr hd' hD
    · intro l h tk fo' p' tl ys ds F N hF' hp' hfr hne hlf hd hD hl
      obtain ⟨is, rfl, hlen, hr⟩ := dips_are hD
      have hd := datAll_ints hd
      k_steps
      refine ret _ fo' [(_, _)] p' (.tuple (is.map .int)) _ _ (by k_asm) (fun q hq => ‹News _ _ _ _› q ((show ∀ q ∈ _, q ∈ _ by walk_at "m_sub") q hq)) hF' (by omega) ?_ ?_ ?_ ⟨is, rfl, by omega, hr⟩
      · walk_at "m_lowP"
      · exact old_one (old_feed (fo' := fo') (tl := tl) (by assumption))
      · walk_at "m_dat"
  · intro l h tk fo' p' tl ys ds F N hF' hp' hfr hne hlf hd hD hl
    iterate 19 (walk_at "m_1")
    refine FeedFn.useA (dip_fn (by decide) (by decide)) [_] (by walk_at "m_om") (by omega) hF' hC hc hfl GG (by k_asm) (by k_asm) (by walk_at "m_lowP") ?_
    intro r fo1 A1 p1 d1 h1 tk1 F N hF1 hp1 hA1 hs1 hd1 hD1
    have hcell1 : (s.heap.objs.size + 1, o₁) ∈ A1 := hs1 _ (by walk_at "m_in")
    have hrows := (DatIn.tuple (hs1 _ (by walk_at "m_in")) (hd.mono fun q hq => hs1 q (by walk_at "m_in")) : DatIn A1 _ (Dat.tuple ds))
    obtain ⟨st, rfl, hst0, hst2⟩ := hD1
    cases hd1
    iterate 13 (walk_at "m_1")
    refine FeedFn.useA (dip_fn (by decide) (by decide)) [] (by walk_at "m_om") (by omega) hF1 hC hc hfl GG (by k_asm) (by k_asm) (by walk_at "m_lowP") ?_
    intro r fo2 A2 p2 d2 h2 tk2 F N hF2 hp2 hA2 hs2 hd2 hD2
    have hcell2 := hs2 _ hcell1
    replace hrows := hrows.mono hs2
    obtain ⟨fi, rfl, hfi0, hfi2⟩ := hD2
    cases hd2
    iterate 25 (walk_at "m_1")
    refine FeedFn.useA (some_fn hn) [_] (by walk_at "m_om") (by omega) hF2 hC hc hfl GG (by k_asm) (by k_asm) (by walk_at "m_lowP") ?_
    intro r fo3 A3 p3 d3 h3 tk3 F N hF3 hp3 hA3 hs3 hd3 hD3
    have hcell3 := hs3 _ (.tail _ hcell2)
    replace hrows := hrows.mono (fun q hq => hs3 q (.tail _ hq))
    obtain ⟨is, rfl, hil, hir⟩ := id hD3
    cases hd3 with
    | tuple hm3 hall3 =>
    have hd3 := DatIn.tuple hm3 hall3
    k_steps
    walk_at "m_fdone"
    exact ⟨_, ds, 1 + st, 1 + fi, hD3, hD, hl, by omega, by omega, by omega, by omega, rfl⟩
end
section
/-- a part of a constraint: a variable, some of them, plain data -/
inductive P0 where
  | v (i : Int)
  | V (is : List Int)
  | n (d : Dat)
inductive P1 where
  | p (x : P0)
  | t (w : Str) (ps : List P0)
abbrev tupI (is : List Int) : Dat := .tuple (is.map .int)
def P0.kind : P0 → Str
  | .v _ => Str.ofString "v"
  | .V _ => Str.ofString "V"
  | .n _ => Str.ofString "n"
def P0.dat : P0 → Dat
  | .v i => .int i
  | .V is => tupI is
  | .n d => d
def P0.pair (x : P0) : Dat := .tuple [.str x.kind, x.dat]
abbrev built0 (w : Str) (ps : List P0) : Dat := .list (.str w :: ps.map P0.pair)
def P1.kind : P1 → Str
  | .p x => x.kind
  | .t _ _ => Str.ofString "t"
def P1.dat : P1 → Dat
  | .p x => x.dat
  | .t w ps => built0 w ps
def P1.pair (x : P1) : Dat := .tuple [.str x.kind, x.dat]
abbrev built1 (w : Str) (ps : List P1) : Dat := .list (.str w :: ps.map P1.pair)
def Vars (is : List Int) : Prop := (∀ i ∈ is, 0 ≤ i ∧ i < 6) ∧ is.length ≤ 3
def Var (i : Int) : Prop := 0 ≤ i ∧ i < 6
abbrev anyOf (l : List Str) (x : Str) : Prop := (l.any fun y => y == x) = true
abbrev linWords : List Str := [Str.ofString "linear_le", Str.ofString "linear_eq", Str.ofString "linear_ne"]
abbrev triWords : List Str := [Str.ofString "times", Str.ofString "div", Str.ofString "mod", Str.ofString "xor"]
abbrev twoWords : List Str := [Str.ofString "inverse", Str.ofString "lex_le", Str.ofString "lex_lt", Str.ofString "clause"]
abbrev oneWords : List Str := [Str.ofString "circuit", Str.ofString "increasing"]
abbrev aggWords : List Str := [Str.ofString "max", Str.ofString "min", Str.ofString "nvalue", Str.ofString "and", Str.ofString "or"]
abbrev reiWords : List Str := [Str.ofString "reif", Str.ofString "imp"]
/-- a constraint over six variables, as it may be built -/
inductive Ok0 : Str → List P0 → Prop
  | lin {w a is b} : anyOf linWords w → a.length = is.length → Vars is → Ok0 w [.n (tupI a), .V is, .n (.int b)]
  | tri {w i j k} : anyOf triWords w → Var i → Var j → Var k → Ok0 w [.v i, .v j, .v k]
  | abs {w i j} : (w == Str.ofString "abs") = true → Var i → Var j → Ok0 w [.v i, .v j]
  | el {w i is j} : (w == Str.ofString "element") = true → Var i → Vars is → Var j → Ok0 w [.v i, .V is, .v j]
  | elof {w i a j} : (w == Str.ofString "element_of") = true → Var i → Var j → a.length ≤ 3 → Ok0 w [.v i, .n (tupI a), .v j]
  | prec {w a b is} : (w == Str.ofString "precede") = true → Vars is → Ok0 w [.n (.int a), .n (.int b), .V is]
  | two {w is js} : anyOf twoWords w → is.length = js.length → Vars is → Vars js → Ok0 w [.V is, .V js]
  | one {w is} : anyOf oneWords w → Vars is → Ok0 w [.V is]
  | alld {w is x} : (w == Str.ofString "all_different") = true → Vars is → anyOf [Str.ofString "bounds", Str.ofString "values"] x → Ok0 w [.V is, .n (.str x)]
  | table {w is rows} : (w == Str.ofString "table") = true → Vars is → (∀ r ∈ rows, ∃ a, r = tupI a ∧ a.length = is.length) → rows.length ≤ 3 → Ok0 w [.V is, .n (.tuple rows)]
  | disj {w is a} : (w == Str.ofString "disjunctive") = true → Vars is → a.length = is.length → (∀ i ∈ a, 0 ≤ i ∧ i < 6) → Ok0 w [.V is, .n (tupI a)]
  | count {w is a j} : (w == Str.ofString "count") = true → Vars is → Var j → Ok0 w [.V is, .n (.int a), .v j]
  | card {w is a b c} : (w == Str.ofString "cardinality") = true → Vars is → a.length = b.length → a.length = c.length → a.length ≤ 3 → Ok0 w [.V is, .n (tupI a), .n (tupI b), .n (tupI c)]
  | cumul {w is a b c} : (w == Str.ofString "cumulative") = true → Vars is → a.length = is.length → b.length = is.length → (∀ i ∈ a, 0 ≤ i ∧ i < 6) → (∀ i ∈ b, 0 ≤ i ∧ i < 6) → 0 ≤ c → c < 6 → Ok0 w [.V is, .n (tupI a), .n (tupI b), .n (.int c)]
  | agg {w is j} : anyOf aggWords w → is ≠ [] → Vars is → Var j → Ok0 w [.V is, .v j]
  | reg {w is r1 r2 st fi} : (w == Str.ofString "regular") = true → Vars is → RowD r1 → RowD r2 → 1 ≤ st → st ≤ 2 → 1 ≤ fi → fi ≤ 2 → Ok0 w [.V is, .n (.int 2), .n (.int 2), .n (.tuple [r1, r2]), .n (.int st), .n (.tuple [.int fi])]
abbrev listedWords : List Str := twoWords ++ oneWords ++ [Str.ofString "all_different", Str.ofString "table", Str.ofString "disjunctive", Str.ofString "count", Str.ofString "cardinality", Str.ofString "cumulative"] ++ aggWords
def ListedD (w : Str) (d : Dat) : Prop := ∃ ps, d = .list (ps.map P0.pair) ∧ Ok0 w ps

theorem datIn_ref {led : Led} {v : Value} {ds : List Dat} (h : DatIn led v (.tuple ds)) : ∃ a, v = .ref a := by cases h; exact ⟨_, rfl⟩
theorem datIn_refL {led : Led} {v : Value} {ds : List Dat} (h : DatIn led v (.list ds)) : ∃ a, v = .ref a := by cases h; exact ⟨_, rfl⟩
theorem datIn_int {led : Led} {v : Value} {i : Int} (h : DatIn led v (.int i)) : ∃ t, v = .int i t := by cases h; exact ⟨_, rfl⟩
theorem datIn_str {led : Led} {v : Value} {x : Str} (h : DatIn led v (.str x)) : ∃ t, v = .str x t := by cases h; exact ⟨_, rfl⟩
theorem datIn_pair {led : Led} {v : Value} {d1 d2 : Dat} (h : DatIn led v (.tuple [d1, d2])) : ∃ a k v1 v2, v = .ref a ∧ (a, ({ cls := .type "tuple", data := .seq [v1, v2].toArray k } : Obj)) ∈ led ∧ DatIn led v1 d1 ∧ DatIn led v2 d2 := by
  cases h with
  | tuple hm hall =>
    cases hall with
    | cons h1 r =>
      cases r with
      | cons h2 r2 =>
        cases r2
        exact ⟨_, _, _, _, rfl, hm, h1, h2⟩
def RowN (n : Nat) (d : Dat) : Prop := ∃ is : List Int, d = tupI is ∧ is.length = n ∧ ∀ i ∈ is, 0 ≤ i ∧ i < 6
end
section
theorem anyOf_eq {l : List Str} {x : Str} (h : anyOf l x) : x ∈ l := by
  obtain ⟨y, hy, e⟩ := List.any_eq_true.mp h
  rw [← eq_of_beq e]; exact hy
theorem listed_rest {x : Str} (h : anyOf listedWords x) (h1 : (twoWords.any fun y => y == x) = false) (h2 : (oneWords.any fun y => y == x) = false) (h3 : (x == Str.ofString "all_different") = false) (h4 : (x == Str.ofString "table") = false)
    (h5 : (x == Str.ofString "disjunctive") = false) (h6 : (x == Str.ofString "count") = false) (h7 : (x == Str.ofString "cardinality") = false) (h8 : (x == Str.ofString "cumulative") = false) : anyOf aggWords x := by
  have all : ∀ y ∈ listedWords, (twoWords.any fun z => z == y) = false → (oneWords.any fun z => z == y) = false → (y == Str.ofString "all_different") = false → (y == Str.ofString "table") = false → (y == Str.ofString "disjunctive") = false →
      (y == Str.ofString "count") = false → (y == Str.ofString "cardinality") = false → (y == Str.ofString "cumulative") = false → anyOf aggWords y := by decide +kernel
  exact all x (anyOf_eq h) h1 h2 h3 h4 h5 h6 h7 h8
theorem listed_fn {w : World} {n : Nat} {t tw : Tok} {word : Str} (hn : n ≤ 3) (hn1 : 1 ≤ n) (hw : anyOf listedWords word) : FeedFn w 130 [.str word tw, .int (n : Int) t] 3 12 (ListedD word) := by
  intro dp un fr gd s feed c fo0 p0 hroom hp hF0 hcells hc
  walk_at "m_enterC"
  intro g h₁ tk cells G F N Y hlow hkeep
  (try dsimp only)
  have GG := G
  have hC : CellsAt g c := hcells.keeps fun o e => hkeep c o e (by simpa using hc)
  obtain ⟨X, mean, mg, mb, T⟩ := G
  obtain ⟨o₁, o₂, hE, d1, d2⟩ := CellsAre.two Y
  subst hE
  (try simp only [List.cons_append, List.nil_append] at N)
  have hfl : feed < s.heap.objs.size := hlow _ (.head _)
  (try k_fold)
  iterate 11 (walk_at "m_1")
  refine FeedFn.useA (some_fn hn) [_, _] (by walk_at "m_om") (by omega) hF0 hC hc hfl GG (by k_asm) (by k_asm) (by walk_at "m_lowP") ?_
  intro r fo1 A1 p1 dd1 h1 tk1 F N hF1 hp1 hA1 hs1 hd1 hD1
  obtain ⟨is1, rfl, hil1, hir1⟩ := hD1
  obtain ⟨a1, rfl⟩ := datIn_ref hd1
  have hc1 := hs1 _ (.head _)
  have hc2 := hs1 _ (.tail _ (.head _))
  iterate 19 (walk_at "m_1")
  walk_at "m_1"
  · iterate 16 (walk_at "m_1")
    refine FeedFn.useB (some_fn hn) A1 (by walk_at "m_om") (by omega) hF1 hC hc hfl GG (by k_asm) (by k_asm) (by k_mem) (by walk_at "m_sub") hA1 ?_
    intro r fo2 A2 p2 dd2 h2 tk2 F N hF2 hp2 hA2 hs2 hd2 hD2
    replace hd1 := hd1.mono fun q hq => hs2 q hq
    obtain ⟨is2, rfl, hil2, hir2⟩ := hD2
    obtain ⟨a2, rfl⟩ := datIn_ref hd2
    k_steps
    walk_at "m_fdone"
    exact ⟨[.V is1, .V is2], rfl, .two (by assumption) (by omega) ⟨hir1, by omega⟩ ⟨hir2, by omega⟩⟩
  iterate 15 (walk_at "m_1")
  walk_at "m_1"
  · k_steps
    walk_at "m_fdone"
    exact ⟨[.V is1], rfl, .one (by assumption) ⟨hir1, by omega⟩⟩
  iterate 9 (walk_at "m_1")
  walk_at "m_1"
  · iterate 28 (walk_at "m_1")
    refine FeedFn.useA (dip_fn (by decide) (by decide)) [_, _, _] (by walk_at "m_om") (by omega) hF1 hC hc hfl GG (by k_asm) (by k_asm) (by walk_at "m_lowP") ?_
    intro r fo2 A2 p2 dd2 h2 tk2 F N hF2 hp2 hA2 hs2 hd2 hD2
    replace hd1 := hd1.mono fun q hq => hs2 q (by walk_at "m_in")
    obtain ⟨i2, rfl, hi2, hj2⟩ := hD2
    obtain ⟨t2, rfl⟩ := datIn_int hd2
    have hmen := hs2 _ (List.Mem.head _)
    have hcase : i2 = 0 ∨ i2 = 1 := by omega
    rcases hcase with rfl | rfl
    · k_steps
      walk_at "m_fdone"
      exact ⟨[.V is1, .n (.str (Str.ofString "values"))], rfl, .alld (by assumption) ⟨hir1, by omega⟩ (by decide)⟩
    · k_steps
      walk_at "m_fdone"
      exact ⟨[.V is1, .n (.str (Str.ofString "bounds"))], rfl, .alld (by assumption) ⟨hir1, by omega⟩ (by decide)⟩
  iterate 9 (walk_at "m_1")
  walk_at "m_1"
  · iterate 15 (walk_at "m_1")
    refine LCg.ListComp_U (F₀ := by k_asm) (by with_unfolding_all rfl) (by decide) (by rfl) (by decide) (by rfl) ?_
    iterate 7 (walk_at "m_1")
    refine compSrc_feed 2 3 (RowN n) A1 [(s.heap.objs.size + 1 + 1, o₁), (s.heap.objs.size + 1, o₂)] rfl (by k_asm) (by k_asm) (by assumption) (range_facts (n := 2) (by omega)).1 (range_facts (n := 2) (by omega)).2 (by rw [sizeLine_eq]; omega) (by k_mem) (by walk_at "m_sub") (fun q hq => Nat.ne_of_gt (Nat.lt_trans hfl (hA1 q hq))) (by walk_at "m_sub") hF1 (by omega) ?_ ?_
    · intro g1 C oC m₂ v h tk fo p rest Q E hNC hx hv F N hCf hap hmust hF hp ret
      have hcell1 := hmust _ (.head _)
      have hcell2 := hmust _ (.tail _ (.head _))
      (try k_fold)
      iterate 11 (walk_at "m_1")
      refine FeedFn.use (data_fn hn) ((C, oC) :: rest) (by walk_at "m_om") (by omega) hF hC hc GG (by k_asm) (by k_asm) (by k_mem) (by walk_at "m_sub") (List.forall_mem_cons.mpr ⟨hCf, hap⟩) ?_
      intro r fo' tl p' d h' tk' F' N' hF' hp' hL hfr hd' hD
      obtain ⟨is, rfl, hil, hir⟩ := hD
      obtain ⟨a, k, v1, v2, rfl, hm, hv1, hv2⟩ := datIn_pair hd'
      (try dsimp only)
      (try k_fold)
      k_steps
      exact ret v2 fo' tl p' (tupI is) _ _ (by k_asm) (by k_asm) hF' (by omega) hL hfr hv2 ⟨is, rfl, hil, hir⟩
    · intro l h tk fo' p' tl ys ds F N hF' hp' hfr hne hlf hd hD hl
      replace hd1 := hd1.mono (news' := tl ++ A1) fun q hq => List.mem_append_right _ hq
      k_steps
      walk_at "m_fdone"
      exact ⟨[.V is1, .n (.tuple ds)], rfl, .table (by assumption) ⟨hir1, by omega⟩ (fun r hr => by obtain ⟨a, e, hla, _⟩ := hD r hr; exact ⟨a, e, by omega⟩) (by omega)⟩
  iterate 9 (walk_at "m_1")
  walk_at "m_1"
  · iterate 16 (walk_at "m_1")
    refine FeedFn.useB (data_fn hn) A1 (by walk_at "m_om") (by omega) hF1 hC hc hfl GG (by k_asm) (by k_asm) (by k_mem) (by walk_at "m_sub") hA1 ?_
    intro r fo2 A2 p2 dd2 h2 tk2 F N hF2 hp2 hA2 hs2 hd2 hD2
    replace hd1 := hd1.mono fun q hq => hs2 q hq
    obtain ⟨is2, rfl, hil2, hir2⟩ := hD2
    obtain ⟨a2, rfl⟩ := datIn_ref hd2
    k_steps
    walk_at "m_fdone"
    exact ⟨[.V is1, .n (tupI is2)], rfl, .disj (by assumption) ⟨hir1, by omega⟩ (by omega) hir2⟩
  iterate 9 (walk_at "m_1")
  walk_at "m_1"
  · iterate 14 (walk_at "m_1")
    refine FeedFn.useB (num_fn) A1 (by walk_at "m_om") (by omega) hF1 hC hc hfl GG (by k_asm) (by k_asm) (by k_mem) (by walk_at "m_sub") hA1 ?_
    intro r fo2 A2 p2 dd2 h2 tk2 F N hF2 hp2 hA2 hs2 hd2 hD2
    replace hd1 := hd1.mono fun q hq => hs2 q hq
    obtain ⟨i2, rfl, hi2, hj2⟩ := hD2
    obtain ⟨a2, rfl⟩ := datIn_ref hd2
    replace hc1 := hs2 _ hc1
    replace hc2 := hs2 _ hc2
    iterate 8 (walk_at "m_1")
    refine FeedFn.useB (one_fn) A2 (by walk_at "m_om") (by omega) hF2 hC hc hfl GG (by k_asm) (by k_asm) (by k_mem) (by walk_at "m_sub") hA2 ?_
    intro r fo3 A3 p3 dd3 h3 tk3 F N hF3 hp3 hA3 hs3 hd3 hD3
    replace hd1 := hd1.mono fun q hq => hs3 q hq
    replace hd2 := hd2.mono fun q hq => hs3 q hq
    obtain ⟨i3, rfl, hi3, hj3⟩ := hD3
    obtain ⟨a3, rfl⟩ := datIn_ref hd3
    k_steps
    walk_at "m_fdone"
    exact ⟨[.V is1, .n (.int i2), .v i3], rfl, .count (by assumption) ⟨hir1, by omega⟩ ⟨hi3, hj3⟩⟩
  iterate 9 (walk_at "m_1")
  walk_at "m_1"
  · iterate 16 (walk_at "m_1")
    refine FeedFn.useB (data_fn (n := 2) (by omega)) A1 (by walk_at "m_om") (by omega) hF1 hC hc hfl GG (by k_asm) (by k_asm) (by k_mem) (by walk_at "m_sub") hA1 ?_
    intro r fo2 A2 p2 dd2 h2 tk2 F N hF2 hp2 hA2 hs2 hd2 hD2
    replace hd1 := hd1.mono fun q hq => hs2 q hq
    obtain ⟨is2, rfl, hil2, hir2⟩ := hD2
    obtain ⟨a2, rfl⟩ := datIn_ref hd2
    replace hc1 := hs2 _ hc1
    replace hc2 := hs2 _ hc2
    iterate 10 (walk_at "m_1")
    refine FeedFn.useB (data_fn (n := 2) (by omega)) A2 (by walk_at "m_om") (by omega) hF2 hC hc hfl GG (by k_asm) (by k_asm) (by k_mem) (by walk_at "m_sub") hA2 ?_
    intro r fo3 A3 p3 dd3 h3 tk3 F N hF3 hp3 hA3 hs3 hd3 hD3
    replace hd1 := hd1.mono fun q hq => hs3 q hq
    replace hd2 := hd2.mono fun q hq => hs3 q hq
    obtain ⟨is3, rfl, hil3, hir3⟩ := hD3
    obtain ⟨a3, rfl⟩ := datIn_ref hd3
    replace hc1 := hs3 _ hc1
    replace hc2 := hs3 _ hc2
    iterate 10 (walk_at "m_1")
    refine FeedFn.useB (data_fn (n := 2) (by omega)) A3 (by walk_at "m_om") (by omega) hF3 hC hc hfl GG (by k_asm) (by k_asm) (by k_mem) (by walk_at "m_sub") hA3 ?_
    intro r fo4 A4 p4 dd4 h4 tk4 F N hF4 hp4 hA4 hs4 hd4 hD4
    replace hd1 := hd1.mono fun q hq => hs4 q hq
    replace hd2 := hd2.mono fun q hq => hs4 q hq
    replace hd3 := hd3.mono fun q hq => hs4 q hq
    obtain ⟨is4, rfl, hil4, hir4⟩ := hD4
    obtain ⟨a4, rfl⟩ := datIn_ref hd4
    k_steps
    walk_at "m_fdone"
    exact ⟨[.V is1, .n (tupI is2), .n (tupI is3), .n (tupI is4)], rfl, .card (by assumption) ⟨hir1, by omega⟩ (by omega) (by omega) (by omega)⟩
  iterate 9 (walk_at "m_1")
  walk_at "m_1"
  · iterate 16 (walk_at "m_1")
    refine FeedFn.useB (data_fn hn) A1 (by walk_at "m_om") (by omega) hF1 hC hc hfl GG (by k_asm) (by k_asm) (by k_mem) (by walk_at "m_sub") hA1 ?_
    intro r fo2 A2 p2 dd2 h2 tk2 F N hF2 hp2 hA2 hs2 hd2 hD2
    replace hd1 := hd1.mono fun q hq => hs2 q hq
    obtain ⟨is2, rfl, hil2, hir2⟩ := hD2
    obtain ⟨a2, rfl⟩ := datIn_ref hd2
    replace hc1 := hs2 _ hc1
    replace hc2 := hs2 _ hc2
    iterate 10 (walk_at "m_1")
    refine FeedFn.useB (data_fn hn) A2 (by walk_at "m_om") (by omega) hF2 hC hc hfl GG (by k_asm) (by k_asm) (by k_mem) (by walk_at "m_sub") hA2 ?_
    intro r fo3 A3 p3 dd3 h3 tk3 F N hF3 hp3 hA3 hs3 hd3 hD3
    replace hd1 := hd1.mono fun q hq => hs3 q hq
    replace hd2 := hd2.mono fun q hq => hs3 q hq
    obtain ⟨is3, rfl, hil3, hir3⟩ := hD3
    obtain ⟨a3, rfl⟩ := datIn_ref hd3
    replace hc1 := hs3 _ hc1
    replace hc2 := hs3 _ hc2
    iterate 8 (walk_at "m_1")
    refine FeedFn.useB (num_fn) A3 (by walk_at "m_om") (by omega) hF3 hC hc hfl GG (by k_asm) (by k_asm) (by k_mem) (by walk_at "m_sub") hA3 ?_
    intro r fo4 A4 p4 dd4 h4 tk4 F N hF4 hp4 hA4 hs4 hd4 hD4
    replace hd1 := hd1.mono fun q hq => hs4 q hq
    replace hd2 := hd2.mono fun q hq => hs4 q hq
    replace hd3 := hd3.mono fun q hq => hs4 q hq
    obtain ⟨i4, rfl, hi4, hj4⟩ := hD4
    obtain ⟨a4, rfl⟩ := datIn_ref hd4
    k_steps
    walk_at "m_fdone"
    exact ⟨[.V is1, .n (tupI is2), .n (tupI is3), .n (.int i4)], rfl, .cumul (by assumption) ⟨hir1, by omega⟩ (by omega) (by omega) hir2 hir3 hi4 hj4⟩
  iterate 15 (walk_at "m_1")
  refine FeedFn.useB (one_fn) A1 (by walk_at "m_om") (by omega) hF1 hC hc hfl GG (by k_asm) (by k_asm) (by k_mem) (by walk_at "m_sub") hA1 ?_
  intro r fo2 A2 p2 dd2 h2 tk2 F N hF2 hp2 hA2 hs2 hd2 hD2
  replace hd1 := hd1.mono fun q hq => hs2 q hq
  obtain ⟨i2, rfl, hi2, hj2⟩ := hD2
  obtain ⟨a2, rfl⟩ := datIn_ref hd2
  k_steps
  walk_at "m_fdone"
  exact ⟨[.V is1, .v i2], rfl, .agg (listed_rest hw (by assumption) (by assumption) (by assumption) (by assumption) (by assumption) (by assumption) (by assumption) (by assumption)) (fun e => by rw [e] at hil1; simp at hil1; omega) ⟨hir1, by omega⟩ ⟨hi2, hj2⟩⟩
end
section
abbrev otherWords : List Str := [Str.ofString "abs", Str.ofString "element", Str.ofString "element_of", Str.ofString "precede", Str.ofString "regular"]
abbrev flatWords : List Str := linWords ++ triWords ++ otherWords ++ listedWords
abbrev allWords : List Str := flatWords ++ reiWords
theorem lin_slice {x : Str} (h : anyOf allWords x) (e : (Txt.slice x none (some 7) == Str.ofString "linear_") = true) : anyOf linWords x := by
  have all : ∀ y ∈ allWords, (Txt.slice y none (some 7) == Str.ofString "linear_") = true → anyOf linWords y := by decide +kernel
  exact all x (anyOf_eq h) e
theorem slice_lin {x : Str} (h : anyOf linWords x) (e : (Txt.slice x none (some 7) == Str.ofString "linear_") = false) : False := by
  have all : ∀ y ∈ linWords, (Txt.slice y none (some 7) == Str.ofString "linear_") = true := by decide +kernel
  rw [all x (anyOf_eq h)] at e; cases e
theorem word_len {x : Str} (h : anyOf allWords x) : x.length ≤ sizeLine := by
  have all : ∀ y ∈ allWords, y.length ≤ 20 := by decide +kernel
  have := all x (anyOf_eq h)
  rw [sizeLine_eq]; omega
theorem anyOf_mem {l : List Str} {x : Str} (h : x ∈ l) : anyOf l x := List.any_eq_true.mpr ⟨x, h, beq_self_eq_true x⟩
theorem anyOf_sub {l l' : List Str} {x : Str} (h : anyOf l x) (hs : ∀ y ∈ l, y ∈ l') : anyOf l' x := anyOf_mem (hs x (anyOf_eq h))
theorem lin_all {x : Str} (h : anyOf linWords x) : anyOf allWords x := anyOf_sub h (by decide +kernel)
def Built0D (word : Str) (d : Dat) : Prop := ∃ ps, d = built0 word ps ∧ Ok0 word ps
theorem built_lin_fn {w : World} {tw : Tok} {word : Str} (hw : anyOf linWords word) : FeedFn w 135 [.str word tw] 3 20 (Built0D word) := by
  intro dp un fr gd s feed c fo0 p0 hroom hp hF0 hcells hc
  walk_at "m_enterC"
  intro g h₁ tk cells G F N Y hlow hkeep
  (try dsimp only)
  have GG := G
  have hC : CellsAt g c := hcells.keeps fun o e => hkeep c o e (by simpa using hc)
  obtain ⟨X, mean, mg, mb, T⟩ := G
  obtain ⟨o₁, hE, d1⟩ := CellsAre.one Y
  subst hE
  (try simp only [List.cons_append, List.nil_append] at N)
  have hfl : feed < s.heap.objs.size := hlow _ (.head _)
  have hall := lin_all hw
  have hwl : word.length ≤ sizeLine := word_len hall
  (try k_fold)
  iterate 13 (walk_at "m_1")
  refine FeedFn.useA (dip_fn (by decide) (by decide)) [_] (by walk_at "m_om") (by omega) hF0 hC hc hfl GG (by k_asm) (by k_asm) (by walk_at "m_lowP") ?_
  intro r fo1 A1 p1 dd1 h1 tk1 F N hF1 hp1 hA1 hs1 hd1 hD1
  obtain ⟨i1, rfl, hi1, hj1⟩ := hD1
  obtain ⟨t1, rfl⟩ := datIn_int hd1
  have hc1 := hs1 _ (.head _)
  obtain ⟨k, rfl⟩ := Int.eq_ofNat_of_zero_le hi1
  have hk : k < 3 := by omega
  iterate 17 (walk_at "m_1")
  walk_at "m_1"
  · iterate 16 (walk_at "m_1")
    refine FeedFn.useB (data_fn (n := 1 + k) (by omega)) A1 (by walk_at "m_om") (by omega) hF1 hC hc hfl GG (by k_asm) (by k_asm) (by k_mem) (by walk_at "m_sub") hA1 ?_
    intro r fo2 A2 p2 dd2 h2 tk2 F N hF2 hp2 hA2 hs2 hd2 hD2
    obtain ⟨is2, rfl, hil2, hir2⟩ := hD2
    obtain ⟨a2, rfl⟩ := datIn_ref hd2
    replace hc1 := hs2 _ hc1
    iterate 10 (walk_at "m_1")
    refine FeedFn.useB (some_fn (n := 1 + k) (by omega)) A2 (by walk_at "m_om") (by omega) hF2 hC hc hfl GG (by k_asm) (by k_asm) (by k_mem) (by walk_at "m_sub") hA2 ?_
    intro r fo3 A3 p3 dd3 h3 tk3 F N hF3 hp3 hA3 hs3 hd3 hD3
    replace hd2 := hd2.mono fun q hq => hs3 q hq
    obtain ⟨is3, rfl, hil3, hir3⟩ := hD3
    obtain ⟨a3, rfl⟩ := datIn_ref hd3
    replace hc1 := hs3 _ hc1
    iterate 8 (walk_at "m_1")
    refine FeedFn.useB (num_fn) A3 (by walk_at "m_om") (by omega) hF3 hC hc hfl GG (by k_asm) (by k_asm) (by k_mem) (by walk_at "m_sub") hA3 ?_
    intro r fo4 A4 p4 dd4 h4 tk4 F N hF4 hp4 hA4 hs4 hd4 hD4
    replace hd2 := hd2.mono fun q hq => hs4 q hq
    replace hd3 := hd3.mono fun q hq => hs4 q hq
    obtain ⟨i4, rfl, hi4, hj4⟩ := hD4
    obtain ⟨a4, rfl⟩ := datIn_ref hd4
    k_steps
    walk_at "m_fdone"
    exact ⟨[.n (tupI is2), .V is3, .n (.int i4)], rfl, .lin hw (by omega) ⟨hir3, by omega⟩⟩
  exact (slice_lin hw (by assumption)).elim
end
section
theorem ones_are : ∀ {ds : List Dat}, (∀ d ∈ ds, OneD d) → ∃ js : List Int, ds = (js.map P0.v).map P0.pair ∧ (∀ j ∈ js, Var j) ∧ js.length = ds.length
  | [], _ => ⟨[], rfl, (fun _ h => nomatch h), rfl⟩
  | d :: ds, h => by
    obtain ⟨i, rfl, hi⟩ := h d (.head _)
    obtain ⟨js, rfl, hj, hl⟩ := ones_are fun d hd => h d (.tail _ hd)
    exact ⟨i :: js, rfl, fun j hj' => by rcases List.mem_cons.mp hj' with rfl | hj'; exact hi; exact hj j hj', by simp⟩
theorem two_long {α : Type} {l : List α} (h : l.length = 2) : ∃ a b, l = [a, b] := by
  match l, h with
  | [a, b], _ => exact ⟨a, b, rfl⟩
theorem three_long {α : Type} {l : List α} (h : l.length = 3) : ∃ a b c, l = [a, b, c] := by
  match l, h with
  | [a, b, c], _ => exact ⟨a, b, c, rfl⟩
theorem tri_of {x : Str} (h : ([Str.ofString "times", Str.ofString "div", Str.ofString "mod", Str.ofString "xor", Str.ofString "abs"].any fun y => y == x) = true) (h2 : (x == Str.ofString "abs") = false) : anyOf triWords x := by
  have all : ∀ y ∈ [Str.ofString "times", Str.ofString "div", Str.ofString "mod", Str.ofString "xor", Str.ofString "abs"], (y == Str.ofString "abs") = false → anyOf triWords y := by decide +kernel
  exact all x (anyOf_eq h) h2
theorem rest_listed {x : Str} (h : anyOf allWords x) (h1 : (Txt.slice x none (some 7) == Str.ofString "linear_") = false) (h2 : ([Str.ofString "times", Str.ofString "div", Str.ofString "mod", Str.ofString "xor", Str.ofString "abs"].any fun y => y == x) = false) (h3 : (reiWords.any fun y => y == x) = false)
    (h4 : (x == Str.ofString "element") = false) (h5 : (x == Str.ofString "element_of") = false) (h6 : (x == Str.ofString "precede") = false) (h7 : (x == Str.ofString "regular") = false) : anyOf listedWords x := by
  have all : ∀ y ∈ allWords, (Txt.slice y none (some 7) == Str.ofString "linear_") = false → ([Str.ofString "times", Str.ofString "div", Str.ofString "mod", Str.ofString "xor", Str.ofString "abs"].any fun z => z == y) = false → (reiWords.any fun z => z == y) = false →
      (y == Str.ofString "element") = false → (y == Str.ofString "element_of") = false → (y == Str.ofString "precede") = false → (y == Str.ofString "regular") = false → anyOf listedWords y := by decide +kernel
  exact all x (anyOf_eq h) h1 h2 h3 h4 h5 h6 h7
theorem ok0_len {w : Str} {ps : List P0} (h : Ok0 w ps) : ps.length ≤ 6 := by cases h <;> simp
theorem pair_p (qs : List P0) : (qs.map P1.p).map P1.pair = qs.map P0.pair := by rw [List.map_map]; rfl
theorem flat_pairs (w : Str) (qs : List P0) : Dat.list (.str w :: qs.map P0.pair) = built1 w (qs.map P1.p) := by show _ = Dat.list (.str w :: (qs.map P1.p).map P1.pair); rw [pair_p]
inductive Ok1 : Str → List P1 → Prop
  | flat {w ps} : Ok0 w ps → Ok1 w (ps.map .p)
  | rei {w i v qs} : anyOf reiWords w → Var i → anyOf linWords v → Ok0 v qs → Ok1 w [.p (.v i), .t v qs]
def BuiltD (word : Str) (d : Dat) : Prop := ∃ ps, d = built1 word ps ∧ Ok1 word ps
theorem built_fn {w : World} {tw : Tok} {word : Str} (hall : anyOf allWords word) : FeedFn w 135 [.str word tw] 4 40 (BuiltD word) := by
  intro dp un fr gd s feed c fo0 p0 hroom hp hF0 hcells hc
  walk_at "m_enterC"
  intro g h₁ tk cells G F N Y hlow hkeep
  (try dsimp only)
  have GG := G
  have hC : CellsAt g c := hcells.keeps fun o e => hkeep c o e (by simpa using hc)
  obtain ⟨X, mean, mg, mb, T⟩ := G
  obtain ⟨o₁, hE, d1⟩ := CellsAre.one Y
  subst hE
  (try simp only [List.cons_append, List.nil_append] at N)
  have hfl : feed < s.heap.objs.size := hlow _ (.head _)
  have hwl : word.length ≤ sizeLine := word_len hall
  (try k_fold)
  iterate 13 (walk_at "m_1")
  refine FeedFn.useA (dip_fn (by decide) (by decide)) [_] (by walk_at "m_om") (by omega) hF0 hC hc hfl GG (by k_asm) (by k_asm) (by walk_at "m_lowP") ?_
  intro r fo1 A1 p1 dd1 h1 tk1 F N hF1 hp1 hA1 hs1 hd1 hD1
  obtain ⟨i1, rfl, hi1, hj1⟩ := hD1
  obtain ⟨t1, rfl⟩ := datIn_int hd1
  have hc1 := hs1 _ (.head _)
  obtain ⟨k, rfl⟩ := Int.eq_ofNat_of_zero_le hi1
  have hk : k < 3 := by omega
  iterate 17 (walk_at "m_1")
  walk_at "m_1"
  · iterate 16 (walk_at "m_1")
    refine FeedFn.useB (data_fn (n := 1 + k) (by omega)) A1 (by walk_at "m_om") (by omega) hF1 hC hc hfl GG (by k_asm) (by k_asm) (by k_mem) (by walk_at "m_sub") hA1 ?_
    intro r fo2 A2 p2 dd2 h2 tk2 F N hF2 hp2 hA2 hs2 hd2 hD2
    obtain ⟨is2, rfl, hil2, hir2⟩ := hD2
    obtain ⟨a2, rfl⟩ := datIn_ref hd2
    replace hc1 := hs2 _ hc1
    iterate 10 (walk_at "m_1")
    refine FeedFn.useB (some_fn (n := 1 + k) (by omega)) A2 (by walk_at "m_om") (by omega) hF2 hC hc hfl GG (by k_asm) (by k_asm) (by k_mem) (by walk_at "m_sub") hA2 ?_
    intro r fo3 A3 p3 dd3 h3 tk3 F N hF3 hp3 hA3 hs3 hd3 hD3
    replace hd2 := hd2.mono fun q hq => hs3 q hq
    obtain ⟨is3, rfl, hil3, hir3⟩ := hD3
    obtain ⟨a3, rfl⟩ := datIn_ref hd3
    replace hc1 := hs3 _ hc1
    iterate 8 (walk_at "m_1")
    refine FeedFn.useB (num_fn) A3 (by walk_at "m_om") (by omega) hF3 hC hc hfl GG (by k_asm) (by k_asm) (by k_mem) (by walk_at "m_sub") hA3 ?_
    intro r fo4 A4 p4 dd4 h4 tk4 F N hF4 hp4 hA4 hs4 hd4 hD4
    replace hd2 := hd2.mono fun q hq => hs4 q hq
    replace hd3 := hd3.mono fun q hq => hs4 q hq
    obtain ⟨i4, rfl, hi4, hj4⟩ := hD4
    obtain ⟨a4, rfl⟩ := datIn_ref hd4
    k_steps
    walk_at "m_fdone"
    exact ⟨[.p (.n (tupI is2)), .p (.V is3), .p (.n (.int i4))], rfl, .flat (.lin (lin_slice hall (by assumption)) (by omega) ⟨hir3, by omega⟩)⟩
  iterate 21 (walk_at "m_1")
  walk_at "m_1"
  · iterate 9 (walk_at "m_1")
    refine LCg.ListComp_U (F₀ := by k_asm) (by with_unfolding_all rfl) (by decide) (by rfl) (by decide) (by rfl) ?_
    iterate 10 (walk_at "m_1")
    walk_at "m_1"
    · iterate 3 (walk_at "m_1")
      refine compSrc_feedA 2 1 OneD [_, _] [(s.heap.objs.size + 1, o₁)] rfl (by k_asm) (by k_asm) (by assumption) (range_facts (n := 2) (by omega)).1 (range_facts (n := 2) (by omega)).2 (by rw [sizeLine_eq]; omega) hfl (by walk_at "m_lowP") (by walk_at "m_sub") hF1 (by omega) ?_ ?_
      · intro g1 C oC m₂ v h tk fo p rest Q E hNC hx hv F N hCf hap hmust hF hp ret
        have hcell1 := hmust _ (.head _)
        (try k_fold)
        iterate 8 (walk_at "m_1")
        refine FeedFn.use (one_fn) ((C, oC) :: rest) (by walk_at "m_om") (by omega) hF hC hc GG (by k_asm) (by k_asm) (by k_mem) (by walk_at "m_sub") (List.forall_mem_cons.mpr ⟨hCf, hap⟩) ?_
        intro r fo' tl p' d h' tk' F' N' hF' hp' hL hfr hd' hD
        exact ret r fo' tl p' d h' tk' F' N' hF' (by omega) hL hfr hd' hD
      · intro l h tk fo' p' A2 ys ds F N hF' hp' hA2 hs2 hlf hd hD hl
        have hw0 := hs2 _ (List.Mem.head _)
        refine add_lists_M ((feed, fo') :: A2) (by k_asm) (by k_asm) (.tail _ (.tail _ hw0)) (.head _) (by walk_at "m_sub") (by have := hd.length; rw [sizeLine_eq]; simp only [List.length_cons, List.length_nil]; omega) ?_
        intro T0 h0 F N l1 l2
        obtain ⟨js, rfl, hjs, hjl⟩ := ones_are hD
        obtain ⟨j1, j2, rfl⟩ := two_long (hjl.trans hl)
        (try k_fold)
        k_steps
        refine fdone_of (by k_asm) (by k_asm) hF' (by k_mem) (by omega) (by walk_at "m_low") (DatIn.list (List.Mem.head _) (DatAll.cons (DatIn.str _ _) (hd.mono fun q hq => .tail _ (.tail _ hq)))) ?_
        exact ⟨[.p (.v j1), .p (.v j2)], rfl, .flat (.abs (by assumption) (hjs _ (.head _)) (hjs _ (.tail _ (.head _))))⟩
    · iterate 3 (walk_at "m_1")
      refine compSrc_feedA 3 1 OneD [_, _] [(s.heap.objs.size + 1, o₁)] rfl (by k_asm) (by k_asm) (by assumption) (range_facts (n := 3) (by omega)).1 (range_facts (n := 3) (by omega)).2 (by rw [sizeLine_eq]; omega) hfl (by walk_at "m_lowP") (by walk_at "m_sub") hF1 (by omega) ?_ ?_
      · intro g1 C oC m₂ v h tk fo p rest Q E hNC hx hv F N hCf hap hmust hF hp ret
        have hcell1 := hmust _ (.head _)
        (try k_fold)
        iterate 8 (walk_at "m_1")
        refine FeedFn.use (one_fn) ((C, oC) :: rest) (by walk_at "m_om") (by omega) hF hC hc GG (by k_asm) (by k_asm) (by k_mem) (by walk_at "m_sub") (List.forall_mem_cons.mpr ⟨hCf, hap⟩) ?_
        intro r fo' tl p' d h' tk' F' N' hF' hp' hL hfr hd' hD
        exact ret r fo' tl p' d h' tk' F' N' hF' (by omega) hL hfr hd' hD
      · intro l h tk fo' p' A2 ys ds F N hF' hp' hA2 hs2 hlf hd hD hl
        have hw0 := hs2 _ (List.Mem.head _)
        refine add_lists_M ((feed, fo') :: A2) (by k_asm) (by k_asm) (.tail _ (.tail _ hw0)) (.head _) (by walk_at "m_sub") (by have := hd.length; rw [sizeLine_eq]; simp only [List.length_cons, List.length_nil]; omega) ?_
        intro T0 h0 F N l1 l2
        obtain ⟨js, rfl, hjs, hjl⟩ := ones_are hD
        obtain ⟨j1, j2, j3, rfl⟩ := three_long (hjl.trans hl)
        (try k_fold)
        k_steps
        refine fdone_of (by k_asm) (by k_asm) hF' (by k_mem) (by omega) (by walk_at "m_low") (DatIn.list (List.Mem.head _) (DatAll.cons (DatIn.str _ _) (hd.mono fun q hq => .tail _ (.tail _ hq)))) ?_
        exact ⟨[.p (.v j1), .p (.v j2), .p (.v j3)], rfl, .flat (.tri (tri_of (by assumption) (by assumption)) (hjs _ (.head _)) (hjs _ (.tail _ (.head _))) (hjs _ (.tail _ (.tail _ (.head _)))))⟩
  iterate 15 (walk_at "m_1")
  walk_at "m_1"
  · iterate 14 (walk_at "m_1")
    refine FeedFn.useB (one_fn) A1 (by walk_at "m_om") (by omega) hF1 hC hc hfl GG (by k_asm) (by k_asm) (by k_mem) (by walk_at "m_sub") hA1 ?_
    intro r fo2 A2 p2 dd2 h2 tk2 F N hF2 hp2 hA2 hs2 hd2 hD2
    obtain ⟨i2, rfl, hi2, hj2⟩ := hD2
    obtain ⟨a2, rfl⟩ := datIn_ref hd2
    replace hc1 := hs2 _ hc1
    iterate 22 (walk_at "m_1")
    refine FeedFn.useB (dip_fn (by decide) (by decide)) A2 (by walk_at "m_om") (by omega) hF2 hC hc hfl GG (by k_asm) (by k_asm) (by k_mem) (by walk_at "m_sub") hA2 ?_
    intro r fo3 A3 p3 dd3 h3 tk3 F N hF3 hp3 hA3 hs3 hd3 hD3
    replace hd2 := hd2.mono fun q hq => hs3 q hq
    obtain ⟨i3, rfl, hi3, hj3⟩ := hD3
    obtain ⟨t3, rfl⟩ := datIn_int hd3
    replace hc1 := hs3 _ hc1
    have hcase : i3 = 0 ∨ i3 = 1 ∨ i3 = 2 := by omega
    rcases hcase with rfl | rfl | rfl
    · iterate 3 (walk_at "m_1")
      refine FeedFn.useB (built_lin_fn (by decide)) A3 (by walk_at "m_om") (by omega) hF3 hC hc hfl GG (by k_asm) (by k_asm) (by k_mem) (by walk_at "m_sub") hA3 ?_
      intro r fo4 A4 p4 dd4 h4 tk4 F N hF4 hp4 hA4 hs4 hd4 hD4
      replace hd2 := hd2.mono fun q hq => hs4 q hq
      obtain ⟨qs, rfl, hqs⟩ := hD4
      obtain ⟨a4, rfl⟩ := datIn_refL hd4
      k_steps
      walk_at "m_fdone"
      exact ⟨[.p (.v i2), .t (Str.ofString "linear_le") qs], rfl, .rei (by assumption) ⟨hi2, hj2⟩ (by decide) hqs⟩
    · iterate 3 (walk_at "m_1")
      refine FeedFn.useB (built_lin_fn (by decide)) A3 (by walk_at "m_om") (by omega) hF3 hC hc hfl GG (by k_asm) (by k_asm) (by k_mem) (by walk_at "m_sub") hA3 ?_
      intro r fo4 A4 p4 dd4 h4 tk4 F N hF4 hp4 hA4 hs4 hd4 hD4
      replace hd2 := hd2.mono fun q hq => hs4 q hq
      obtain ⟨qs, rfl, hqs⟩ := hD4
      obtain ⟨a4, rfl⟩ := datIn_refL hd4
      k_steps
      walk_at "m_fdone"
      exact ⟨[.p (.v i2), .t (Str.ofString "linear_eq") qs], rfl, .rei (by assumption) ⟨hi2, hj2⟩ (by decide) hqs⟩
    · iterate 3 (walk_at "m_1")
      refine FeedFn.useB (built_lin_fn (by decide)) A3 (by walk_at "m_om") (by omega) hF3 hC hc hfl GG (by k_asm) (by k_asm) (by k_mem) (by walk_at "m_sub") hA3 ?_
      intro r fo4 A4 p4 dd4 h4 tk4 F N hF4 hp4 hA4 hs4 hd4 hD4
      replace hd2 := hd2.mono fun q hq => hs4 q hq
      obtain ⟨qs, rfl, hqs⟩ := hD4
      obtain ⟨a4, rfl⟩ := datIn_refL hd4
      k_steps
      walk_at "m_fdone"
      exact ⟨[.p (.v i2), .t (Str.ofString "linear_ne") qs], rfl, .rei (by assumption) ⟨hi2, hj2⟩ (by decide) hqs⟩
  iterate 9 (walk_at "m_1")
  walk_at "m_1"
  · iterate 14 (walk_at "m_1")
    refine FeedFn.useB (one_fn) A1 (by walk_at "m_om") (by omega) hF1 hC hc hfl GG (by k_asm) (by k_asm) (by k_mem) (by walk_at "m_sub") hA1 ?_
    intro r fo2 A2 p2 dd2 h2 tk2 F N hF2 hp2 hA2 hs2 hd2 hD2
    obtain ⟨i2, rfl, hi2, hj2⟩ := hD2
    obtain ⟨a2, rfl⟩ := datIn_ref hd2
    replace hc1 := hs2 _ hc1
    iterate 10 (walk_at "m_1")
    refine FeedFn.useB (some_fn (n := 1 + k) (by omega)) A2 (by walk_at "m_om") (by omega) hF2 hC hc hfl GG (by k_asm) (by k_asm) (by k_mem) (by walk_at "m_sub") hA2 ?_
    intro r fo3 A3 p3 dd3 h3 tk3 F N hF3 hp3 hA3 hs3 hd3 hD3
    replace hd2 := hd2.mono fun q hq => hs3 q hq
    obtain ⟨is3, rfl, hil3, hir3⟩ := hD3
    obtain ⟨a3, rfl⟩ := datIn_ref hd3
    replace hc1 := hs3 _ hc1
    iterate 8 (walk_at "m_1")
    refine FeedFn.useB (one_fn) A3 (by walk_at "m_om") (by omega) hF3 hC hc hfl GG (by k_asm) (by k_asm) (by k_mem) (by walk_at "m_sub") hA3 ?_
    intro r fo4 A4 p4 dd4 h4 tk4 F N hF4 hp4 hA4 hs4 hd4 hD4
    replace hd2 := hd2.mono fun q hq => hs4 q hq
    replace hd3 := hd3.mono fun q hq => hs4 q hq
    obtain ⟨i4, rfl, hi4, hj4⟩ := hD4
    obtain ⟨a4, rfl⟩ := datIn_ref hd4
    k_steps
    walk_at "m_fdone"
    exact ⟨[.p (.v i2), .p (.V is3), .p (.v i4)], rfl, .flat (.el (by assumption) ⟨hi2, hj2⟩ ⟨hir3, by omega⟩ ⟨hi4, hj4⟩)⟩
  iterate 9 (walk_at "m_1")
  walk_at "m_1"
  · iterate 14 (walk_at "m_1")
    refine FeedFn.useB (one_fn) A1 (by walk_at "m_om") (by omega) hF1 hC hc hfl GG (by k_asm) (by k_asm) (by k_mem) (by walk_at "m_sub") hA1 ?_
    intro r fo2 A2 p2 dd2 h2 tk2 F N hF2 hp2 hA2 hs2 hd2 hD2
    obtain ⟨i2, rfl, hi2, hj2⟩ := hD2
    obtain ⟨a2, rfl⟩ := datIn_ref hd2
    replace hc1 := hs2 _ hc1
    iterate 10 (walk_at "m_1")
    refine FeedFn.useB (data_fn (n := 1 + k) (by omega)) A2 (by walk_at "m_om") (by omega) hF2 hC hc hfl GG (by k_asm) (by k_asm) (by k_mem) (by walk_at "m_sub") hA2 ?_
    intro r fo3 A3 p3 dd3 h3 tk3 F N hF3 hp3 hA3 hs3 hd3 hD3
    replace hd2 := hd2.mono fun q hq => hs3 q hq
    obtain ⟨is3, rfl, hil3, hir3⟩ := hD3
    obtain ⟨a3, rfl⟩ := datIn_ref hd3
    replace hc1 := hs3 _ hc1
    iterate 8 (walk_at "m_1")
    refine FeedFn.useB (one_fn) A3 (by walk_at "m_om") (by omega) hF3 hC hc hfl GG (by k_asm) (by k_asm) (by k_mem) (by walk_at "m_sub") hA3 ?_
    intro r fo4 A4 p4 dd4 h4 tk4 F N hF4 hp4 hA4 hs4 hd4 hD4
    replace hd2 := hd2.mono fun q hq => hs4 q hq
    replace hd3 := hd3.mono fun q hq => hs4 q hq
    obtain ⟨i4, rfl, hi4, hj4⟩ := hD4
    obtain ⟨a4, rfl⟩ := datIn_ref hd4
    k_steps
    walk_at "m_fdone"
    exact ⟨[.p (.v i2), .p (.n (tupI is3)), .p (.v i4)], rfl, .flat (.elof (by assumption) ⟨hi2, hj2⟩ ⟨hi4, hj4⟩ (by omega))⟩
  iterate 9 (walk_at "m_1")
  walk_at "m_1"
  · iterate 14 (walk_at "m_1")
    refine FeedFn.useB (num_fn) A1 (by walk_at "m_om") (by omega) hF1 hC hc hfl GG (by k_asm) (by k_asm) (by k_mem) (by walk_at "m_sub") hA1 ?_
    intro r fo2 A2 p2 dd2 h2 tk2 F N hF2 hp2 hA2 hs2 hd2 hD2
    obtain ⟨i2, rfl, hi2, hj2⟩ := hD2
    obtain ⟨a2, rfl⟩ := datIn_ref hd2
    replace hc1 := hs2 _ hc1
    iterate 8 (walk_at "m_1")
    refine FeedFn.useB (num_fn) A2 (by walk_at "m_om") (by omega) hF2 hC hc hfl GG (by k_asm) (by k_asm) (by k_mem) (by walk_at "m_sub") hA2 ?_
    intro r fo3 A3 p3 dd3 h3 tk3 F N hF3 hp3 hA3 hs3 hd3 hD3
    replace hd2 := hd2.mono fun q hq => hs3 q hq
    obtain ⟨i3, rfl, hi3, hj3⟩ := hD3
    obtain ⟨a3, rfl⟩ := datIn_ref hd3
    replace hc1 := hs3 _ hc1
    iterate 10 (walk_at "m_1")
    refine FeedFn.useB (some_fn (n := 1 + k) (by omega)) A3 (by walk_at "m_om") (by omega) hF3 hC hc hfl GG (by k_asm) (by k_asm) (by k_mem) (by walk_at "m_sub") hA3 ?_
    intro r fo4 A4 p4 dd4 h4 tk4 F N hF4 hp4 hA4 hs4 hd4 hD4
    replace hd2 := hd2.mono fun q hq => hs4 q hq
    replace hd3 := hd3.mono fun q hq => hs4 q hq
    obtain ⟨is4, rfl, hil4, hir4⟩ := hD4
    obtain ⟨a4, rfl⟩ := datIn_ref hd4
    k_steps
    walk_at "m_fdone"
    exact ⟨[.p (.n (.int i2)), .p (.n (.int i3)), .p (.V is4)], rfl, .flat (.prec (by assumption) ⟨hir4, by omega⟩)⟩
  iterate 16 (walk_at "m_1")
  walk_at "m_1"
  · iterate 9 (walk_at "m_1")
    refine FeedFn.useA (mach_fn (n := 1 + k) (by omega)) [_, _, _] (by walk_at "m_om") (by omega) hF1 hC hc hfl GG (by k_asm) (by k_asm) (by walk_at "m_lowP") ?_
    intro r fo2 A2 p2 dd2 h2 tk2 F N hF2 hp2 hA2 hs2 hd2 hD2
    have hw0 := hs2 _ (List.Mem.head _)
    obtain ⟨v, rows, st, fi, ⟨is2, rfl, hil2, hir2⟩, hrows, hrl, hst1, hst2, hfi1, hfi2, rfl⟩ := hD2
    obtain ⟨r1, r2, rfl⟩ := two_long hrl
    cases hd2 with
    | list hm2 hall2 =>
    (try k_fold)
    skip
    refine add_lists_M ((feed, fo2) :: A2) (by k_asm) (by k_asm) (.tail _ hw0) (.tail _ hm2) (by walk_at "m_sub") (by have := hall2.length; simp only [List.length_cons, List.length_nil, List.length_map] at this ⊢; rw [sizeLine_eq]; omega) ?_
    intro T0 h0 F N l1 l2
    (try k_fold)
    k_steps
    refine fdone_of (by k_asm) (by k_asm) hF2 (by k_mem) (by omega) (by walk_at "m_low") (DatIn.list (List.Mem.head _) (DatAll.cons (DatIn.str _ _) (hall2.mono fun q hq => .tail _ (.tail _ hq)))) ?_
    exact ⟨[.p (.V is2), .p (.n (.int 2)), .p (.n (.int 2)), .p (.n (.tuple [r1, r2])), .p (.n (.int st)), .p (.n (.tuple [.int fi]))], rfl, .flat (.reg (by assumption) ⟨hir2, by omega⟩ (hrows _ (.head _)) (hrows _ (.tail _ (.head _))) hst1 hst2 hfi1 hfi2)⟩
  · iterate 11 (walk_at "m_1")
    refine FeedFn.useA (listed_fn (n := 1 + k) (by omega) (by omega) (rest_listed hall (by assumption) (by assumption) (by assumption) (by assumption) (by assumption) (by assumption) (by assumption))) [_, _, _] (by walk_at "m_om") (by omega) hF1 hC hc hfl GG (by k_asm) (by k_asm) (by walk_at "m_lowP") ?_
    intro r fo2 A2 p2 dd2 h2 tk2 F N hF2 hp2 hA2 hs2 hd2 hD2
    have hw0 := hs2 _ (List.Mem.head _)
    obtain ⟨qs, rfl, hqs⟩ := hD2
    have hql := ok0_len hqs
    cases hd2 with
    | list hm2 hall2 =>
    (try k_fold)
    skip
    refine add_lists_M ((feed, fo2) :: A2) (by k_asm) (by k_asm) (.tail _ hw0) (.tail _ hm2) (by walk_at "m_sub") (by have := hall2.length; simp only [List.length_cons, List.length_nil, List.length_map] at this ⊢; rw [sizeLine_eq]; omega) ?_
    intro T0 h0 F N l1 l2
    (try k_fold)
    k_steps
    refine fdone_of (by k_asm) (by k_asm) hF2 (by k_mem) (by omega) (by walk_at "m_low") (DatIn.list (List.Mem.head _) (DatAll.cons (DatIn.str _ _) (hall2.mono fun q hq => .tail _ (.tail _ hq)))) ?_
    exact ⟨qs.map .p, flat_pairs _ _, .flat hqs⟩
end
section
/-- among some texts, as the walk says it -/
def among (l : List String) (x : Str) : Bool := (l.map Str.ofString).any fun y => y == x
def shapeOf (x : Str) : Str :=
  if ([Str.ofString "times", Str.ofString "div", Str.ofString "mod", Str.ofString "xor"].any fun y => y == x) = true then Str.ofString "vvv"
  else if ([Str.ofString "linear_le", Str.ofString "linear_eq", Str.ofString "linear_ne"].any fun y => y == x) = true then Str.ofString "nVn"
  else if ([Str.ofString "all_different", Str.ofString "table", Str.ofString "disjunctive"].any fun y => y == x) = true then Str.ofString "Vn"
  else if ([Str.ofString "max", Str.ofString "min", Str.ofString "nvalue", Str.ofString "and", Str.ofString "or"].any fun y => y == x) = true then Str.ofString "Vv"
  else if ([Str.ofString "inverse", Str.ofString "lex_le", Str.ofString "lex_lt", Str.ofString "clause"].any fun y => y == x) = true then Str.ofString "VV"
  else if ([Str.ofString "circuit", Str.ofString "increasing"].any fun y => y == x) = true then Str.ofString "V"
  else if ([Str.ofString "cardinality", Str.ofString "cumulative"].any fun y => y == x) = true then Str.ofString "Vnnn"
  else if ([Str.ofString "reif", Str.ofString "imp"].any fun y => y == x) = true then Str.ofString "vt"
  else if (x == Str.ofString "abs") = true then Str.ofString "vv"
  else if (x == Str.ofString "element") = true then Str.ofString "vVv"
  else if (x == Str.ofString "element_of") = true then Str.ofString "vnv"
  else if (x == Str.ofString "count") = true then Str.ofString "Vnv"
  else if (x == Str.ofString "precede") = true then Str.ofString "nnV"
  else Str.ofString "Vnnnnn"
theorem pick_t {c : Bool} {a b v : Str} (h : c = true) (e : v = a) : v = if c = true then a else b := by rw [if_pos h]; exact e
theorem pick_f {c : Bool} {a b v : Str} (h : c = false) (e : v = b) : v = if c = true then a else b := by rw [if_neg (by rw [h]; exact Bool.false_ne_true)]; exact e
theorem str_end {a b : Str} {t : Tok} (h : a = b) : ∃ t', Value.str a t = Value.str b t' := ⟨t, h ▸ rfl⟩
theorem shape_call {w : World} {dp un : Nat} {fr : Option (List Env)} {gd : Option (List Code)} {s : Shared} {x : Str} {t : Tok} (hroom : dp + 1 < recursionLimit) :
    Calls w ⟨none, dp, fr, gd, un⟩ 21 [.str x t] s [] (fun r led => led = [] ∧ ∃ t', r = .str (shapeOf x) t') := by
  walk_at "m_enter"
  intro g h₁ G F N hlow hkeep
  (try dsimp only)
  obtain ⟨X, mean, mg, mb, T⟩ := G
  (try k_fold)
  k_steps
  all_goals (dsimp only; refine done_of (led := []) (by k_asm) (by k_asm) (fun _ h => nomatch h) ⟨rfl, str_end ?_⟩; unfold shapeOf)
  all_goals (repeat (first | refine pick_t (by assumption) ?_ | refine pick_f (by assumption) ?_)) <;> rfl
end
section
open PyProof.V PySem.Spec
/-- the end of a turn: the loop's own objects as they were, the invariant of the next -/
def TurnEnd (g : Heap) (L : Addr) (wr : List Addr) (own : Led) (Jn : (Str → Option Value) → Led → Prop) (s₁ : Shared) (Q : Flow → Shared → Prop) (f : Flow) (s₂ : Shared) : Prop :=
  match f with
  | .ret v => Q (.ret v) s₂
  | .brk => Q .next s₂
  | _ => ∃ h' tk m' nx, s₂ = { s₁ with heap := h', toks := tk } ∧ Fr g L h' m' ∧ News g L h' (own ++ nx) ∧ (∀ p ∈ nx, p.1 ∉ wr) ∧ Jn m' nx
theorem turnEnd_of {g : Heap} {L : Addr} {wr : List Addr} {own : Led} {Jn : (Str → Option Value) → Led → Prop} {s₁ : Shared} {Q : Flow → Shared → Prop} {h' : Heap} {tk : Nat} {m' : Str → Option Value} {nx all : Led}
    (F : Fr g L h' m') (N : News g L h' all) (ho : ∀ q ∈ own, q ∈ all) (hn : ∀ q ∈ nx, q ∈ all) (hw : ∀ p ∈ nx, p.1 ∉ wr) (hj : Jn m' nx) : TurnEnd g L wr own Jn s₁ Q .next { s₁ with heap := h', toks := tk } :=
  ⟨h', tk, m', nx, rfl, F, fun q hq => (List.mem_append.mp hq).elim (fun h => N q (ho q h)) fun h => N q (hn q h), hw, hj⟩
/-- a new address is none of the loop's own -/
theorem fresh_wr {T : Addr} {wr : List Addr} {own nx : Led} (hw : ∀ b ∈ wr, ∃ o, (b, o) ∈ own) (ht : ∀ p ∈ own ++ nx, p.1 < T) : T ∉ wr := fun h => by
  obtain ⟨o, ho⟩ := hw T h
  exact absurd (ht _ (List.mem_append_left _ ho)) (Nat.lt_irrefl _)
section
variable {prog : Program} {w : World} {A : Around} {E : Value → Shared → Prop} {s : Shared} {env : Env} {g : Heap} {target : PySem.Expr} {body : List Stmt} {Q : Flow → Shared → Prop}
theorem turns_M {I : Addr} {fp wr : List Addr} {n : Nat} {P Md : Nat → Value → Heap → Prop} {St : Nat → Heap → Prop} {m : Str → Option Value} {news : Led} (W : KTurns prog w A target I fp wr n P Md St)
    (hLf : env.locals ∉ fp) (hwr : ∀ b ∈ wr, g.get? b = none) (hob : ∀ i h, St i h → ∀ b ∈ wr, ∃ o, h.get? b = some o) (hnw : ∀ p ∈ news, p.1 ∉ wr) (hst : St 0 s.heap) (F : Fr g env.locals s.heap m) (N : News g env.locals s.heap news)
    (J : Nat → (Str → Option Value) → Led → Prop) (h0 : J 0 m news)
    (turn : ∀ i v m₁ nx h₁ tk₁ own, i < n → P i v h₁ → J i m₁ nx → (∀ p ∈ own, p.1 ∈ fp) → (∀ b ∈ wr, ∃ o, (b, o) ∈ own) → (∀ p ∈ nx, p.1 ∉ wr) → Fr g env.locals h₁ m₁ → News g env.locals h₁ (own ++ nx) →
      wpAny (model prog w) A (assign target env v) (fun _ s₃ => wpAny (model prog w) A (execs body env) (TurnEnd g env.locals wr own (J (i + 1)) { s with heap := h₁, toks := tk₁ } Q) E s₃) E { s with heap := h₁, toks := tk₁ })
    (done : ∀ h' tk m' nx, Fr g env.locals h' m' → News g env.locals h' nx → J n m' nx → Q .next { s with heap := h', toks := tk }) :
    TurnsAt prog w A g env target body Q E (.ref I) s := by
  refine ⟨I, fp, wr, n, P, Md, St, m, news, J, rfl, W, hLf, hwr, hnw, hst, F, N, h0, ?_, fun h' tk m' news' F' N' _ hj => done h' tk m' news' F' N' hj⟩
  intro i v m₁ news₁ h₁ tk₁ own hi hP hJ hnw' hown hget hall hst' F₁ N₁
  refine wpAny_mono (turn i v m₁ news₁ h₁ tk₁ own hi hP hJ hown (fun b hb => ?_) hnw' F₁ N₁) (fun _ s₃ hx => wpAny_mono hx (fun f s₄ hf => ?_) fun _ _ e => e) fun _ _ e => e
  · obtain ⟨o, ho⟩ := hob _ _ hst' b hb
    exact ⟨o, hall b (W.sub b hb) (hwr b hb) o ho⟩
  · cases f with
    | ret v => exact .ret hf
    | brk => exact .brk hf
    | next => obtain ⟨h', tk, m', nx, e, F', N', hw, hj⟩ := hf; exact .next ⟨rfl, h', tk, m', nx, e, F', N', hw, hj⟩
    | cont => obtain ⟨h', tk, m', nx, e, F', N', hw, hj⟩ := hf; exact .cont ⟨rfl, h', tk, m', nx, e, F', N', hw, hj⟩

/-- for a, b in a list (of the ledger) of pairs that stand in the base -/
theorem pairs_M {l : Addr} {items : List Value} {k : Nat} {elts : List PySem.Expr} {ek : Nat} {epos : Pos} {m : Str → Option Value} {news rest : Led} (R : Nat → Value → Value → Prop)
    (hh : A.handled = none) (F : Fr g env.locals s.heap m) (N : News g env.locals s.heap news) (hl : (l, ({ cls := .type "list", data := .seq items.toArray k } : Obj)) ∈ news)
    (hit : ∀ j v, items[j]? = some v → ∃ T x y, v = .ref T ∧ IsTup g T #[x, y] ∧ R j x y) (hrs : ∀ q ∈ rest, q ∈ news)
    (J : Nat → (Str → Option Value) → Led → Prop) (h0 : J 0 m rest)
    (turn : ∀ i T x y m₁ nx h₁ tk₁ own wr, i < items.length → IsTup h₁ T #[x, y] → R i x y → J i m₁ nx → (∀ p ∈ own, p.1 ∈ wr ∨ p.1 = l) → (∀ b ∈ wr, ∃ o, (b, o) ∈ own) → (∀ p ∈ nx, p.1 ∉ wr) → Fr g env.locals h₁ m₁ → News g env.locals h₁ (own ++ nx) →
      wpAny (model prog w) A (assign (.Tuple elts ek epos) env (.ref T)) (fun _ s₃ => wpAny (model prog w) A (execs body env) (TurnEnd g env.locals wr own (J (i + 1)) { s with heap := h₁, toks := tk₁ } Q) E s₃) E { s with heap := h₁, toks := tk₁ })
    (done : ∀ h' tk m' nx, Fr g env.locals h' m' → News g env.locals h' nx → J items.length m' nx → Q .next { s with heap := h', toks := tk }) :
    wpAny (model prog w) A (pyIter (.ref l)) (fun it s₂ => TurnsAt prog w A g env (.Tuple elts ek epos) body Q E it s₂) E s := by
  have hls : s.heap.IsList l items.toArray := ⟨_, (N _ hl).1, rfl, k, rfl⟩
  have hlt : l < s.heap.objs.size := Heap.lt_size (N _ hl).1
  let Ts : Nat → Addr := fun j => match items[j]? with | some (.ref a) => a | _ => 0
  have hTs : ∀ j, j < items.length → ∃ x y, items[j]? = some (.ref (Ts j)) ∧ IsTup g (Ts j) #[x, y] ∧ R j x y := by
    intro j hj
    obtain ⟨T, x, y, e, ht, hr⟩ := hit j items[j] (by simp [hj])
    have e' : items[j]? = some (.ref T) := by rw [List.getElem?_eq_getElem hj, e]
    have : Ts j = T := by show (match items[j]? with | some (.ref a) => a | _ => 0) = T; rw [e']
    exact ⟨x, y, by rw [this]; exact e', by rw [this]; exact ht, hr⟩
  let vals : Nat → Array Value := fun j => if hj : j < items.length then #[Classical.choose (hTs j hj), Classical.choose (Classical.choose_spec (hTs j hj))] else #[]
  have hvals : ∀ j (hj : j < items.length), ∃ x y, vals j = #[x, y] ∧ items[j]? = some (.ref (Ts j)) ∧ IsTup g (Ts j) #[x, y] ∧ R j x y := by
    intro j hj
    have := Classical.choose_spec (Classical.choose_spec (hTs j hj))
    exact ⟨_, _, by simp only [vals, hj, dif_pos], this⟩
  have lT : ∀ j, j < items.length → Ts j < g.objs.size := fun j hj => by
    obtain ⟨x, y, _, _, ⟨o, ho, _⟩, _⟩ := hvals j hj
    exact Heap.lt_size ho
  have hI : ∀ j, j < items.length → Ts j ≠ s.heap.objs.size := fun j hj => Nat.ne_of_lt (Nat.lt_of_lt_of_le (lT j hj) (Nat.le_trans F.above (Nat.le_of_lt F.ns.lt)))
  have hsz : items.toArray.size = items.length := by simp
  refine wpAny_pyIter_list hls ?_
  have W := WalksU.listOfTuples (prog := prog) (w := w) hh s.heap.objs.size l (Nat.ne_of_lt hlt) items.toArray Ts vals (fun j hj => by
    obtain ⟨x, y, _, e, _⟩ := hvals j (by rw [← hsz]; exact hj); simpa using e) (fun j hj => hI j (by rw [← hsz]; exact hj))
  have W' := KTurns.ofWalksU (elts := elts) (k := ek) (pos := epos) W
  have up : ∀ b o, s.heap.get? b = some o → (s.heap.push { cls := .type "list_iterator", data := .fields #[.ref l, .int 0 0] }).get? b = some o := fun b o e => Heap.get?_push_of_some _ e
  have hg0 : g.get? s.heap.objs.size = none := next_is_new F
  rw [hsz] at W'
  refine turns_M (m := m) (news := rest) W' ?_ ?_ ?_ ?_ ?_ (F.push _) (fun q hq => ⟨up _ _ (N q (hrs q hq)).1, (N q (hrs q hq)).2⟩) J h0 ?_ done
  · intro hm
    rcases List.mem_cons.mp hm with e | hm
    · exact absurd F.ns.lt (e ▸ Nat.lt_irrefl _)
    · rcases List.mem_cons.mp hm with e | hm
      · exact (N _ hl).2.1 e.symm
      · obtain ⟨j, hj, e⟩ := List.mem_map.mp hm
        have := lT j (List.mem_range.mp hj)
        exact absurd (Nat.lt_of_lt_of_le this F.above) (e ▸ Nat.lt_irrefl _)
  · intro b hb
    rw [List.mem_singleton.mp hb]; exact hg0
  · rintro i h ⟨hit', _⟩ b hb
    rw [List.mem_singleton.mp hb]
    obtain ⟨o, e, _⟩ := hit'; exact ⟨o, e⟩
  · intro q hq hm
    exact absurd (Heap.lt_size (N q (hrs q hq)).1) ((List.mem_singleton.mp hm) ▸ Nat.lt_irrefl _)
  · refine ⟨⟨_, Heap.get?_push_size _ rfl, rfl, rfl⟩, hls.at fun o e => up _ _ e, fun j hj => ?_⟩
    obtain ⟨x, y, e, _, ht, _⟩ := hvals j (by rw [← hsz]; exact hj)
    rw [e]
    obtain ⟨o, ho, r⟩ := ht
    exact ⟨o, up _ _ (F.keep _ _ ho), r⟩
  · rintro i v m₁ nx h₁ tk₁ own hi ⟨T, vs, rfl, hv, ht⟩ hj hown hw hnx F₁ N₁
    obtain ⟨x, y, e, _, _, hr⟩ := hvals i hi
    have hv' : vs = #[x, y] := by rw [← e]; exact hv
    subst hv'
    refine turn i T x y m₁ nx h₁ tk₁ own _ hi ht hr hj (fun p hp => ?_) hw hnx F₁ N₁
    rcases List.mem_cons.mp (hown p hp) with e | hm
    · exact .inl (e ▸ .head _)
    · rcases List.mem_cons.mp hm with e | hm
      · exact .inr e
      · obtain ⟨j, hj, e⟩ := List.mem_map.mp hm
        obtain ⟨x, y, _, _, ⟨o, ho, _⟩, _⟩ := hvals j (by rw [← hsz]; exact List.mem_range.mp hj)
        have := (N₁ p (List.mem_append_left _ hp)).2.2
        rw [← e, ho] at this; cases this
end
end
section
theorem news_sub {h₀ h : Heap} {L : Addr} {a b : Led} (N : News h₀ L h a) (hs : ∀ q ∈ b, q ∈ a) : News h₀ L h b := fun q hq => N q (hs q hq)
theorem map_form {m : Str → Option Value} {x : Str} {v : Value} (h : m x = some v) : m = fun y => if y = x then some v else m y := by
  funext y
  by_cases e : y = x
  · subst e; rw [if_pos rfl]; exact h
  · rw [if_neg e]
section
open LCg
variable {prog : Program} {w : World} {A : Around} {E : Value → Shared → Prop} {s : Shared} {h₀ : Heap} {L : Addr} {m : Str → Option Value} {env : Env}
/-- a comprehension over a tuple of the base -/
theorem listComp_T {elt iter : PySem.Expr} {x : Str} {px : Pos} {scope : Scope} {cl : List (Str × Addr)} {pos : Pos} {Q : Value → Shared → Prop} (F₀ : Fr h₀ L s.heap m)
    (hclos : closureFor scope env = pure cl) (hcell : ∀ y ∈ scope.names, y.2 ≠ .cell) (hkind : scope.kind = .function)
    (hnames : ∀ y ∈ scope.names, y.2 = .local → scope.names.lookup y.1 = some .local) (hx : scope.names.lookup x = some .local)
    (h : wpAny (model prog w) A (eval iter env) (fun xv s₁ => ∃ t items news, xv = .ref t ∧ A.handled = none ∧ Fr h₀ L s₁.heap m ∧ News h₀ L s₁.heap news ∧ IsTup h₀ t (List.toArray items) ∧ items.length ≤ sizeLine ∧
      ∀ g', CompRest prog w A h₀ L m env elt x scope cl { s₁ with heap := g' } (fun _ => True) (fun i v => items[i]? = some v) (FinE h₀ L m { s₁ with heap := g' } Q) items.length 0 [] news) E s)
    (hs : ∀ x, foldedSetIterable iter env x = pure x := by intro _; rfl) :
    wpAny (model prog w) A (eval (.ListComp elt [⟨.Name x px, iter, [], 0⟩] scope pos) env) Q E s := by
  rw [eval_ListComp]
  refine wpAny_comprehension_free (use := none) rfl hs hclos hkind hnames (wpAny_mono h (fun xv s₁ h₁ => ?_) fun _ _ e => e)
  obtain ⟨t, items, news, rfl, hh, F, N, ht, hsz, R⟩ := h₁
  have ht' : s₁.heap.IsTuple t items.toArray := by obtain ⟨o, ho, r⟩ := ht; exact ⟨o, F.keep _ _ ho, r⟩
  have hlt : t < s₁.heap.objs.size := by obtain ⟨_, e, _⟩ := ht'; exact Heap.lt_size e
  have hlt0 : t < h₀.objs.size := by obtain ⟨_, e, _⟩ := ht; exact Heap.lt_size e
  refine wpAny_pyIter_tuple ht' ?_
  have up : ∀ b o, s₁.heap.get? b = some o → (s₁.heap.push { cls := .type "tuple_iterator", data := .fields #[.ref t, .int 0 0] }).get? b = some o := fun b o e => Heap.get?_push_of_some _ e
  have W := Walks.tuple (prog := prog) (w := w) hh s₁.heap.objs.size t (Nat.ne_of_lt hlt) items.toArray
  have hn : items.toArray.size = items.length := by simp
  rw [hn] at W
  have W' : Walks prog w A s₁.heap.objs.size [s₁.heap.objs.size, t] [s₁.heap.objs.size] items.length (fun i v => items[i]? = some v) (fun i h => h.IsTupleIter s₁.heap.objs.size t i ∧ h.IsTuple t items.toArray) :=
    { sub := W.sub, frame := W.frame, done := W.done, self := W.self,
      item := fun i s Q E hi st hQ => W.item i s Q E hi st fun v h' tk hP => hQ v h' tk (by simpa using hP) }
  refine block_U (S := fun _ => True) W' hsz (fun i h st => by obtain ⟨o, e, _⟩ := st.1; exact ⟨o, e⟩) (fun i h h' o nw st e e' k _ _ => ⟨by obtain ⟨o', q, r⟩ := st.1; rw [e] at q; cases q; exact ⟨o, e', r⟩, by obtain ⟨o', ho', r⟩ := ht; exact ⟨o', k _ _ ho', r⟩⟩) hcell hkind hx
    ⟨⟨_, Heap.get?_push_size _ rfl, rfl, rfl⟩, ht'.push _⟩ (fun b hb => ?_)
    (F.keeps up) (N.grown up) (Nat.ne_of_lt F.ns.lt) (next_is_new F) (fun p hp => Nat.ne_of_lt (Heap.lt_size (N p hp).1)) trivial (R _) ?_
  · show b < (s₁.heap.push _).objs.size
    rw [Heap.size_push]
    rcases List.mem_cons.mp hb with rfl | hb
    · exact Nat.lt_succ_self _
    · rw [List.mem_singleton.mp hb]; exact Nat.lt_succ_of_lt hlt
  · intro D C h tk m' ys news' F' N' o1 hn hC₀ hD₀ hCL hDL hCD offC fin
    refine ⟨m', hn, fun h'' hs'' => fin D h'' tk (F'.change hs'' hCL hC₀) (fun p hp => ?_) o1⟩
    refine ⟨hs''.extBut _ _ ?_ (N' p hp).1, (N' p hp).2⟩
    rcases List.mem_cons.mp hp with rfl | hp
    · exact Ne.symm hCD
    · exact offC p hp

/-- a comprehension's element that lets the ledger be, and what it gives -/
def FlatElt (prog : Program) (w : World) (A : Around) (h₀ : Heap) (L : Addr) (m : Str → Option Value) (env : Env) (elt : PySem.Expr) (x : Str) (scope : Scope) (cl : List (Str × Addr)) (s : Shared) (P : Nat → Value → Prop) (R : Nat → Value → Prop) (must : Led) : Prop :=
  ∀ (i : Nat) (v : Value) (C : Addr) (oC : Obj) (m₂ : Str → Option Value) (h : Heap) (tk : Nat) (news : Led) (Q E : Value → Shared → Prop), P i v → NsObj oC m₂ → m₂ x = some v → Fr h₀ L h m → News h₀ L h news → (C, oC) ∈ news → (∀ q ∈ must, q ∈ news) →
    (∀ y h' tk', R i y → Fr h₀ L h' m → News h₀ L h' news → Q y { s with heap := h', toks := tk' }) → wpAny (model prog w) A (eval elt (compEnvC scope cl C env)) Q E { s with heap := h, toks := tk }
theorem compT_flat {elt : PySem.Expr} {x : Str} {scope : Scope} {cl : List (Str × Addr)} {Q : Value → Shared → Prop} {s₁ : Shared} {t : Addr} {items : List Value} {news : Led} (R : Nat → Value → Prop) (must : Led)
    (hh : A.handled = none) (F : Fr h₀ L s₁.heap m) (N : News h₀ L s₁.heap news) (ht : IsTup h₀ t (List.toArray items)) (hsz : items.length ≤ sizeLine) (hmust : ∀ q ∈ must, q ∈ news)
    (helt : ∀ g', FlatElt prog w A h₀ L m env elt x scope cl { s₁ with heap := g' } (fun i v => items[i]? = some v) R must)
    (fin : ∀ D h tk ys, Fr h₀ L h m → News h₀ L h ((D, lst ys) :: news) → (∀ q ∈ news, q.1 ≠ D) → ys.length = items.length → (∀ i y, ys[i]? = some y → R i y) → Q (.ref D) { s₁ with heap := h, toks := tk }) :
    ∃ t' items' news', Value.ref t = .ref t' ∧ A.handled = none ∧ Fr h₀ L s₁.heap m ∧ News h₀ L s₁.heap news' ∧ IsTup h₀ t' (List.toArray items') ∧ items'.length ≤ sizeLine ∧
      ∀ g', CompRest prog w A h₀ L m env elt x scope cl { s₁ with heap := g' } (fun _ => True) (fun i v => items'[i]? = some v) (FinE h₀ L m { s₁ with heap := g' } Q) items'.length 0 [] news' := by
  refine ⟨t, items, news, rfl, hh, F, N, ht, hsz, fun g' => ?_⟩
  refine compRest_ind items.length (fun i ys nw => nw = news ∧ ys.length = i ∧ ∀ j y, ys[j]? = some y → R j y) ?_ ?_ items.length 0 [] news (Nat.zero_add _) ⟨rfl, rfl, fun j y h => by simp at h⟩
  · rintro i ys nw v I oI C oC D m₂ h tk E' hi hP ⟨rfl, hl, hr⟩ hC hx F' N' off ne
    refine helt g' i v C oC m₂ h tk _ _ E' hP hC hx F' N' (.tail _ (.head _)) (fun q hq => .tail _ (.tail _ (.tail _ (hmust q hq)))) ?_
    intro y h' tk' hy F'' N''
    refine CompEnd.intro F'' N'' nw (fun q hq => hq) off trivial ⟨rfl, by rw [List.length_append, hl]; rfl, fun j z hz => ?_⟩
    rcases Nat.lt_trichotomy j ys.length with hj | hj | hj
    · rw [List.getElem?_append_left hj] at hz; exact hr j z hz
    · subst hj
      simp at hz; subst hz; rw [hl]; exact hy
    · rw [List.getElem?_eq_none (by rw [List.length_append, List.length_singleton]; omega)] at hz; cases hz
  · rintro ys nw ⟨rfl, hl, hr⟩ D h tk F' N' off
    refine fin D h tk ys F' N' (fun q hq => ?_) hl hr
    clear fin helt N N' hmust
    induction nw with
    | nil => cases hq
    | cons p r ih =>
      rcases List.mem_cons.mp hq with rfl | hq
      · exact off.1
      · exact ih off.2 hq
end
section
variable {prog : Program} {w : World} {A : Around} {E : Value → Shared → Prop} {s : Shared} {h₀ : Heap} {L : Addr} {m : Str → Option Value} {news : Led}
/-- found.append(x): the list stands at the ledger's head -/
theorem append_M {f : Addr} {vs : List Value} {k : Nat} {x : Value} {all : Led} {Q : Value → Shared → Prop} (rest : Led) (F : Fr h₀ L s.heap m) (N : News h₀ L s.heap all) (hf : (f, ({ cls := .type "list", data := .seq vs.toArray k } : Obj)) ∈ all) (hs : ∀ q ∈ rest, q ∈ all) (hne : ∀ q ∈ rest, q.1 ≠ f)
    (hsz : vs.length ≤ sizeLine) (h : ∀ h', Fr h₀ L h' m → News h₀ L h' ((f, { cls := .type "list", data := .seq (vs ++ [x]).toArray (k + 1) }) :: rest) → Q .none { s with heap := h' }) :
    wpAny (model prog w) A (call (.builtin "list.append") [.ref f, x]) Q E s := by
  have z := N _ hf
  refine append_at (hsz := by rw [List.size_toArray]; exact hsz) z.1 fun h' hs' ho => ?_
  have e : (vs.toArray.push x) = (vs ++ [x]).toArray := List.push_toArray ..
  rw [e] at ho
  refine h h' (F.change hs' z.2.1 z.2.2) fun q hq => ?_
  rcases List.mem_cons.mp hq with rfl | hq
  · exact ⟨ho, z.2⟩
  · exact ⟨hs'.extBut _ _ (hne q hq) (N q (hs q hq)).1, (N q (hs q hq)).2⟩
/-- l[1:] of a list of the base -/
theorem slice1_M {value slice : PySem.Expr} {l : Addr} {v0 : Value} {items : List Value} {u : Tok} {Q : Value → Shared → Prop} (F : Fr h₀ L s.heap m) (N : News h₀ L s.heap news) (hl : h₀.IsList l (v0 :: items).toArray)
    (h : ∀ D h', Fr h₀ L h' m → News h₀ L h' ((D, { cls := .type "list", data := .seq items.toArray }) :: news) → (∀ q ∈ news, q.1 < D) → L < D → Q (.ref D) { s with heap := h' })
    (hs : subscripted slice false (.ref l) (.ref s.heap.objs.size) = operate [.ref s.heap.objs.size, .ref l] (getItem (.ref l) (.ref s.heap.objs.size)))
    (ht : ∀ r, letTemporaryGo value (.ref l) r = pure ()) (hsz : items.length + 1 ≤ sizeLine) :
    wpAny (model prog w) A (subscriptTail value slice (.ref l) (.ref s.heap.objs.size)) Q E { s with heap := s.heap.push { cls := .type "slice", data := .fields #[.int 1 u, .none, .none] } } := by
  refine slice_list (lo := some (1 : Nat)) (hi := none) F N (hl.at fun o e => F.keep l o e) (.int 1 u) .none (fun h' F' N' => ?_) hs ht (by simpa using hsz)
  have e : slicePick (v0 :: items).toArray (some ((1 : Nat) : Int)) none none = items.toArray := by
    rw [slicePick_from _ 1 (by simp)]; simp
  rw [e] at N'
  exact h _ h' F' N' (fun q hq => Nat.lt_succ_of_lt (Heap.lt_size (N q hq).1)) (Nat.lt_succ_of_lt F.ns.lt)
end
end
section
open PyProof.V PySem.Spec LCg
section
variable {prog : Program} {w : World} {A : Around} {E : Value → Shared → Prop} {R : Result → Shared → Prop} {s : Shared} {h₀ : Heap} {L : Addr} {m : Str → Option Value} {env : Env}
variable {elt iter : PySem.Expr} {x1 x2 : Str} {p1 p2 q pos : Pos} {scope : Scope}
/-- a comprehension with two clauses, the second over the first's name -/
abbrev lc2 (elt iter : PySem.Expr) (x1 x2 : Str) (p1 p2 q : Pos) (scope : Scope) (pos : Pos) : PySem.Expr := .ListComp elt [⟨.Name x1 p1, iter, [], 0⟩, ⟨.Name x2 p2, .Name x1 q, [], 0⟩] scope pos
theorem turn_in (it acc : Value) (env : Env) : compTurn (lc2 elt iter x1 x2 p1 p2 q scope pos) 1 it acc env = (standAt q >>= fun _ => pyNext it >>= fun r => match r with
      | none => pure (.done .next)
      | some v => letOwnedTupleGo (.Name x2 p2) it v >>= fun _ => assign (.Name x2 p2) env v >>= fun _ =>
        (eval elt env >>= fun x => call (.builtin "list.append") [acc, x] >>= fun _ => pure ()) >>= fun _ =>
          again (.compLoop (lc2 elt iter x1 x2 p1 p2 q scope pos) 1 it acc env)) := by rfl
theorem turn_out (it acc : Value) (env : Env) : compTurn (lc2 elt iter x1 x2 p1 p2 q scope pos) 0 it acc env = (standAt iter.pos >>= fun _ => pyNext it >>= fun r => match r with
      | none => pure (.done .next)
      | some v => letOwnedTupleGo (.Name x1 p1) it v >>= fun _ => assign (.Name x1 p1) env v >>= fun _ =>
        eval (.Name x1 q) env >>= fun x => standAt q >>= fun _ => foldedSetIterable (.Name x1 q) env x >>= fun x => holding [x] (pyIter x) >>= fun it2 =>
        runOwn (.compStart (lc2 elt iter x1 x2 p1 p2 q scope pos) 1 it2 acc env) env >>= fun _ =>
          again (.compLoop (lc2 elt iter x1 x2 p1 p2 q scope pos) 0 it acc env)) := by rfl
theorem loop_in {it acc : Value} (I : Nat → Shared → Prop)
    (turn : ∀ n s, I n s → wpAny (model prog w) A (pyNext it) (fun r s₁ => match r with
      | none => R (.ok .next) s₁
      | some v => wpAny (model prog w) A (assign (.Name x2 p2) env v) (fun _ s₂ => wpAny (model prog w) A (eval elt env) (fun x s₄ =>
              wpAny (model prog w) A (call (.builtin "list.append") [acc, x]) (fun _ s₅ => ∃ m, m < n ∧ I m s₅) (notedBy (model prog w) A env fun e s' => R (.error e) s') s₄) (notedBy (model prog w) A env fun e s' => R (.error e) s') s₂) (notedBy (model prog w) A env fun e s' => R (.error e) s') s₁) (notedBy (model prog w) A env fun e s' => R (.error e) s') s)
    (n : Nat) (h : I n s) : codeAny (model prog w) A (.compLoop (lc2 elt iter x1 x2 p1 p2 q scope pos) 1 it acc env) R s := by
  refine codeAny_loop rfl I (fun n s hI => ?_) n h
  show wpAny _ A ((compTurn (lc2 elt iter x1 x2 p1 p2 q scope pos) 1 it acc env).onRaise (fun x => do noteFrame x env; theTreesLotGoes x)) _ _ s
  refine wpAny_noted ?_
  rw [turn_in]
  refine wpAny_bind (wpAny_standAt (wpAny_bind (wpAny_mono (turn n s hI) (fun r s₁ h₁ => ?_) fun _ _ h' => h')))
  cases r with
  | none => exact wpAny_pure h₁
  | some v =>
    refine wpAny_bind (wpAny_of_eq (show letOwnedTupleGo (.Name x2 p2) it v = pure () from rfl) ?_)
    refine wpAny_bind (wpAny_mono h₁ (fun _ s₂ h₂ => ?_) fun _ _ h' => h')
    exact wpAny_bind (wpAny_bind (wpAny_mono h₂ (fun x s₄ h₄ => wpAny_bind (wpAny_mono h₄ (fun _ s₅ h₅ => wpAny_pure (wpAny_pure ⟨rfl, h₅⟩)) fun _ _ h' => h')) fun _ _ h' => h'))
theorem loop_out {it acc : Value} (I : Nat → Shared → Prop)
    (turn : ∀ n s, I n s → wpAny (model prog w) A (pyNext it) (fun r s₁ => match r with
      | none => R (.ok .next) s₁
      | some v => wpAny (model prog w) A (assign (.Name x1 p1) env v) (fun _ s₂ => wpAny (model prog w) A (eval (.Name x1 q) env) (fun x s₃ => wpAny (model prog w) A (pyIter x) (fun it2 s₄ =>
              codeAny (model prog w) A (.compStart (lc2 elt iter x1 x2 p1 p2 q scope pos) 1 it2 acc env) (fun r s' => match r with | .ok _ => ∃ m, m < n ∧ I m s' | .error e => cameBackBy (model prog w) A env (notedBy (model prog w) A env fun e s' => R (.error e) s') e s') s₄) (notedBy (model prog w) A env fun e s' => R (.error e) s') s₃) (notedBy (model prog w) A env fun e s' => R (.error e) s') s₂) (notedBy (model prog w) A env fun e s' => R (.error e) s') s₁) (notedBy (model prog w) A env fun e s' => R (.error e) s') s)
    (n : Nat) (h : I n s) : codeAny (model prog w) A (.compLoop (lc2 elt iter x1 x2 p1 p2 q scope pos) 0 it acc env) R s := by
  refine codeAny_loop rfl I (fun n s hI => ?_) n h
  show wpAny _ A ((compTurn (lc2 elt iter x1 x2 p1 p2 q scope pos) 0 it acc env).onRaise (fun x => do noteFrame x env; theTreesLotGoes x)) _ _ s
  refine wpAny_noted ?_
  rw [turn_out]
  refine wpAny_bind (wpAny_standAt (wpAny_bind (wpAny_mono (turn n s hI) (fun r s₁ h₁ => ?_) fun _ _ h' => h')))
  cases r with
  | none => exact wpAny_pure h₁
  | some v =>
    refine wpAny_bind (wpAny_of_eq (show letOwnedTupleGo (.Name x1 p1) it v = pure () from rfl) ?_)
    refine wpAny_bind (wpAny_mono h₁ (fun _ s₂ h₂ => ?_) fun _ _ h' => h')
    refine wpAny_bind (wpAny_mono h₂ (fun x s₃ h₃ => ?_) fun _ _ h' => h')
    refine wpAny_bind (wpAny_standAt (wpAny_bind (wpAny_of_eq (show foldedSetIterable (.Name x1 q) env x = pure x from rfl) ?_)))
    refine wpAny_bind (wpAny_holding (wpAny_mono h₃ (fun it2 s₄ h₄ => ?_) fun _ _ h' => h'))
    exact wpAny_bind (wpAny_runOwn (codeAny_mono h₄ fun r s' hr => by cases r with
      | ok f => exact wpAny_pure ⟨rfl, hr⟩
      | error e => exact hr))
theorem start_in {it acc : Value}
    (h0 : codeAny (model prog w) A (.compLoop (lc2 elt iter x1 x2 p1 p2 q scope pos) 1 it acc env) R s)
    (h : wpAny (model prog w) A (pyIter it) (fun it' s' => codeAny (model prog w) A (.compLoop (lc2 elt iter x1 x2 p1 p2 q scope pos) 1 it' acc env) R s')
      (notedBy (model prog w) A env fun x s' => R (.error x) s') s) :
    codeAny (model prog w) A (.compStart (lc2 elt iter x1 x2 p1 p2 q scope pos) 1 it acc env) R s := by
  refine codeAny_of_tree ?_
  show wpAny _ _ ((compStart (lc2 elt iter x1 x2 p1 p2 q scope pos) 1 it acc env).onRaise (fun x => do noteFrame x env; standAt theWindowsPlace)) _ _ s
  refine wpAny_notedAt ?_
  unfold compStart
  show wpAny _ _ (ask >>= _) _ _ s
  refine wpAny_bind (wpAny_askSetting (wpAny_ite ?_))
  split
  · first
      | exact wpAny_bind (wpAny_pure (wpAny_pure (And.intro rfl h0)))
      | exact wpAny_pure (And.intro rfl h0)
  · first
      | exact wpAny_bind (wpAny_rule (wpAny_bind (wpAny_standAt (wpAny_bind (wpAny_mono h (fun it' s' h' => wpAny_pure (And.intro rfl h')) fun _ _ x => x)))))
      | (refine wpAny_bind (wpAny_rule ?_); show wpAny _ _ (standAt q >>= _) _ _ s; exact wpAny_bind (wpAny_standAt (wpAny_bind (wpAny_mono h (fun it' s' h' => wpAny_pure (And.intro rfl h')) fun _ _ x => x))))
end
end
section
open PyProof.V PySem.Spec LCg
/-- the state of the two loops -/
structure CI (h₀ : Heap) (L : Addr) (m : Str → Option Value) (news : Led) (I C D t : Addr) (i : Nat) (ys : List Value) (h : Heap) : Prop where
  F : Fr h₀ L h m
  N : News h₀ L h news
  ns : ∃ mC, h.Ns C mC
  acc : h.get? D = some (lst ys)
  it : h.IsTupleIter I t i
/-- what is apart -/
structure CFar (h₀ : Heap) (L : Addr) (news : Led) (X : Addr) : Prop where
  L : L ≠ X
  b : h₀.get? X = none
  n : ∀ p ∈ news, p.1 ≠ X
section
variable {prog : Program} {w : World} {A : Around} {E : Value → Shared → Prop} {s : Shared} {h₀ : Heap} {L : Addr} {m : Str → Option Value} {env : Env} {news : Led}
variable {elt iter : PySem.Expr} {x1 x2 : Str} {p1 p2 q pos : Pos} {scope : Scope} {cl : List (Str × Addr)}
theorem cfar_fr {X : Addr} {h h' : Heap} (f : CFar h₀ L news X) (F : Fr h₀ L h m) (k : ∀ b o, b ≠ X → h.get? b = some o → h'.get? b = some o) : Fr h₀ L h' m :=
  fr_but F (I := X) (fun b o hb e => k b o (by simpa using hb) e) f.L f.b
theorem cfar_news {X : Addr} {h h' : Heap} (f : CFar h₀ L news X) (N : News h₀ L h news) (k : ∀ b o, b ≠ X → h.get? b = some o → h'.get? b = some o) : News h₀ L h' news :=
  fun p hp => ⟨k _ _ (f.n p hp) (N p hp).1, (N p hp).2⟩
theorem CI.far {X I C D t : Addr} {i : Nat} {ys : List Value} {h h' : Heap} (c : CI h₀ L m news I C D t i ys h) (f : CFar h₀ L news X) (hI : I ≠ X) (hC : C ≠ X) (hD : D ≠ X) (k : ∀ b o, b ≠ X → h.get? b = some o → h'.get? b = some o) : CI h₀ L m news I C D t i ys h' :=
  ⟨cfar_fr f c.F k, cfar_news f c.N k, let ⟨mC, n⟩ := c.ns; ⟨mC, n.at' fun o e => k _ o hC e⟩, k _ _ hD c.acc, c.it.at fun o e => k _ o hI e⟩
/-- an element of the inner loop that lets the ledger be -/
def FlatElt2 (prog : Program) (w : World) (A : Around) (h₀ : Heap) (L : Addr) (m : Str → Option Value) (env : Env) (elt : PySem.Expr) (x : Str) (scope : Scope) (cl : List (Str × Addr)) (s : Shared) (P R : Value → Prop) (must : Led) : Prop :=
  ∀ (v : Value) (C : Addr) (oC : Obj) (m₂ : Str → Option Value) (h : Heap) (tk : Nat) (nw : Led) (Q E : Value → Shared → Prop), P v → NsObj oC m₂ → m₂ x = some v → Fr h₀ L h m → News h₀ L h nw → (C, oC) ∈ nw → (∀ q ∈ must, q ∈ nw) →
    (∀ y h' tk', R y → Fr h₀ L h' m → News h₀ L h' nw → Q y { s with heap := h', toks := tk' }) → wpAny (model prog w) A (eval elt (compEnvC scope cl C env)) Q E { s with heap := h, toks := tk }
theorem comp2_in {I C D t a J : Addr} {its : List Value} {i : Nat} {R P : Value → Prop} {acc0 : List Value} {Post : Result → Shared → Prop}
    (hh : A.handled = none) (fI : CFar h₀ L news I) (fC : CFar h₀ L news C) (fD : CFar h₀ L news D) (fJ : CFar h₀ L news J) (nIC : I ≠ C) (nID : I ≠ D) (nCD : C ≠ D) (nIJ : I ≠ J) (nCJ : C ≠ J) (nDJ : D ≠ J)
    (hkind : scope.kind = .function) (hx2 : scope.names.lookup x2 = some .local) (ht : IsTup h₀ a its.toArray) (hP : ∀ v ∈ its, P v) (hsz : acc0.length + its.length ≤ sizeLine)
    (helt : FlatElt2 prog w A h₀ L m env elt x2 scope cl s P R news) {h : Heap} {tk : Nat}
    (c : CI h₀ L m news I C D t i acc0 h) (hJ : h.IsTupleIter J a 0) (hR : ∀ y ∈ acc0, R y)
    (fin : ∀ h' tk' ys, CI h₀ L m news I C D t i ys h' → (∀ y ∈ ys, R y) → ys.length = acc0.length + its.length → Post (.ok .next) { s with heap := h', toks := tk' }) :
    codeAny (model prog w) A (.compLoop (lc2 elt iter x1 x2 p1 p2 q scope pos) 1 (.ref J) (.ref D) (compEnvC scope cl C env)) Post { s with heap := h, toks := tk } := by
  refine loop_in (fun n s' => ∃ h' tk' j ys, s' = { s with heap := h', toks := tk' } ∧ j ≤ its.length ∧ n = its.length + 1 - j ∧ ys.length = acc0.length + j ∧ CI h₀ L m news I C D t i ys h' ∧ h'.IsTupleIter J a j ∧ ∀ y ∈ ys, R y) ?_ (its.length + 1)
    ⟨h, tk, 0, acc0, rfl, Nat.zero_le _, rfl, rfl, c, hJ, hR⟩
  rintro n s' ⟨h', tk', j, ys, rfl, hj, rfl, hyl, c', hJ', hR'⟩
  by_cases hlt : j < its.length
  · refine wpAny_pyNext_tuple_item hJ' (ht.keeps c'.F.keep) (x := its[j]) (by simp [hlt]) fun h2 hJ2 hs2 => ?_
    have c2 := c'.far fJ nIJ nCJ nDJ fun b o hb e => hs2.extBut b o hb e
    obtain ⟨mC, hn2⟩ := c2.ns
    show wpAny (model prog w) A (assign (.Name x2 p2) (compEnvC scope cl C env) its[j]) _ _ _
    refine wpAny_assign_Name (wpAny_storeName_local (lookup_relabel_local hx2) hn2 (fun h3 hn3 hs3 => ?_) (by simp [compEnvC, relabel, hkind]))
    have k3 : ∀ b o, b ≠ C → h2.get? b = some o → h3.get? b = some o := fun b o hb e => hs3.extBut b o hb e
    have F3 := cfar_fr fC c2.F k3
    have N3 := cfar_news fC c2.N k3
    obtain ⟨oC, heC, hoC⟩ := ns_obj hn3
    obtain ⟨oI, heI, hI1, hI2⟩ := c2.it
    obtain ⟨oJ, heJ, hJ1, hJ2'⟩ := hJ2
    have NN : News h₀ L h3 ((C, oC) :: (D, lst ys) :: (I, oI) :: (J, oJ) :: news) := fun p hp => by
      rcases List.mem_cons.mp hp with rfl | hp
      · exact ⟨heC, fC.L.symm, fC.b⟩
      rcases List.mem_cons.mp hp with rfl | hp
      · exact ⟨k3 _ _ nCD.symm c2.acc, fD.L.symm, fD.b⟩
      rcases List.mem_cons.mp hp with rfl | hp
      · exact ⟨k3 _ _ nIC heI, fI.L.symm, fI.b⟩
      rcases List.mem_cons.mp hp with rfl | hp
      · exact ⟨k3 _ _ nCJ.symm heJ, fJ.L.symm, fJ.b⟩
      · exact N3 p hp
    refine helt _ C oC _ h3 _ _ _ _ (hP _ (List.getElem_mem hlt)) hoC (by simp) F3 NN (.head _) (fun q hq => .tail _ (.tail _ (.tail _ (.tail _ hq)))) fun y h4 tk4 hy F4 N4 => ?_
    have zC := (N4 _ (.head _)).1
    have zD := (N4 _ (.tail _ (.head _))).1
    have zI := (N4 _ (.tail _ (.tail _ (.head _)))).1
    have zJ := (N4 _ (.tail _ (.tail _ (.tail _ (.head _))))).1
    have N4' : News h₀ L h4 news := fun p hp => N4 p (.tail _ (.tail _ (.tail _ (.tail _ hp))))
    refine append_at (hsz := by show ys.toArray.size ≤ sizeLine; rw [List.size_toArray, hyl]; omega) zD fun h5 hs5 hD5 => ?_
    have k5 : ∀ b o, b ≠ D → h4.get? b = some o → h5.get? b = some o := fun b o hb e => hs5.extBut b o hb e
    refine ⟨its.length + 1 - (j + 1), by omega, h5, tk4, j + 1, ys ++ [y], rfl, hlt, rfl, by rw [List.length_append, List.length_singleton, hyl]; omega, ⟨cfar_fr fD F4 k5, cfar_news fD N4' k5, ⟨_, (hoC.ns (k5 _ _ nCD zC))⟩, hD5.trans (congrArg some (lst_snoc ys y)), ⟨oI, k5 _ _ nID zI, hI1, hI2⟩⟩, ⟨oJ, k5 _ _ nDJ.symm zJ, hJ1, hJ2'⟩, fun z hz => ?_⟩
    rcases List.mem_append.mp hz with hz | hz
    · exact hR' z hz
    · rw [List.mem_singleton.mp hz]; exact hy
  · obtain rfl : j = its.length := Nat.le_antisymm hj (Nat.not_lt.mp hlt)
    refine wpAny_pyNext_tuple_end hh hJ' (ht.keeps c'.F.keep) (by simp) fun h2 hs2 => ?_
    exact fin h2 _ ys (c'.far fJ nIJ nCJ nDJ hs2) hR' hyl
theorem comp2_out {I C D t : Addr} {items : List Value} {R P : Value → Prop} {K : Nat} {Post : Result → Shared → Prop}
    (hh : A.handled = none) (fI : CFar h₀ L news I) (fC : CFar h₀ L news C) (fD : CFar h₀ L news D) (nIC : I ≠ C) (nID : I ≠ D) (nCD : C ≠ D) (hdb : (x1 == ("__debug__" : Str)) = false)
    (hkind : scope.kind = .function) (hx1 : scope.names.lookup x1 = some .local) (hx2 : scope.names.lookup x2 = some .local) (ht : IsTup h₀ t items.toArray)
    (hit : ∀ v ∈ items, ∃ a its, v = .ref a ∧ IsTup h₀ a (List.toArray its) ∧ its.length ≤ K ∧ ∀ y ∈ its, P y) (hsz : items.length * K ≤ sizeLine)
    (helt : FlatElt2 prog w A h₀ L m env elt x2 scope cl s P R news) {h : Heap} {tk : Nat}
    (c : CI h₀ L m news I C D t 0 [] h)
    (fin : ∀ h' tk' ys, Fr h₀ L h' m → News h₀ L h' news → (∃ mC, h'.Ns C mC) → h'.get? D = some (lst ys) → (∀ y ∈ ys, R y) → Post (.ok .next) { s with heap := h', toks := tk' }) :
    codeAny (model prog w) A (.compLoop (lc2 elt iter x1 x2 p1 p2 q scope pos) 0 (.ref I) (.ref D) (compEnvC scope cl C env)) Post { s with heap := h, toks := tk } := by
  refine loop_out (fun n s' => ∃ h' tk' i ys, s' = { s with heap := h', toks := tk' } ∧ i ≤ items.length ∧ n = items.length + 1 - i ∧ ys.length ≤ i * K ∧ CI h₀ L m news I C D t i ys h' ∧ ∀ y ∈ ys, R y) ?_ (items.length + 1)
    ⟨h, tk, 0, [], rfl, Nat.zero_le _, rfl, Nat.zero_le _, c, fun _ h => nomatch h⟩
  rintro n s' ⟨h', tk', i, ys, rfl, hi, rfl, hyl, c', hR'⟩
  by_cases hlt : i < items.length
  · obtain ⟨a, its, ea, hta, hK, hPi⟩ := hit items[i] (List.getElem_mem hlt)
    refine wpAny_pyNext_tuple_item c'.it (ht.keeps c'.F.keep) (x := items[i]) (by simp [hlt]) fun h2 hI2 hs2 => ?_
    have k2 : ∀ b o, b ≠ I → h'.get? b = some o → h2.get? b = some o := fun b o hb e => hs2.extBut b o hb e
    obtain ⟨mC, hn2⟩ := c'.ns
    show wpAny (model prog w) A (assign (.Name x1 p1) (compEnvC scope cl C env) items[i]) _ _ _
    refine wpAny_assign_Name (wpAny_storeName_local (lookup_relabel_local hx1) (hn2.at' fun o e => k2 _ o nIC.symm e) (fun h3 hn3 hs3 => ?_) (by simp [compEnvC, relabel, hkind]))
    have k3 : ∀ b o, b ≠ C → h2.get? b = some o → h3.get? b = some o := fun b o hb e => hs3.extBut b o hb e
    have c3 : CI h₀ L m news I C D t (i + 1) ys h3 := ⟨cfar_fr fC (cfar_fr fI c'.F k2) k3, cfar_news fC (cfar_news fI c'.N k2) k3, ⟨_, hn3⟩, k3 _ _ nCD.symm (k2 _ _ nID.symm c'.acc), hI2.at fun o e => k3 _ o nIC e⟩
    rw [eval_Name (hd := hdb)]
    refine wpAny_bind (wpAny_standAt (wpAny_loadName_local (v := items[i]) (by simp [compEnvC, relabel, hkind]) (lookup_relabel_local hx1) hn3 (by simp) ?_))
    rw [ea]
    refine wpAny_pyIter_tuple (hta.keeps c3.F.keep) ?_
    generalize hh4 : h3.push { cls := .type "tuple_iterator", data := .fields #[.ref a, .int 0 0] } = h4
    have k4 : ∀ b o, h3.get? b = some o → h4.get? b = some o := fun b o e => hh4 ▸ Heap.get?_push_of_some _ e
    have fJ : CFar h₀ L news h3.objs.size := ⟨Nat.ne_of_lt c3.F.ns.lt, next_is_new c3.F, fun p hp => Nat.ne_of_lt (Heap.lt_size (c3.N p hp).1)⟩
    have c4 : CI h₀ L m news I C D t (i + 1) ys h4 := c3.far fJ (by obtain ⟨o, e, _⟩ := c3.it; exact Nat.ne_of_lt (Heap.lt_size e)) (Nat.ne_of_lt hn3.lt) (Nat.ne_of_lt (Heap.lt_size c3.acc)) fun b o _ e => k4 b o e
    have hJ4 : h4.IsTupleIter h3.objs.size a 0 := ⟨_, hh4 ▸ Heap.get?_push_size _ rfl, rfl, rfl⟩
    have hb : (i + 1) * K ≤ items.length * K := Nat.mul_le_mul_right K hlt
    have hb2 : (i + 1) * K = i * K + K := Nat.succ_mul i K
    have go : ∀ tk₄, codeAny (model prog w) A (.compLoop (lc2 elt iter x1 x2 p1 p2 q scope pos) 1 (.ref h3.objs.size) (.ref D) (compEnvC scope cl C env)) (fun r s' => match r with
        | .ok _ => ∃ m_1, m_1 < items.length + 1 - i ∧ ∃ h' tk' i ys, s' = { s with heap := h', toks := tk' } ∧ i ≤ items.length ∧ m_1 = items.length + 1 - i ∧ ys.length ≤ i * K ∧ CI h₀ L m news I C D t i ys h' ∧ ∀ y ∈ ys, R y
        | .error e => cameBackBy (model prog w) A (compEnvC scope cl C env) (notedBy (model prog w) A (compEnvC scope cl C env) fun e s' => Post (.error e) s') e s') { s with heap := h4, toks := tk₄ } := fun tk₄ =>
      comp2_in hh fI fC fD fJ nIC nID nCD (by obtain ⟨o, e, _⟩ := c3.it; exact Nat.ne_of_lt (Heap.lt_size e)) (Nat.ne_of_lt hn3.lt) (Nat.ne_of_lt (Heap.lt_size c3.acc)) hkind hx2 hta hPi (by omega) helt c4 hJ4 hR' fun h5 tk5 ys5 c5 hR5 hl5 =>
        ⟨items.length + 1 - (i + 1), by omega, h5, tk5, i + 1, ys5, rfl, hlt, rfl, by omega, c5, hR5⟩
    exact start_in (go _) (wpAny_pyIter_tupleiter hJ4 (go _))
  · obtain rfl : i = items.length := Nat.le_antisymm hi (Nat.not_lt.mp hlt)
    refine wpAny_pyNext_tuple_end hh c'.it (ht.keeps c'.F.keep) (by simp) fun h2 hs2 => ?_
    have k2 : ∀ b o, b ≠ I → h'.get? b = some o → h2.get? b = some o := hs2
    exact fin h2 _ ys (cfar_fr fI c'.F k2) (cfar_news fI c'.N k2) (let ⟨mC, n⟩ := c'.ns; ⟨mC, n.at' fun o e => k2 _ o nIC.symm e⟩) (k2 _ _ nID.symm c'.acc) hR'
/-- a comprehension with two clauses over a tuple of tuples of the base -/
theorem listComp2_T {t : Addr} {items : List Value} {P : Value → Prop} (F₀ : Fr h₀ L s.heap m) (K : Nat) (R : Value → Prop) {Q : Value → Shared → Prop} (hdb : (x1 == ("__debug__" : Str)) = false)
    (hclos : closureFor scope env = pure cl) (hcell : ∀ y ∈ scope.names, y.2 ≠ .cell) (hkind : scope.kind = .function)
    (hnames : ∀ y ∈ scope.names, y.2 = .local → scope.names.lookup y.1 = some .local) (hx1 : scope.names.lookup x1 = some .local) (hx2 : scope.names.lookup x2 = some .local) (ht : IsTup h₀ t items.toArray)
    (hit : ∀ v ∈ items, ∃ a its, v = .ref a ∧ IsTup h₀ a (List.toArray its) ∧ its.length ≤ K ∧ ∀ y ∈ its, P y) (hsz : items.length * K ≤ sizeLine)
    (h : wpAny (model prog w) A (eval iter env) (fun xv s₁ => ∃ news, xv = .ref t ∧ A.handled = none ∧ Fr h₀ L s₁.heap m ∧ News h₀ L s₁.heap news ∧ (∀ g', FlatElt2 prog w A h₀ L m env elt x2 scope cl { s₁ with heap := g' } P R news) ∧
      ∀ D h tk ys, Fr h₀ L h m → News h₀ L h ((D, lst ys) :: news) → (∀ y ∈ ys, R y) → Q (.ref D) { s₁ with heap := h, toks := tk }) E s)
    (hs : ∀ x, foldedSetIterable iter env x = pure x := by intro _; rfl) :
    wpAny (model prog w) A (eval (lc2 elt iter x1 x2 p1 p2 q scope pos) env) Q E s := by
  rw [eval_ListComp]
  refine wpAny_comprehension_free (use := none) rfl hs hclos hkind hnames (wpAny_mono h (fun xv s₁ h₁ => ?_) fun _ _ e => e)
  obtain ⟨news, rfl, hh, F, N, helt, fin⟩ := h₁
  have ht' : IsTup s₁.heap t items.toArray := ht.keeps F.keep
  refine wpAny_pyIter_tuple ht' ?_
  generalize hH1 : s₁.heap.push { cls := .type "tuple_iterator", data := .fields #[.ref t, .int 0 0] } = H1
  have k1 : ∀ b o, s₁.heap.get? b = some o → H1.get? b = some o := fun b o e => hH1 ▸ Heap.get?_push_of_some _ e
  have z1 : H1.objs.size = s₁.heap.objs.size + 1 := by rw [← hH1, Heap.size_push]
  have it1 : H1.IsTupleIter s₁.heap.objs.size t 0 := ⟨_, hH1 ▸ Heap.get?_push_size _ rfl, rfl, rfl⟩
  refine wpAny_newObj_type (wpAny_newFunctionEnv hcell (by intro y hy; simp at hy) (fun h₁ hns₁ hsb₁ => ?_) hkind)
  dsimp only at hns₁ hsb₁ ⊢
  generalize hH2 : H1.push { cls := .type "list", dict := none, data := .seq ([] : List Value).toArray } = H2 at hns₁ hsb₁ ⊢
  have z2 : H2.objs.size = H1.objs.size + 1 := by rw [← hH2, Heap.size_push]
  have k2 : ∀ b o, H1.get? b = some o → H2.get? b = some o := fun b o e => hH2 ▸ Heap.get?_push_of_some _ e
  have k3 : ∀ b o, b ≠ H2.objs.size → H2.get? b = some o → h₁.get? b = some o := fun b o hb e => hsb₁.extBut b o hb (Heap.get?_push_of_some _ e)
  have hL : @LT.lt Nat _ L s₁.heap.objs.size := F.ns.lt
  have hg : @LE.le Nat _ h₀.objs.size L := F.above
  have nil : ∀ b, @LE.le Nat _ s₁.heap.objs.size b → h₀.get? b = none := fun b hb => by
    cases e : h₀.get? b with
    | none => rfl
    | some o =>
      have := Heap.lt_size e
      exact absurd this (Nat.not_lt.mpr (Nat.le_trans hg (Nat.le_trans (Nat.le_of_lt hL) hb)))
  have far : ∀ b, @LE.le Nat _ s₁.heap.objs.size b → CFar h₀ L news b := fun b hb => ⟨Nat.ne_of_lt (Nat.lt_of_lt_of_le hL hb), nil b hb, fun p hp => Nat.ne_of_lt (Nat.lt_of_lt_of_le (Heap.lt_size (N p hp).1) hb)⟩
  have nIC : s₁.heap.objs.size ≠ H2.objs.size := by show ¬ (@Eq Nat _ _); omega
  have nID : s₁.heap.objs.size ≠ H1.objs.size := by show ¬ (@Eq Nat _ _); omega
  have nCD : H2.objs.size ≠ H1.objs.size := by show ¬ (@Eq Nat _ _); omega
  have old : ∀ b o, s₁.heap.get? b = some o → h₁.get? b = some o := fun b o e => k3 b o (by have := Heap.lt_size e; show ¬ (@Eq Nat _ _); have h2 : @LT.lt Nat _ b s₁.heap.objs.size := this; omega) (k2 b o (k1 b o e))
  have c : CI h₀ L m news s₁.heap.objs.size H2.objs.size H1.objs.size t 0 [] h₁ :=
    ⟨F.keeps old, fun p hp => ⟨old _ _ (N p hp).1, (N p hp).2⟩, ⟨_, hns₁⟩, k3 _ _ nCD.symm (hH2 ▸ Heap.get?_push_size _ rfl), (it1.at fun o e => k3 _ o nIC (k2 _ o e))⟩
  have go : ∀ tk₄, codeAny (model prog w) A (.compLoop (lc2 elt iter x1 x2 p1 p2 q scope pos) 0 (.ref s₁.heap.objs.size) (.ref H1.objs.size) (compEnvC scope cl H2.objs.size env)) (compPost (model prog w) A E none Q (.ref H1.objs.size) H2.objs.size) { s₁ with heap := h₁, toks := tk₄ } := fun tk₄ =>
    comp2_out (s := s₁) hh (far _ (Nat.le_refl _)) (far _ (by show @LE.le Nat _ _ _; omega)) (far _ (by show @LE.le Nat _ _ _; omega)) nIC nID nCD hdb hkind hx1 hx2 ht hit hsz (helt _) c fun h' tk' ys F' N' ns' acc' hR => by
      obtain ⟨mC, hn⟩ := ns'
      refine ⟨mC, hn, fun h'' hs'' => fin _ h'' tk' ys (F'.change hs'' (far _ (by show @LE.le Nat _ _ _; omega)).L.symm (far _ (by show @LE.le Nat _ _ _; omega)).b) (fun p hp => ?_) hR⟩
      rcases List.mem_cons.mp hp with rfl | hp
      · exact ⟨hs''.extBut _ _ nCD.symm acc', (far _ (by show @LE.le Nat _ _ _; omega)).L.symm, (far _ (by show @LE.le Nat _ _ _; omega)).b⟩
      · exact ⟨hs''.extBut _ _ ((far _ (by show @LE.le Nat _ _ _; omega)).n p hp) (N' p hp).1, (N' p hp).2⟩
  exact codeAny_compStart_list (go _) (wpAny_pyIter_tupleiter c.it (go _))
end
end
section
section
open PyProof.V PySem.Spec LCg
variable {prog : Program} {w : World} {A : Around} {E : Value → Shared → Prop} {s : Shared} {h₀ : Heap} {L : Addr} {m : Str → Option Value} {env : Env}
/-- a comprehension over a tuple of the ledger -/
theorem listComp_L {elt iter : PySem.Expr} {x : Str} {px : Pos} {scope : Scope} {cl : List (Str × Addr)} {pos : Pos} {Q : Value → Shared → Prop} (F₀ : Fr h₀ L s.heap m)
    (hclos : closureFor scope env = pure cl) (hcell : ∀ y ∈ scope.names, y.2 ≠ .cell) (hkind : scope.kind = .function)
    (hnames : ∀ y ∈ scope.names, y.2 = .local → scope.names.lookup y.1 = some .local) (hx : scope.names.lookup x = some .local)
    (h : wpAny (model prog w) A (eval iter env) (fun xv s₁ => ∃ t items news kk, xv = .ref t ∧ A.handled = none ∧ Fr h₀ L s₁.heap m ∧ News h₀ L s₁.heap news ∧ (t, ({ cls := .type "tuple", data := .seq (List.toArray items) kk } : Obj)) ∈ news ∧ items.length ≤ sizeLine ∧
      ∀ g', CompRest prog w A h₀ L m env elt x scope cl { s₁ with heap := g' } (fun nw => (t, ({ cls := .type "tuple", data := .seq (List.toArray items) kk } : Obj)) ∈ nw) (fun i v => items[i]? = some v) (FinE h₀ L m { s₁ with heap := g' } Q) items.length 0 [] news) E s)
    (hs : ∀ x, foldedSetIterable iter env x = pure x := by intro _; rfl) :
    wpAny (model prog w) A (eval (.ListComp elt [⟨.Name x px, iter, [], 0⟩] scope pos) env) Q E s := by
  rw [eval_ListComp]
  refine wpAny_comprehension_free (use := none) rfl hs hclos hkind hnames (wpAny_mono h (fun xv s₁ h₁ => ?_) fun _ _ e => e)
  obtain ⟨t, items, news, kk, rfl, hh, F, N, ht, hsz, R⟩ := h₁
  have ht' : s₁.heap.IsTuple t items.toArray := ⟨_, (N _ ht).1, rfl, _, rfl⟩
  have hlt : t < s₁.heap.objs.size := by obtain ⟨_, e, _⟩ := ht'; exact Heap.lt_size e
  refine wpAny_pyIter_tuple ht' ?_
  have up : ∀ b o, s₁.heap.get? b = some o → (s₁.heap.push { cls := .type "tuple_iterator", data := .fields #[.ref t, .int 0 0] }).get? b = some o := fun b o e => Heap.get?_push_of_some _ e
  have W := Walks.tuple (prog := prog) (w := w) hh s₁.heap.objs.size t (Nat.ne_of_lt hlt) items.toArray
  have hn : items.toArray.size = items.length := by simp
  rw [hn] at W
  have W' : Walks prog w A s₁.heap.objs.size [s₁.heap.objs.size, t] [s₁.heap.objs.size] items.length (fun i v => items[i]? = some v) (fun i h => h.IsTupleIter s₁.heap.objs.size t i ∧ h.IsTuple t items.toArray) :=
    { sub := W.sub, frame := W.frame, done := W.done, self := W.self,
      item := fun i s Q E hi st hQ => W.item i s Q E hi st fun v h' tk hP => hQ v h' tk (by simpa using hP) }
  refine block_U (S := fun nw => (t, ({ cls := .type "tuple", data := .seq (List.toArray items) kk } : Obj)) ∈ nw) W' hsz (fun i h st => by obtain ⟨o, e, _⟩ := st.1; exact ⟨o, e⟩) (fun i h h' o nw st e e' k N' S' => ⟨by obtain ⟨o', q, r⟩ := st.1; rw [e] at q; cases q; exact ⟨o, e', r⟩, ⟨_, (N' _ S').1, rfl, _, rfl⟩⟩) hcell hkind hx
    ⟨⟨_, Heap.get?_push_size _ rfl, rfl, rfl⟩, ht'.push _⟩ (fun b hb => ?_)
    (F.keeps up) (N.grown up) (Nat.ne_of_lt F.ns.lt) (next_is_new F) (fun p hp => Nat.ne_of_lt (Heap.lt_size (N p hp).1)) ht (R _) ?_
  · show b < (s₁.heap.push _).objs.size
    rw [Heap.size_push]
    rcases List.mem_cons.mp hb with rfl | hb
    · exact Nat.lt_succ_self _
    · rw [List.mem_singleton.mp hb]; exact Nat.lt_succ_of_lt hlt
  · intro D C h tk m' ys news' F' N' o1 hn hC₀ hD₀ hCL hDL hCD offC fin
    refine ⟨m', hn, fun h'' hs'' => fin D h'' tk (F'.change hs'' hCL hC₀) (fun p hp => ?_) o1⟩
    refine ⟨hs''.extBut _ _ ?_ (N' p hp).1, (N' p hp).2⟩
    rcases List.mem_cons.mp hp with rfl | hp
    · exact Ne.symm hCD
    · exact offC p hp

theorem compL_flat {elt : PySem.Expr} {x : Str} {scope : Scope} {cl : List (Str × Addr)} {Q : Value → Shared → Prop} {s₁ : Shared} {t : Addr} {items : List Value} {news : Led} {kk : Nat} (R : Nat → Value → Prop) (must : Led)
    (hh : A.handled = none) (F : Fr h₀ L s₁.heap m) (N : News h₀ L s₁.heap news) (ht : (t, ({ cls := .type "tuple", data := .seq (List.toArray items) kk } : Obj)) ∈ news) (hsz : items.length ≤ sizeLine) (hmust : ∀ q ∈ must, q ∈ news)
    (helt : ∀ g', FlatElt prog w A h₀ L m env elt x scope cl { s₁ with heap := g' } (fun i v => items[i]? = some v) R must)
    (fin : ∀ D h tk ys, Fr h₀ L h m → News h₀ L h ((D, lst ys) :: news) → (∀ q ∈ news, q.1 ≠ D) → ys.length = items.length → (∀ i y, ys[i]? = some y → R i y) → Q (.ref D) { s₁ with heap := h, toks := tk }) :
    ∃ t' items' news' kk', Value.ref t = .ref t' ∧ A.handled = none ∧ Fr h₀ L s₁.heap m ∧ News h₀ L s₁.heap news' ∧ (t', ({ cls := .type "tuple", data := .seq (List.toArray items') kk' } : Obj)) ∈ news' ∧ items'.length ≤ sizeLine ∧
      ∀ g', CompRest prog w A h₀ L m env elt x scope cl { s₁ with heap := g' } (fun nw => (t', ({ cls := .type "tuple", data := .seq (List.toArray items') kk' } : Obj)) ∈ nw) (fun i v => items'[i]? = some v) (FinE h₀ L m { s₁ with heap := g' } Q) items'.length 0 [] news' := by
  refine ⟨t, items, news, kk, rfl, hh, F, N, ht, hsz, fun g' => ?_⟩
  refine compRest_ind items.length (fun i ys nw => nw = news ∧ ys.length = i ∧ ∀ j y, ys[j]? = some y → R j y) ?_ ?_ items.length 0 [] news (Nat.zero_add _) ⟨rfl, rfl, fun j y h => by simp at h⟩
  · rintro i ys nw v I oI C oC D m₂ h tk E' hi hP ⟨rfl, hl, hr⟩ hC hx F' N' off ne
    refine helt g' i v C oC m₂ h tk _ _ E' hP hC hx F' N' (.tail _ (.head _)) (fun q hq => .tail _ (.tail _ (.tail _ (hmust q hq)))) ?_
    intro y h' tk' hy F'' N''
    refine CompEnd.intro F'' N'' nw (fun q hq => hq) off ht ⟨rfl, by rw [List.length_append, hl]; rfl, fun j z hz => ?_⟩
    rcases Nat.lt_trichotomy j ys.length with hj | hj | hj
    · rw [List.getElem?_append_left hj] at hz; exact hr j z hz
    · subst hj
      simp at hz; subst hz; rw [hl]; exact hy
    · rw [List.getElem?_eq_none (by rw [List.length_append, List.length_singleton]; omega)] at hz; cases hz
  · rintro ys nw ⟨rfl, hl, hr⟩ D h tk F' N' off
    refine fin D h tk ys F' N' (fun q hq => ?_) hl hr
    clear fin helt N N' hmust ht
    induction nw with
    | nil => cases hq
    | cons p r ih =>
      rcases List.mem_cons.mp hq with rfl | hq
      · exact off.1
      · exact ih off.2 hq
/-- (a, ..) + (b, ..), neither empty -/
theorem addL_M {t b : Addr} {vs ws : List Value} {news : Led} {Q : Value → Shared → Prop} (F : Fr h₀ L s.heap m) (N : News h₀ L s.heap news) (ht : IsTup s.heap t vs.toArray) (hb : IsTup s.heap b ws.toArray) (h1 : vs ≠ []) (h2 : ws ≠ []) (hsz : vs.length + ws.length ≤ sizeLine)
    (h : ∀ r h' k, Fr h₀ L h' m → News h₀ L h' ((r, ({ cls := .type "tuple", data := .seq (vs ++ ws).toArray k } : Obj)) :: news) → Q (.ref r) { s with heap := h' }) :
    wpAny (model prog w) A (binaryOp .Add (.ref t) (.ref b)) Q E s :=
  add_tuples F N ht hb (fun e => absurd e h1) (fun _ e => absurd e h2) (fun _ _ h' F' N' => h _ h' _ F' N') hsz
end
end
section
open PyProof.V PySem.Spec
theorem dl_entry : entryFor table "dict.update.loop" = some Builtin.«dict.update.loop» := entryFor_of_tree (by kernel_rfl)
theorem dl_plain : plainId "dict.update.loop" = true := by decide +kernel
theorem list_keys_none : typeLookup (.type "list") (Str.ofString "keys") = pure none := by rw [typeLookup_type, builtinLookup_eq_fast]; kernel_rfl
section
variable {prog : Program} {w : World} {A : Around} {E : Value → Shared → Prop} {s : Shared}
theorem noKeys_list {a : Addr} {o : Obj} {xs : Array Value} {k : Nat} {Q : Option Value → Shared → Prop} (hx : s.heap.get? a = some o) (hc : o.cls = .type "list") (hdat : o.data = .seq xs k) (hd : o.dict = none) (hA : A.handled = none)
    (h : ∀ h' tk, (∀ b o, s.heap.get? b = some o → h'.get? b = some o) → Q none { s with heap := h', toks := tk }) : wpAny (model prog w) A (getAttr? (.ref a) "keys") Q E s := by
  obtain ⟨c, dct, dat, sl⟩ := o
  simp only at hc hdat hd
  subst hc hdat hd
  obtain ⟨hp, g, d, tk, os⟩ := s
  have hT : ∀ tk', (⟨hp, g, d, tk', os⟩ : Shared).TypeIs (.ref a) "list" := fun _ => ⟨_, hx, rfl⟩
  have f1 := sub_AttributeError
  have f3 := PySem.F.slot_list_getattribute.lookup
  have f4 := PySem.F.slot_list_getattribute.bind (.ref a)
  have f5 := am_list_getattr_none
  have hmiss := list_keys_none
  have hname : (["__module__", "__name__", "__qualname__", "__doc__", "__annotations__"] : List Str).contains (Str.ofString "keys") = false := by decide +kernel
  have hsz : (Str.ofString "keys").length + 100 ≤ sizeLine := by rw [sizeLine_eq]; decide +kernel
  unfold getAttr? getAttrBy? getAttrBy
  repeat (any_goals (first | assumption | exact hT _ | ((with_reducible show wpAny _ _ (call (Value.builtin "list.__getattribute__") _ _) _ _ _); refine call_meets PySem.F.slot_list_getattribute (hT _) am_entry_list_getattribute (PySem.F.args_list_getattribute_2 _ _) (meets_getattribute_miss_list a xs k sl _ _ hmiss hname hsz) ⟨hx, hA, fun h' tk' e hx' => ?_⟩) | wp_step))
  obtain ⟨t', u', he⟩ := hx'.there
  show wpAny _ _ (getattributeRaised _ _ _ _ _ _ _) _ _ _
  unfold getattributeRaised
  repeat (any_goals (first | assumption | wp_step))
  exact h _ _ fun b o q => hx'.of.keeps b o q
end
section
variable {prog : Program} {w : World} {A : Around} {R : Result → Shared → Prop} {I : Addr} {fp wr : List Addr} {n : Nat} {P : Nat → Value → Prop} {St : Nat → Heap → Prop}
theorem dict_loop (W : Walks prog w A.in1 I fp wr n P St) (hb : Heap) (d : Addr) (hdf : d ∉ fp) (hd0 : hb.get? d = none) (hw0 : ∀ b ∈ wr, hb.get? b = none) (prs : List (Int × Value)) (hn : n = prs.length) (hsz : n ≤ 1000)
    (hP : ∀ i v, P i v → ∃ T k t x, v = .ref T ∧ prs[i]? = some (k, x) ∧ hb.IsTuple T #[.int k t, x]) :
    ∀ (k i : Nat) (s : Shared), n - i = k → i ≤ n → St i s.heap → (∀ b o, hb.get? b = some o → s.heap.get? b = some o) →
      s.heap.DictOf (intKind prog w) d (merged [] (prs.take i)) →
      (∀ h' tk, (∀ b o, hb.get? b = some o → h'.get? b = some o) → h'.DictOf (intKind prog w) d (merged [] prs) → R (.ok (.ret .none)) { s with heap := h', toks := tk }) →
      codeAny (model prog w) A (.builtin "dict.update.loop" ⟨[.ref d, .ref I, rawInt i, .none], []⟩) R s := by
  have hdw : d ∉ wr := fun h => hdf (W.sub _ h)
  intro k
  induction k with
  | zero =>
    intro i s hk hi hst hkb hS hR
    have hin : i = n := by omega
    subst hin
    refine codeAny_builtin dl_entry ?_
    rw [Around.under_plainId dl_plain _]
    show wpAny _ A.in1 (pyNext (.ref I) >>= _) _ _ s
    refine wpAny_bind (W.done s _ _ hst fun h' tk hm => ?_)
    show wpAny _ A.in1 (Builtin.Dict.addKeywords d [] >>= _) _ _ _
    refine wpAny_bind (wpAny_pure ?_)
    show wpAny _ A.in1 (ret Value.none) _ _ _
    refine wpAny_pure (hR h' tk (fun b o e => hm b o (fun x => by rw [hw0 b x] at e; cases e) (hkb b o e)) ?_)
    rw [hn, List.take_length] at hS
    obtain ⟨od, es, ep, ho, r⟩ := hS
    exact ⟨od, es, ep, hm d od hdw ho, r⟩
  | succ k ih =>
    intro i s hk hi hst hkb hS hR
    have hlt : i < n := by omega
    refine codeAny_builtin dl_entry ?_
    rw [Around.under_plainId dl_plain _]
    show wpAny _ A.in1 (pyNext (.ref I) >>= _) _ _ s
    refine wpAny_bind (W.item i s _ _ hlt hst fun v h₁ tk₁ hPv hst' hm => ?_)
    obtain ⟨T, kk, t, x, rfl, hpi, hT⟩ := hP i v hPv
    have hkb1 : ∀ b o, hb.get? b = some o → h₁.get? b = some o := fun b o e => hm b o (fun x => by rw [hw0 b x] at e; cases e) (hkb b o e)
    obtain ⟨oT, heT, hcT, nT, hdT⟩ := hT
    have heT1 := hkb1 _ _ heT
    have hS' : h₁.DictOf (intKind prog w) d (merged [] (prs.take i)) := by
      obtain ⟨od, es, ep, ho, r⟩ := hS
      exact ⟨od, es, ep, hm d od hdw ho, r⟩
    show wpAny _ A.in1 (holding [Value.ref T] _ >>= _) _ _ _
    refine wpAny_bind (wpAny_holding ?_)
    refine wpAny_bind (wpAny_tryCatch ?_)
    unfold Builtin.Dict.pairItems
    refine wpAny_bind (wpAny_typeOf (T := "tuple") ⟨_, heT1, hcT⟩ ?_)
    rw [if_pos (by decide)]
    refine wpAny_bind (wpAny_seqItems heT1 hdT ?_)
    refine wpAny_pure ?_
    show wpAny _ A.in1 (holding [Value.int kk t, x] (dictSet d (.int kk t) x)) _ _ _
    refine wpAny_holding ?_
    refine wpAny_dictSet_pairs (knd := intKind prog w) (k := kk) (intKind_is _ _ _ _) hS' (fun h' hS2 hsb => ?_) (hsz := ?_)
    · refine wpAny_pure ⟨plainId_quiet dl_plain _, ih (i + 1) ⟨h', s.gens, s.drawn, _, s.os⟩ (by omega) hlt (W.frame _ _ _ hst' fun b hb' o e => ?_) (fun b o e => ?_) ?_ fun h'' tk'' hk'' hS'' => ?_⟩
      · rw [hsb.2 b (fun h : b = d => hdf (by rw [← h]; exact hb'))]; exact e
      · show h'.get? b = some o
        rw [hsb.2 b (fun h : b = d => by rw [h, hd0] at e; cases e)]; exact hkb1 b o e
      · rw [merged_take_succ [] prs i (kk, x) hpi]; exact hS2
      · exact hR h'' tk'' hk'' hS''
    · have e1 := merged_length_le ([] : List (Int × Value)) (prs.take i)
      rw [List.length_take, List.length_nil] at e1
      rw [sizeLine_eq]; omega
end
section
variable {prog : Program} {w : World} {A : Around} {E : Value → Shared → Prop} {s : Shared}
theorem call_dict_pairs {l : Addr} {vs : List Value} {ol : Obj} {kl : Nat} {prs : List (Int × Value)} {Q : Value → Shared → Prop} (hh : A.handled = none) (hol : s.heap.get? l = some ol) (hcl : ol.cls = .type "list") (hdl : ol.data = .seq vs.toArray kl) (hdd : ol.dict = none)
    (hn : vs.length = prs.length) (hsz : vs.length ≤ 1000) (hP : ∀ (i : Nat) v, vs[i]? = some v → ∃ T k t x, v = .ref T ∧ prs[i]? = some (k, x) ∧ s.heap.IsTuple T #[.int k t, x])
    (h : ∀ h' tk, (∀ b o, s.heap.get? b = some o → h'.get? b = some o) → h'.DictOf (intKind prog w) s.heap.objs.size (merged [] prs) → Q (.ref s.heap.objs.size) { s with heap := h', toks := tk }) :
    wpAny (model prog w) A (call (.type "dict") [.ref l]) Q E s := by
  refine callType_codes (Q₁ := fun obj s₁ => obj = .ref s.heap.objs.size ∧ s₁ = { s with heap := s.heap.push { cls := .type "dict", data := .dict #[] } }) PySem.F.kt_called_dict (PySem.F.kt_typeCall_dict_1 _) PySem.F.entry_dict_init (kt_code_dict_new _ ⟨rfl, rfl⟩) ?_
  rintro obj s₁ ⟨rfl, rfl⟩
  have hnew : (s.heap.push { cls := .type "dict", data := .dict #[] }).DictOf (intKind prog w) s.heap.objs.size [] := Heap.DictOf.new s.heap
  refine ⟨hnew.typeIs, PySem.F.args_dict_init_2 _ _, ?_⟩
  have up : ∀ b o, s.heap.get? b = some o → (s.heap.push { cls := .type "dict", data := .dict #[] }).get? b = some o := fun b o e => Heap.get?_push_of_some _ e
  have nil : s.heap.get? s.heap.objs.size = none := by
    cases e : s.heap.get? s.heap.objs.size with
    | none => rfl
    | some o => exact absurd (Heap.lt_size e) (Nat.lt_irrefl _)
  have hls : l < s.heap.objs.size := Heap.lt_size hol
  unfold Builtin.«dict.__init__»
  refine wpAny_bind ?_
  unfold Builtin.Dict.selfAndRest
  refine wpAny_bind (wpAny_notOrdered_dict hnew.typeIs ?_)
  show wpAny _ _ (pure (s.heap.objs.size, [Value.ref l])) _ _ _
  refine wpAny_pure ?_
  show wpAny _ _ (Builtin.Dict.updateFrom "dict.__init__" s.heap.objs.size (.ref l) [] .none) _ _ _
  unfold Builtin.Dict.updateFrom
  refine wpAny_bind (wpAny_typeOf (T := "list") ⟨ol, up _ _ hol, hcl⟩ ?_)
  rw [if_pos (by decide)]
  refine wpAny_bind (noKeys_list (up _ _ hol) hcl hdl hdd (by simp [hh]) fun h2 tk2 hk2 => ?_)
  rw [if_pos (by decide)]
  refine wpAny_bind (wpAny_rule ?_)
  have hl2 : h2.IsList l vs.toArray := ⟨ol, hk2 _ _ (up _ _ hol), hcl, kl, hdl⟩
  refine wpAny_bind (wpAny_pyIter_list hl2 ?_)
  have hd2 : h2.get? s.heap.objs.size = some { cls := .type "dict", data := .dict #[] } := hk2 _ _ (Heap.get?_push_size _ rfl)
  have hlt2 : s.heap.objs.size < h2.objs.size := Heap.lt_size hd2
  have up2 : ∀ b o, h2.get? b = some o → (h2.push { cls := .type "list_iterator", data := .fields #[.ref l, .int 0 0] }).get? b = some o := fun b o e => Heap.get?_push_of_some _ e
  have hneI : l ≠ h2.objs.size := Nat.ne_of_lt (Nat.lt_trans hls hlt2)
  refine wpAny_pure ⟨plainId_quiet dl_plain _, ?_⟩
  refine dict_loop (Walks.list (by simp [hh]) h2.objs.size l hneI vs.toArray) s.heap s.heap.objs.size ?_ nil ?_ prs (by simpa using hn) (by simpa using hsz) ?_ vs.length 0 _ (by simp) (Nat.zero_le _) ?_ ?_ ?_ ?_
  · simp only [List.mem_cons, List.not_mem_nil, or_false, not_or]
    exact ⟨Nat.ne_of_lt hlt2, Nat.ne_of_gt hls⟩
  · intro b hb
    rw [List.mem_singleton.mp hb]
    cases e : s.heap.get? h2.objs.size with
    | none => rfl
    | some o => exact absurd (Heap.lt_size e) (Nat.not_lt.mpr (Nat.le_of_lt hlt2))
  · intro i v hv
    exact hP i v (by simpa using hv)
  · exact ⟨⟨_, Heap.get?_push_size _ rfl, rfl, rfl⟩, hl2.push _⟩
  · exact fun b o e => up2 b o (hk2 b o (up b o e))
  · obtain ⟨od, es, ep, ho, r⟩ := hnew
    exact ⟨od, es, ep, up2 _ _ (hk2 _ _ ho), r⟩
  · intro h' tk hk' hD
    exact ⟨rfl, h h' tk hk' hD⟩
end
end
section
open PyProof.V PySem.Spec
/-- the end of a def that only reads -/
def PPost (n : Nat) (al : Led) (D : Dat → Prop) (r : Value) (led : Led) : Prop := ∃ d, (∀ q ∈ led, n < q.1) ∧ DatIn (led ++ al) r d ∧ D d
theorem pure_use {w : World} {A : Around} {f : Addr} {args : List Value} {s : Shared} {al : Led} {D : Dat → Prop} (C : Calls w A f args s [] (PPost s.heap.objs.size al D)) {h₀ : Heap} {L : Addr} {m : Str → Option Value} {Q E : Value → Shared → Prop} {news : Led}
    (G : G0 w h₀) (F : Fr h₀ L s.heap m) (N : News h₀ L s.heap news)
    (ret : ∀ r led d h' tk', Fr h₀ L h' m → News h₀ L h' (led ++ news) → (∀ q ∈ led, L < q.1) → (∀ q ∈ led, ∀ q' ∈ news, q'.1 < q.1) → DatIn (led ++ al) r d → D d → Q r { s with heap := h', toks := tk' }) :
    wpAny (model PySem.Challenge.rw_pc0027_01.row.prog w) A (call (.ref f) args) Q E s :=
  C h₀ L m news Q E G F N (fun _ _ _ h => nomatch h) fun r led h' tk' F' N' ⟨d, hfr, hd, hD⟩ =>
    ret r led d h' tk' F' N' (fun q hq => Nat.lt_trans F.ns.lt (hfr q hq)) (fun q hq q' hq' => Nat.lt_trans (Heap.lt_size (N q' hq').1) (hfr q hq)) hd hD
theorem pdone_of {g : Heap} {L' : Addr} {s : Shared} {al : Led} {D : Dat → Prop} {r : Value} {d : Dat} {h' : Heap} {tk : Nat} {m' : Str → Option Value} {news : Led} (led : Led)
    (F : Fr g L' h' m') (N : News g L' h' news) (hs : ∀ q ∈ led, q ∈ news) (hlow : ∀ q ∈ led, L' < q.1) (hd : DatIn (led ++ al) r d) (hD : D d) : Done g L' s (PPost L' al D) r { s with heap := h', toks := tk } :=
  ⟨m', led, h', tk, rfl, F, fun q hq => N q (hs q hq), d, hlow, hd, hD⟩
def P0.told (T : Int → Int) : P0 → Dat
  | .v i => .int (T i)
  | .V is => tupI (is.map T)
  | .n d => d
def P1.told (T : Int → Int) : P1 → Dat
  | .p x => x.told T
  | .t w qs => .tuple (.str w :: qs.map (P0.told T))
abbrev told1 (T : Int → Int) (w : Str) (ps : List P1) : Dat := .tuple (.str w :: ps.map (P1.told T))
/-- a table of the base, and the map that it is -/
def TabIs (w : World) (h : Heap) (tbl : Addr) (T : Int → Int) : Prop :=
  ∃ D, IntTab PySem.Challenge.rw_pc0027_01.row.prog w h tbl D ∧ ∀ i, (lookup (.int i) D).getD (.int i) = .int (T i)
def PlainSpec (w : World) (dd : Nat) (T : Int → Int) (word : Str) (ps : List P1) : Prop :=
  ∀ (dp un : Nat) (fr : Option (List Env)) (gd : Option (List Code)) (s : Shared) (al : Led) (b tbl : Addr), dp + dd < recursionLimit → DatIn al (.ref b) (built1 word ps) → (∀ q ∈ al, s.heap.get? q.1 = some q.2) → TabIs w s.heap tbl T →
    Calls w ⟨none, dp, fr, gd, un⟩ 140 [.ref b, .ref tbl] s [] (PPost s.heap.objs.size al fun d => d = told1 T word ps)
theorem datAll_at {led : Led} {vs : List Value} {ds : List Dat} (h : DatAll led vs ds) {j : Nat} {v : Value} (hv : vs[j]? = some v) : ∃ d, ds[j]? = some d ∧ DatIn led v d := by
  have hj : j < ds.length := by rw [← h.length]; exact (List.getElem?_eq_some_iff.mp hv).1
  obtain ⟨u, hu, hd⟩ := h.get hj
  rw [hv] at hu
  cases hu
  exact ⟨ds[j], by simp [hj], hd⟩
theorem datAll_of {led : Led} : ∀ {ys : List Value} {ds : List Dat}, ys.length = ds.length → (∀ (i : Nat) (y : Value), ys[i]? = some y → ∃ d, ds[i]? = some d ∧ DatIn led y d) → DatAll led ys ds
  | [], [], _, _ => .nil
  | y :: ys, d :: ds, hl, h => by
    obtain ⟨d', hd, hy⟩ := h 0 y rfl
    cases hd
    exact .cons hy (datAll_of (by simpa using hl) fun i z hz => h (i + 1) z hz)
theorem flat_int {v : Value} {i : Int} (h : Flat v (.int i)) : ∃ t, v = .int i t := let ⟨t, e, _⟩ := reads_int_inv (h ({} : Heap)); ⟨t, e⟩
/-- few parts, few variables in each -/
def Small (ps : List P1) : Prop := ps.length ≤ 10 ∧ ∀ is, P1.p (.V is) ∈ ps → is.length ≤ 100
theorem told_p (T : Int → Int) (qs : List P0) : (qs.map P1.p).map (P1.told T) = qs.map (P0.told T) := by rw [List.map_map]; rfl
theorem datIn_tup {led : Led} {v : Value} {ds : List Dat} (h : DatIn led v (.tuple ds)) : ∃ a vs k, v = .ref a ∧ (a, ({ cls := .type "tuple", data := .seq (List.toArray vs) k } : Obj)) ∈ led ∧ DatAll led vs ds := by cases h with | tuple hm hall => exact ⟨_, _, _, rfl, hm, hall⟩
theorem plain_step {w : World} {dd : Nat} {T : Int → Int} {word : Str} {ps : List P1} (hsm : Small ps) (hrec : ∀ v qs, P1.t v qs ∈ ps → PlainSpec w dd T v (qs.map .p)) : PlainSpec w (dd + 1) T word ps := by
  intro dp un fr gd s al b tbl hroom hb hal hT
  walk_at "m_enterC"
  intro g h₁ tk cells G F N Y hlow hkeep
  (try dsimp only)
  have GG := G
  have hsg : ∀ b o, s.heap.get? b = some o → g.get? b = some o := fun b o e => hkeep b o e (fun _ h => nomatch h)
  have halg : ∀ q ∈ al, g.get? q.1 = some q.2 := fun q hq => hsg _ _ (hal q hq)
  obtain ⟨TD, hTab, hTT⟩ := hT
  replace hTab := hTab.keep hsg
  obtain ⟨X, mean, mg, mb, TT⟩ := G
  obtain ⟨o₁, hE, d1⟩ := CellsAre.one Y
  subst hE
  (try simp only [List.cons_append, List.nil_append] at N)
  cases hb with
  | list hbm hball =>
  rename_i vb kb
  cases hball with
  | cons h0 hitems =>
  rename_i v0 items
  obtain ⟨t0, rfl⟩ := datIn_str h0
  have hbl : g.IsList b (Value.str word t0 :: items).toArray := ⟨_, halg _ hbm, rfl, _, rfl⟩
  have hil : items.length = ps.length := by rw [hitems.length, List.length_map]
  have hsm1 := hsm.1
  (try k_fold)
  iterate 13 (walk_at "m_1")
  rename_i f hp1 lf0 lf1 lf2 hp2 FF NN
  refine For_turns (by k_asm) ?_
  iterate 7 (walk_at "m_1")
  refine slice1_M (s := ⟨_, _, _, _, _⟩) (by k_asm) (by k_asm) hbl ?_ (by with_unfolding_all rfl) (by kmk_pure) (by rw [sizeLine_eq]; omega)
  intro l h2 F N l0 l1
  have hlf : f < l := l0 _ (.head _)
  refine pairs_M (rest := [(f, listOf [Value.str word t0].toArray 0), (s.heap.objs.size + 1, o₁)]) (fun j x y => ∃ q, ps[j]? = some q ∧ (∃ t, x = .str q.kind t) ∧ DatIn al y q.dat) rfl (by k_asm) (by k_asm) (.head _) ?hit (by walk_at "m_sub")
    (fun i m nx => ∃ ys k tl, m (Str.ofString "found") = some (.ref f) ∧ nx = (f, ({ cls := .type "list", data := .seq (Value.str word t0 :: ys).toArray k } : Obj)) :: (s.heap.objs.size + 1, o₁) :: tl ∧ DatAll (tl ++ al) ys ((ps.take i).map (P1.told T)) ∧ ∀ q ∈ tl, s.heap.objs.size < q.1 ∧ q.1 ≠ f)
    ⟨[], 0, [], rfl, rfl, by simpa using DatAll.nil, fun _ h => nomatch h⟩ ?turn ?done
  case hit =>
    intro j v hv
    obtain ⟨q, hq, hd⟩ := datAll_at hitems hv
    rw [List.getElem?_map] at hq
    cases hp : ps[j]? with
    | none => rw [hp] at hq; cases hq
    | some p =>
      rw [hp] at hq
      have hq' : P1.pair p = q := Option.some.inj hq
      subst hq'
      obtain ⟨a, k, v1, v2, rfl, hm, hv1, hv2⟩ := datIn_pair hd
      exact ⟨a, v1, v2, rfl, ⟨_, halg _ hm, rfl, _, rfl⟩, p, rfl, datIn_str hv1, hv2⟩
  case done =>
    rintro h' tk m' nx F N ⟨ys, k, tl, hm, rfl, hd, htl⟩
    rw [map_form hm] at F
    rw [hil, List.take_length] at hd
    have hlen := hd.length
    rw [List.length_map] at hlen
    (try k_fold)
    k_steps
    rename_i T0 hT0 FT NT lt0 lt1 lt2
    refine pdone_of ((T0, { cls := .type "tuple", data := .seq (Value.str word t0 :: ys).toArray }) :: tl) FT NT (by walk_at "m_sub") (List.forall_mem_cons.mpr ⟨lt2, fun q hq => (htl q hq).1⟩) (DatIn.tuple (List.Mem.head _) (DatAll.cons (DatIn.str _ _) (hd.mono fun q hq => .tail _ hq))) rfl
  case turn =>
    rintro i P x y m₁ nx h₁ tk₁ own wr hi hP ⟨q, hq, ⟨tq, rfl⟩, hy⟩ ⟨ys, k, tl, hm, rfl, hd, htl⟩ hown hw hnx F N
    rw [map_form hm] at F
    have hlen := hd.length
    rw [List.length_map, List.length_take, Nat.min_eq_left (by omega)] at hlen
    have hne0 : ∀ q ∈ own ++ ((s.heap.objs.size + 1, o₁) :: tl), q.1 ≠ f := by
      intro q hq e
      rcases List.mem_append.mp hq with hq | hq
      · rcases hown q hq with h | h
        · exact hnx _ (.head _) (e ▸ h)
        · exact absurd (e ▸ h : f = l) (Nat.ne_of_lt hlf)
      · rcases List.mem_cons.mp hq with rfl | hq
        · exact absurd e (Nat.ne_of_lt (lf0 _ (.head _)))
        · exact (htl q hq).2 e
    have htake : (ps.take (i + 1)).map (P1.told T) = (ps.take i).map (P1.told T) ++ [q.told T] := by rw [List.take_add_one, hq]; simp
    rw [htake]
    rcases q with (i0 | is | d) | ⟨v, qs⟩
    · simp only [P1.kind, P0.kind, P1.dat, P0.dat] at hP hy
      obtain ⟨t1, rfl⟩ := datIn_int hy
      (try k_fold)
      iterate 29 (walk_at "m_1")
      refine call_get2_intTab (TabAt.keep hTab (Fr.keep (by k_asm))) (Flat.int _ _) ?_
      intro v hv
      rw [hTT] at hv
      obtain ⟨t2, rfl⟩ := flat_int hv
      (try k_fold)
      iterate 30 (walk_at "m_1")
      refine append_M (vs := Value.str word t0 :: ys) (own ++ ((s.heap.objs.size + 1, o₁) :: tl)) (by k_asm) (by k_asm) (by walk_at "m_in") (by walk_at "m_sub") hne0 (by rw [sizeLine_eq]; simp only [List.length_cons]; omega) ?_
      intro h9 F N
      (try k_fold)
      k_steps
      refine turnEnd_of (nx := (f, { cls := .type "list", data := .seq ((Value.str word t0 :: ys) ++ [(Value.int (T i0) t2)]).toArray (k + 1) }) :: ((s.heap.objs.size + 1, o₁) :: tl)) (by k_asm) (by k_asm) (by walk_at "m_sub") (by walk_at "m_sub") (List.forall_mem_cons.mpr ⟨show f ∉ wr from hnx _ (.head _), fun p hp => hnx p (.tail _ hp)⟩) ⟨ys ++ [(Value.int (T i0) t2)], k + 1, tl, rfl, rfl, (hd.append (DatAll.one (DatIn.int _ _))), htl⟩
    · simp only [P1.kind, P0.kind, P1.dat, P0.dat] at hP hy
      obtain ⟨a, vs, ka, rfl, hma, hvs⟩ := datIn_tup hy
      have hta : IsTup g a vs.toArray := ⟨_, halg _ hma, rfl, _, rfl⟩
      (try k_fold)
      iterate 34 (walk_at "m_1")
      refine listComp_T (by k_asm) (by with_unfolding_all rfl) (by decide) (by rfl) (by decide) (by rfl) ?_
      walk_at "m_1"
      have hisl := hsm.2 is (List.mem_of_getElem? hq)
      have hvl : vs.length = is.length := by rw [hvs.length, List.length_map]
      refine compT_flat (fun i y => ∃ j t, is[i]? = some j ∧ y = .int (T j) t) [(s.heap.objs.size + 1, o₁)] rfl (by k_asm) (by k_asm) hta (by rw [sizeLine_eq]; omega) (by walk_at "m_sub") ?_ ?_
      · intro g' i2 v C oC m₂ h2 tk2 news Q E hv hNC hx F N hC hmust ret
        have hcell := hmust _ (.head _)
        obtain ⟨dj, hdj, hvd⟩ := datAll_at hvs hv
        rw [List.getElem?_map] at hdj
        cases hj : is[i2]? with
        | none => rw [hj] at hdj; cases hdj
        | some j =>
        rw [hj] at hdj
        cases hdj
        obtain ⟨t3, rfl⟩ := datIn_int hvd
        (try k_fold)
        iterate 10 (walk_at "m_1")
        refine call_get2_intTab (TabAt.keep hTab (Fr.keep (by k_asm))) (Flat.int _ _) ?_
        intro v hv
        rw [hTT] at hv
        obtain ⟨t2, rfl⟩ := flat_int hv
        exact ret _ _ _ ⟨j, t2, hj, rfl⟩ (by k_asm) (by k_asm)
      · intro D h2 tk2 ys2 F N hap hl2 hr2
        have hdd : DatAll [] ys2 ((is.map T).map .int) := datAll_of (by rw [List.length_map, List.length_map]; omega) fun i2 y hy => by
          obtain ⟨j, t, hj, rfl⟩ := hr2 i2 y hy
          exact ⟨.int (T j), by simp [hj], DatIn.int _ _⟩
        (try k_fold)
        iterate 21 (walk_at "m_1")
        rename_i T1 hT1 lt0 lt1 lt2 hT2 FT NT
        refine append_M (vs := Value.str word t0 :: ys) (own ++ ((s.heap.objs.size + 1, o₁) :: (T1, { cls := .type "tuple", data := .seq ys2.toArray }) :: tl)) FT NT (by walk_at "m_in") (by walk_at "m_sub") ?_ (by rw [sizeLine_eq]; simp only [List.length_cons]; omega) ?_
        · intro q hq
          rcases List.mem_append.mp hq with hq | hq
          · exact hne0 q (List.mem_append_left _ hq)
          · rcases List.mem_cons.mp hq with rfl | hq
            · exact hne0 _ (List.mem_append_right _ (.head _))
            · rcases List.mem_cons.mp hq with rfl | hq
              · exact Nat.ne_of_gt (lt0 (f, _) (List.mem_append_right _ (.head _)))
              · exact hne0 _ (List.mem_append_right _ (.tail _ hq))
        · intro h9 F N
          (try k_fold)
          k_steps
          refine turnEnd_of (nx := (f, { cls := .type "list", data := .seq ((Value.str word t0 :: ys) ++ [Value.ref T1]).toArray (k + 1) }) :: ((s.heap.objs.size + 1, o₁) :: (T1, { cls := .type "tuple", data := .seq ys2.toArray }) :: tl)) (by k_asm) (by k_asm) (by walk_at "m_sub") (by walk_at "m_sub")
            (List.forall_mem_cons.mpr ⟨show f ∉ wr from hnx _ (.head _), List.forall_mem_cons.mpr ⟨hnx _ (.tail _ (.head _)), List.forall_mem_cons.mpr ⟨fresh_wr hw lt0, fun p hp => hnx p (.tail _ (.tail _ hp))⟩⟩⟩)
            ⟨ys ++ [Value.ref T1], k + 1, (T1, { cls := .type "tuple", data := .seq ys2.toArray }) :: tl, rfl, rfl, (hd.mono fun q hq => .tail _ hq).append (DatAll.one (DatIn.tuple (List.Mem.head _) (hdd.mono (List.forall_mem_nil _)))), List.forall_mem_cons.mpr ⟨⟨lt2, Nat.ne_of_gt (lt0 (f, _) (List.mem_append_right _ (.head _)))⟩, htl⟩⟩
    · simp only [P1.kind, P0.kind, P1.dat, P0.dat] at hP hy
      (try k_fold)
      iterate 45 (walk_at "m_1")
      refine append_M (vs := Value.str word t0 :: ys) (own ++ ((s.heap.objs.size + 1, o₁) :: tl)) (by k_asm) (by k_asm) (by walk_at "m_in") (by walk_at "m_sub") hne0 (by rw [sizeLine_eq]; simp only [List.length_cons]; omega) ?_
      intro h9 F N
      (try k_fold)
      k_steps
      refine turnEnd_of (nx := (f, { cls := .type "list", data := .seq ((Value.str word t0 :: ys) ++ [y]).toArray (k + 1) }) :: ((s.heap.objs.size + 1, o₁) :: tl)) (by k_asm) (by k_asm) (by walk_at "m_sub") (by walk_at "m_sub") (List.forall_mem_cons.mpr ⟨show f ∉ wr from hnx _ (.head _), fun p hp => hnx p (.tail _ hp)⟩) ⟨ys ++ [y], k + 1, tl, rfl, rfl, (hd.append (DatAll.one (hy.mono fun q hq => List.mem_append_right _ hq))), htl⟩
    · simp only [P1.kind, P1.dat] at hP hy
      obtain ⟨b2, rfl⟩ := datIn_refL hy
      rw [show built0 v qs = built1 v (qs.map P1.p) from flat_pairs v qs] at hy
      (try k_fold)
      iterate 52 (walk_at "m_1")
      refine pure_use (hrec v qs (List.mem_of_getElem? hq) _ _ _ _ _ al b2 tbl (by walk_at "m_om") hy (fun q hq => Fr.keep (by k_asm) _ _ (halg q hq)) ⟨TD, hTab.keep (Fr.keep (by k_asm)), hTT⟩) GG (by k_asm) (by k_asm) ?_
      intro r led d h8 tk8 F N hlowd hfr hdd hD
      subst hD
      have hneR : ∀ q ∈ own ++ ((s.heap.objs.size + 1, o₁) :: (led ++ tl)), q.1 ≠ f := by
        intro q hq
        rcases List.mem_append.mp hq with hq | hq
        · exact hne0 q (List.mem_append_left _ hq)
        · rcases List.mem_cons.mp hq with rfl | hq
          · exact hne0 _ (List.mem_append_right _ (.head _))
          · rcases List.mem_append.mp hq with hq | hq
            · exact Nat.ne_of_gt (hfr q hq (f, _) (List.mem_append_right _ (.head _)))
            · exact hne0 _ (List.mem_append_right _ (.tail _ hq))
      have hwR : ∀ q ∈ led, q.1 ∉ wr := fun q hq => fresh_wr hw (hfr q hq)
      have hdR : DatAll ((led ++ tl) ++ al) (ys ++ [r]) ((ps.take i).map (P1.told T) ++ [P1.told T (.t v qs)]) := (hd.mono fun q hq => (List.mem_append.mp hq).elim (fun h => List.mem_append_left _ (List.mem_append_right _ h)) fun h => List.mem_append_right _ h).append (DatAll.one (by
        have hdd' : DatIn (led ++ al) r (.tuple (.str v :: (qs.map P1.p).map (P1.told T))) := hdd
        rw [told_p] at hdd'
        exact hdd'.mono fun q hq => (List.mem_append.mp hq).elim (fun h => List.mem_append_left _ (List.mem_append_left _ h)) fun h => List.mem_append_right _ h))
      have hlR : ∀ q ∈ led ++ tl, s.heap.objs.size < q.1 ∧ q.1 ≠ f := fun q hq => (List.mem_append.mp hq).elim (fun h => ⟨hlowd q h, Nat.ne_of_gt (hfr q h (f, _) (List.mem_append_right _ (.head _)))⟩) (htl q)
      (try k_fold)
      walk_at "m_1"
      refine append_M (vs := Value.str word t0 :: ys) (own ++ ((s.heap.objs.size + 1, o₁) :: (led ++ tl))) (by k_asm) (by k_asm) (by walk_at "m_in") (by walk_at "m_sub") hneR (by rw [sizeLine_eq]; simp only [List.length_cons]; omega) ?_
      intro h9 F N
      (try k_fold)
      k_steps
      refine turnEnd_of (nx := (f, { cls := .type "list", data := .seq ((Value.str word t0 :: ys) ++ [r]).toArray (k + 1) }) :: ((s.heap.objs.size + 1, o₁) :: (led ++ tl))) (by k_asm) (by k_asm) (by walk_at "m_sub") (by walk_at "m_sub") (List.forall_mem_cons.mpr ⟨show f ∉ wr from hnx _ (.head _), List.forall_mem_cons.mpr ⟨hnx _ (.tail _ (.head _)), fun p hp => (List.mem_append.mp hp).elim (hwR p) fun h => hnx p (.tail _ (.tail _ h))⟩⟩) ⟨ys ++ [r], k + 1, led ++ tl, rfl, rfl, hdR, hlR⟩
theorem plain_flat {w : World} {T : Int → Int} {v : Str} {qs : List P0} (hsm : Small (qs.map .p)) : PlainSpec w 1 T v (qs.map .p) :=
  plain_step hsm fun v' qs' h => by obtain ⟨x, _, e⟩ := List.mem_map.mp h; cases e
theorem plain_all {w : World} {T : Int → Int} {word : Str} {ps : List P1} (hsm : Small ps) (hn : ∀ v qs, P1.t v qs ∈ ps → Small (qs.map .p)) : PlainSpec w 2 T word ps :=
  plain_step hsm fun v qs h => plain_flat (hn v qs h)
end
section
open PyProof.V PySem.Spec
def P0.names : P0 → List Int
  | .v i => [i]
  | .V is => is
  | .n _ => []
def P1.names : P1 → List Int
  | .p x => x.names
  | .t _ qs => qs.flatMap P0.names
/-- a list of ints that the call has made -/
def NPost (n : Nat) (is : List Int) (r : Value) (led : Led) : Prop :=
  ∃ a vs k, r = .ref a ∧ n < a ∧ led = [(a, ({ cls := .type "list", data := .seq (List.toArray vs) k } : Obj))] ∧ DatAll [] vs (is.map .int)
def NamedSpec (w : World) (dd : Nat) (word : Str) (ps : List P1) : Prop :=
  ∀ (dp un : Nat) (fr : Option (List Env)) (gd : Option (List Code)) (s : Shared) (al : Led) (b : Addr), dp + dd < recursionLimit → DatIn al (.ref b) (built1 word ps) → (∀ q ∈ al, s.heap.get? q.1 = some q.2) →
    Calls w ⟨none, dp, fr, gd, un⟩ 147 [.ref b] s [] (NPost s.heap.objs.size (ps.flatMap P1.names))
theorem named_use {w : World} {A : Around} {f : Addr} {args : List Value} {s : Shared} {is : List Int} (C : Calls w A f args s [] (NPost s.heap.objs.size is)) {h₀ : Heap} {L : Addr} {m : Str → Option Value} {Q E : Value → Shared → Prop} {news : Led}
    (G : G0 w h₀) (F : Fr h₀ L s.heap m) (N : News h₀ L s.heap news)
    (ret : ∀ a vs k h' tk', Fr h₀ L h' m → News h₀ L h' ((a, ({ cls := .type "list", data := .seq (List.toArray vs) k } : Obj)) :: news) → L < a → (∀ q' ∈ news, q'.1 < a) → DatAll [] vs (is.map .int) → Q (.ref a) { s with heap := h', toks := tk' }) :
    wpAny (model PySem.Challenge.rw_pc0027_01.row.prog w) A (call (.ref f) args) Q E s :=
  C h₀ L m news Q E G F N (fun _ _ _ h => nomatch h) fun r led h' tk' F' N' ⟨a, vs, k, e, ha, el, hd⟩ => by
    subst e; subst el
    exact ret a vs k h' tk' F' N' (Nat.lt_trans F.ns.lt ha) (fun q hq => Nat.lt_trans (Heap.lt_size (N q hq).1) ha) hd
theorem names_p (qs : List P0) : (qs.map P1.p).flatMap P1.names = qs.flatMap P0.names := by rw [List.flatMap_map]; rfl
theorem names_in {ps : List P1} {v : Str} {qs : List P0} (h : P1.t v qs ∈ ps) : (qs.flatMap P0.names).length ≤ (ps.flatMap P1.names).length := by
  obtain ⟨a, b, rfl⟩ := List.append_of_mem h
  rw [List.flatMap_append, List.flatMap_cons, List.length_append, List.length_append]
  show (qs.flatMap P0.names).length ≤ _ + ((qs.flatMap P0.names).length + _)
  omega
theorem named_step {w : World} {dd : Nat} {word : Str} {ps : List P1} (hsm : Small ps) (hns : (ps.flatMap P1.names).length ≤ 1000) (hrec : ∀ v qs, P1.t v qs ∈ ps → NamedSpec w dd v (qs.map .p)) : NamedSpec w (dd + 1) word ps := by
  intro dp un fr gd s al b hroom hb hal
  have hns0 := hns
  walk_at "m_enter"
  intro g h₁ G F N hlow hkeep
  (try dsimp only)
  have GG := G
  have hsg : ∀ b o, s.heap.get? b = some o → g.get? b = some o := fun b o e => hkeep b o e (fun _ h => nomatch h)
  have halg : ∀ q ∈ al, g.get? q.1 = some q.2 := fun q hq => hsg _ _ (hal q hq)
  obtain ⟨X, mean, mg, mb, TT⟩ := G
  cases hb with
  | list hbm hball =>
  rename_i vb kb
  cases hball with
  | cons h0 hitems =>
  rename_i v0 items
  obtain ⟨t0, rfl⟩ := datIn_str h0
  have hbl : g.IsList b (Value.str word t0 :: items).toArray := ⟨_, halg _ hbm, rfl, _, rfl⟩
  have hil : items.length = ps.length := by rw [hitems.length, List.length_map]
  have hsm1 := hsm.1
  (try k_fold)
  iterate 8 (walk_at "m_1")
  rename_i f hp1 lf0 lf1 lf2 hp2 FF NN
  refine For_turns (by k_asm) ?_
  iterate 7 (walk_at "m_1")
  refine slice1_M (s := ⟨_, _, _, _, _⟩) (by k_asm) (by k_asm) hbl ?_ (by with_unfolding_all rfl) (by kmk_pure) (by rw [sizeLine_eq]; omega)
  intro l h2 F N l0 l1
  have hlf : f < l := l0 _ (.head _)
  refine pairs_M (rest := [(f, listOf ([] : List Value).toArray 0)]) (fun j x y => ∃ q, ps[j]? = some q ∧ (∃ t, x = .str q.kind t) ∧ DatIn al y q.dat) rfl (by k_asm) (by k_asm) (.head _) ?hit (by walk_at "m_sub")
    (fun i m nx => ∃ f ys k, m (Str.ofString "found") = some (.ref f) ∧ nx = [(f, ({ cls := .type "list", data := .seq (List.toArray ys) k } : Obj))] ∧ DatAll [] ys (((ps.take i).flatMap P1.names).map .int) ∧ s.heap.objs.size < f)
    ⟨f, [], 0, rfl, rfl, by simpa using DatAll.nil, lf2⟩ ?turn ?done
  case hit =>
    intro j v hv
    obtain ⟨q, hq, hd⟩ := datAll_at hitems hv
    rw [List.getElem?_map] at hq
    cases hp : ps[j]? with
    | none => rw [hp] at hq; cases hq
    | some p =>
      rw [hp] at hq
      have hq' : P1.pair p = q := Option.some.inj hq
      subst hq'
      obtain ⟨a, k, v1, v2, rfl, hm, hv1, hv2⟩ := datIn_pair hd
      exact ⟨a, v1, v2, rfl, ⟨_, halg _ hm, rfl, _, rfl⟩, p, rfl, datIn_str hv1, hv2⟩
  case done =>
    rintro h' tk m' nx F N ⟨f, ys, k, hm, rfl, hd, hlf⟩
    rw [map_form hm] at F
    rw [hil, List.take_length] at hd
    (try k_fold)
    k_steps
    exact ⟨_, _, _, _, rfl, by k_asm, by k_asm, f, ys, k, rfl, hlf, rfl, hd⟩
  case turn =>
    rintro i P x y m₁ nx h₁ tk₁ own wr hi hP ⟨q, hq, ⟨tq, rfl⟩, hy⟩ ⟨f, ys, k, hm, rfl, hd, hlf⟩ hown hw hnx F N
    rw [map_form hm] at F
    have hlen := hd.length
    rw [List.length_map] at hlen
    have htake : (ps.take (i + 1)).flatMap P1.names = (ps.take i).flatMap P1.names ++ q.names := by rw [List.take_add_one, hq]; simp
    have hle : ((ps.take i).flatMap P1.names).length ≤ 1000 := by
      have e : ps.flatMap P1.names = (ps.take i).flatMap P1.names ++ (ps.drop i).flatMap P1.names := by rw [← List.flatMap_append, List.take_append_drop]
      rw [e, List.length_append] at hns
      omega
    rw [htake]
    rcases q with (i0 | is | d) | ⟨v, qs⟩
    · simp only [P1.kind, P0.kind, P1.dat, P0.dat, P1.names, P0.names] at hP hy ⊢
      obtain ⟨t1, rfl⟩ := datIn_int hy
      (try k_fold)
      iterate 34 (walk_at "m_1")
      refine add_lists_M own (by k_asm) (by k_asm) (by walk_at "m_in") (List.Mem.head _) (by walk_at "m_sub") (by rw [sizeLine_eq]; (try simp only [List.length_cons, List.length_nil]); omega) ?_
      intro T0 h0 F N l1 l2
      (try k_fold)
      k_steps
      refine turnEnd_of (nx := [(T0, { cls := .type "list", data := .seq (ys ++ [Value.int i0 t1]).toArray })]) (by k_asm) (by k_asm) (by walk_at "m_sub") (by walk_at "m_sub") (List.forall_mem_cons.mpr ⟨fun hm => by obtain ⟨o, ho⟩ := hw _ hm; exact absurd (l1 _ ho) (Nat.lt_irrefl _), List.forall_mem_nil _⟩)
        ⟨T0, ys ++ [Value.int i0 t1], 0, rfl, rfl, by rw [List.map_append]; exact hd.append (DatAll.one (DatIn.int _ _)), l2⟩
    · simp only [P1.kind, P0.kind, P1.dat, P0.dat, P1.names, P0.names] at hP hy ⊢
      obtain ⟨a, vs, ka, rfl, hma, hvs⟩ := datIn_tup hy
      have hta : IsTup g a vs.toArray := ⟨_, halg _ hma, rfl, _, rfl⟩
      (try k_fold)
      iterate 42 (walk_at "m_1")
      have hisl := hsm.2 is (List.mem_of_getElem? hq)
      have hvl : vs.length = is.length := by rw [hvs.length, List.length_map]
      refine list_copyKT (by k_asm) (by k_asm) (hta.keeps (Fr.keep (by k_asm))) ?_ (by rw [List.size_toArray, sizeLine_eq]; omega)
      intro D c h5 F N l3
      have hvs0 := datAll_ints hvs
      (try k_fold)
      skip
      refine add_lists_M own (by k_asm) (by k_asm) (by walk_at "m_in") (List.Mem.head _) (by walk_at "m_sub") (by rw [sizeLine_eq]; (try simp only [List.length_cons, List.length_nil]); omega) ?_
      intro T0 h0 F N l1 l2
      (try k_fold)
      k_steps
      refine turnEnd_of (nx := [(T0, { cls := .type "list", data := .seq (ys ++ vs).toArray })]) (by k_asm) (by k_asm) (by walk_at "m_sub") (by walk_at "m_sub") (List.forall_mem_cons.mpr ⟨fun hm => by obtain ⟨o, ho⟩ := hw _ hm; exact absurd (l1 _ ho) (Nat.lt_irrefl _), List.forall_mem_nil _⟩)
        ⟨T0, ys ++ vs, 0, rfl, rfl, by rw [List.map_append]; exact hd.append hvs0, l2⟩
    · simp only [P1.kind, P0.kind, P1.dat, P0.dat, P1.names, P0.names] at hP hy ⊢
      (try k_fold)
      k_steps
      refine turnEnd_of (nx := [(f, { cls := .type "list", data := .seq (List.toArray ys) k })]) (by k_asm) (by k_asm) (by walk_at "m_sub") (by walk_at "m_sub") hnx ⟨f, ys, k, rfl, rfl, by simpa using hd, hlf⟩
    · simp only [P1.kind, P1.dat, P1.names] at hP hy ⊢
      obtain ⟨b2, rfl⟩ := datIn_refL hy
      rw [show built0 v qs = built1 v (qs.map P1.p) from flat_pairs v qs] at hy
      (try k_fold)
      iterate 43 (walk_at "m_1")
      refine named_use (hrec v qs (List.mem_of_getElem? hq) _ _ _ _ _ al b2 (by walk_at "m_om") hy (fun q hq => Fr.keep (by k_asm) _ _ (halg q hq))) GG (by k_asm) (by k_asm) ?_
      intro a vs k8 h8 tk8 F N l3 l4 hvs
      have hvl := hvs.length
      rw [List.length_map, names_p] at hvl
      rw [names_p] at hvs
      have hqn : (qs.flatMap P0.names).length ≤ 1000 := Nat.le_trans (names_in (List.mem_of_getElem? hq)) hns0
      (try k_fold)
      skip
      refine add_lists_M own (by k_asm) (by k_asm) (by walk_at "m_in") (List.Mem.head _) (by walk_at "m_sub") (by rw [sizeLine_eq]; (try simp only [List.length_cons, List.length_nil]); omega) ?_
      intro T0 h0 F N l1 l2
      (try k_fold)
      k_steps
      refine turnEnd_of (nx := [(T0, { cls := .type "list", data := .seq (ys ++ vs).toArray })]) (by k_asm) (by k_asm) (by walk_at "m_sub") (by walk_at "m_sub") (List.forall_mem_cons.mpr ⟨fun hm => by obtain ⟨o, ho⟩ := hw _ hm; exact absurd (l1 _ ho) (Nat.lt_irrefl _), List.forall_mem_nil _⟩)
        ⟨T0, ys ++ vs, 0, rfl, rfl, by rw [List.map_append]; exact hd.append hvs, l2⟩
theorem named_flat {w : World} {v : Str} {qs : List P0} (hsm : Small (qs.map .p)) (hn : ((qs.map P1.p).flatMap P1.names).length ≤ 1000) : NamedSpec w 1 v (qs.map .p) :=
  named_step hsm hn fun v' qs' h => by obtain ⟨x, _, e⟩ := List.mem_map.mp h; cases e
theorem named_all {w : World} {word : Str} {ps : List P1} (hsm : Small ps) (hl : (ps.flatMap P1.names).length ≤ 1000) (hn : ∀ v qs, P1.t v qs ∈ ps → Small (qs.map .p)) : NamedSpec w 2 word ps :=
  named_step hsm hl fun v qs h => named_flat (hn v qs h) (by rw [names_p]; exact Nat.le_trans (names_in h) hl)
end
section
open PyProof.V PySem.Spec
open Builtin Builtin.Str
section
variable {prog : Program} {w : World} {A : Around} {E : Value → Shared → Prop} {s : Shared}
/-- drawing from a tuple's iterator -/
theorem draws_tuple (hh : A.handled = none) (it t : Addr) (hne : t ≠ it) (items : Array Value) :
    Draws prog w A it [it, t] items.size (fun i v => items[i]? = some v) (fun i h => h.IsTupleIter it t i ∧ h.IsTuple t items) where
  live := fun _ _ st => let ⟨o, ho, _⟩ := st.1; ⟨o, ho⟩
  frame := fun _ _ _ st hk => ⟨let ⟨o, ho, r⟩ := st.1; ⟨o, hk it (by simp) o ho, r⟩, let ⟨o, ho, r⟩ := st.2; ⟨o, hk t (by simp) o ho, r⟩⟩
  item := fun i s Q E hi st hQ => by
    obtain ⟨hit, ht⟩ := st
    obtain ⟨o, ho, hc, hd⟩ := id hit
    obtain ⟨ol, hol, _, nl, hdl⟩ := id ht
    unfold Builtin.SmallTypes.nextOf
    refine wpAny_bind (wpAny_callSpecial?_slot (name := Str.ofString "__next__") hit.typeIs F.slot_tuple_iterator_next
      (wpAny_call_entry F.slot_tuple_iterator_next hit.typeIs F.entry_tuple_iterator_next ?_ (F.args_tuple_iterator_next_1 _)))
    show wpAny _ _ (field (.ref it) 0 >>= _) _ _ s
    refine wpAny_bind (wpAny_field ho hd (x := .ref t) rfl ?_)
    show wpAny _ _ (if (Value.ref t == Value.none) = true then _ else _) _ _ s
    rw [if_neg (show ¬ ((Value.ref t == Value.none) = true) from Bool.false_ne_true)]
    show wpAny _ _ (field (.ref it) 1 >>= _) _ _ s
    refine wpAny_bind (wpAny_field ho hd (x := .int i 0) rfl ?_)
    show wpAny _ _ (seqItems? (.ref t) >>= _) _ _ s
    refine wpAny_bind (wpAny_seqItems hol hdl ?_)
    have hx : items[i]? = some items[i] := by simp [hi]
    simp only [Int.toNat_natCast, hx]
    refine wpAny_bind (wpAny_setField ho hd (by simp) (wpAny_pure ⟨items[i], rfl, wpAny_pure (hQ _ _ _ hx ⟨?_, ht.extBut (Heap.SameBut.update ..).extBut hne⟩ (Heap.SameBut.update ..))⟩))
    exact ⟨_, Heap.get?_update_self _ ho (Obj.isFreed_of_fields (Obj.data_mapFields hd _)), (Obj.cls_mapFields ..).trans hc, by
      rw [Obj.data_mapFields hd]; simp [rawInt]⟩
  done := fun s Q E st hE => by
    obtain ⟨hit, ht⟩ := st
    obtain ⟨o, ho, hc, hd⟩ := id hit
    obtain ⟨ol, hol, _, nl, hdl⟩ := id ht
    unfold Builtin.SmallTypes.nextOf
    refine wpAny_bind (wpAny_callSpecial?_slot (name := Str.ofString "__next__") hit.typeIs F.slot_tuple_iterator_next
      (wpAny_call_entry F.slot_tuple_iterator_next hit.typeIs F.entry_tuple_iterator_next ?_ (F.args_tuple_iterator_next_1 _)))
    show wpAny _ _ (field (.ref it) 0 >>= _) _ _ s
    refine wpAny_bind (wpAny_field ho hd (x := .ref t) rfl ?_)
    show wpAny _ _ (if (Value.ref t == Value.none) = true then _ else _) _ _ s
    rw [if_neg (show ¬ ((Value.ref t == Value.none) = true) from Bool.false_ne_true)]
    show wpAny _ _ (field (.ref it) 1 >>= _) _ _ s
    refine wpAny_bind (wpAny_field ho hd (x := .int items.size 0) rfl ?_)
    show wpAny _ _ (seqItems? (.ref t) >>= _) _ _ s
    refine wpAny_bind (wpAny_seqItems hol hdl ?_)
    have hx : items[items.size]? = none := by simp
    simp only [Int.toNat_natCast, hx]
    refine wpAny_bind (wpAny_rule (wpAny_bind (wpAny_setField ho hd (by simp) ?_)))
    show wpAny _ _ (newExc (.type "StopIteration") [] >>= _) _ _ _
    refine wpAny_bind ?_
    simp only [newExc, newTuple]
    refine wpAny_bind (wpAny_newObj_type ?_ (by size_fits))
    refine wpAny_bind (m := firstArgMember _ _) (wpAny_of_eq (a := Value.none) (by first | rfl | (simp only [firstArgMember]; rfl)) ?_)
    refine wpAny_newObj_type ?_ (by size_fits)
    simp only [raiseNew]
    refine wpAny_bind (wpAny_handled ?_)
    first | rw [show A.in1.handled = none from hh] | rw [hh]
    refine wpAny_bind (wpAny_pure (wpAny_throw ?_))
    exact hE _ _ (((Heap.SameBut.update ..).extBut.push _).push _) ⟨_, Heap.get?_push_size _ rfl, rfl⟩

structure ZipD (z TI TO i1 i2 : Addr) (fp1 fp2 : List Addr) : Prop where
  TIz : TI ≠ z
  TOz : TO ≠ z
  i1z : i1 ≠ z
  i2z : i2 ≠ z
  TITO : TI ≠ TO
  TIi1 : TI ≠ i1
  TIi2 : TI ≠ i2
  TOi1 : TO ≠ i1
  TOi2 : TO ≠ i2
  i12 : i1 ≠ i2
  f1z : z ∉ fp1
  f1T : TO ∉ fp1
  f12 : i2 ∉ fp1
  f2z : z ∉ fp2
  f2T : TO ∉ fp2
  f21 : i1 ∉ fp2
  m1 : i1 ∈ fp1
  m2 : i2 ∈ fp2

theorem drawsOff {it a : Addr} {fp : List Addr} {n : Nat} {P : Nat → Value → Prop} {St : Nat → Heap → Prop} (D : Draws prog w A it fp n P St) {i : Nat} {h h' : Heap} (st : St i h) (ha : a ∉ fp) (hs : Heap.ExtBut a h h') : St i h' :=
  D.frame _ _ _ st fun b hb o e => hs b o (fun e' => ha (e' ▸ hb)) e

theorem zipD_item {z TI TO i1 i2 : Addr} {fp1 fp2 : List Addr} {n1 n2 k : Nat} {P1 P2 : Nat → Value → Prop} {St1 St2 : Nat → Heap → Prop} {a b : Value} {Q : Value → Shared → Prop} (Z : ZipD z TI TO i1 i2 fp1 fp2)
    (D1 : Draws prog w A i1 fp1 n1 P1 St1) (D2 : Draws prog w A i2 fp2 n2 P2 St2)
    (hz : IsZip s.heap z TI TO .none) (hTI : IsPair s.heap TI (.ref i1) (.ref i2)) (hTO : IsPair s.heap TO a b)
    (h1 : St1 k s.heap) (h2 : St2 k s.heap) (hx : k < n1) (hy : k < n2)
    (hQ : ∀ x y h' tk, P1 k x → P2 k y → IsZip h' z TI TO (rawInt s.heap.objs.size) → IsPair h' TO x y → St1 (k + 1) h' → St2 (k + 1) h' → IsPair h' s.heap.objs.size x y → h'.objs.size = s.heap.objs.size + 1 →
      (∀ c o, c ≠ z → c ≠ TO → c ≠ i1 → c ≠ i2 → s.heap.get? c = some o → h'.get? c = some o) → Q (.ref s.heap.objs.size) { s with heap := h', toks := tk }) :
    wpAny (model prog w) A (Builtin.«zip.__next__» ⟨[.ref z], []⟩) (fun fin s' => ∃ v, fin = .done (.ret v) ∧ Q v s') E s := by
  obtain ⟨hp, gl, dd, tk₀, os⟩ := s
  show wpAny _ _ (field (.ref z) 2 >>= _) _ _ _
  refine wpAny_bind (wpAny_field hz rfl (x := .bool false) rfl ?_)
  show wpAny _ _ (field (.ref z) 3 >>= _) _ _ _
  refine wpAny_bind (wpAny_field hz rfl (x := .ref TI) rfl ?_)
  refine wpAny_bind (wpAny_seqItems hTI rfl ?_)
  show wpAny _ _ (Builtin.SmallTypes.ownedTupleIsFree (.ref z) >>= _) _ _ _
  refine wpAny_bind ?_
  unfold Builtin.SmallTypes.ownedTupleIsFree
  refine wpAny_bind (wpAny_field hz rfl (x := .none) rfl (wpAny_pure ?_))
  simp only [if_true]
  refine wpAny_bind (wpAny_rule ?_)
  refine wpAny_bind (wpAny_field hz rfl (x := .ref TO) rfl ?_)
  refine wpAny_bind (wpAny_setField_rec hz (by simp) fun h₁ hz₁ hs₁ => ?_)
  replace hz₁ : IsZip h₁ z TI TO .ellipsis := hz₁
  replace hs₁ : Heap.SameBut z hp h₁ := hs₁
  refine wpAny_bind ?_
  simp only [List.zipIdx_cons, List.zipIdx_nil, List.forIn_cons, List.forIn_nil]
  refine wpAny_bind (wpAny_bind (wpAny_onRaise ?_))
  show wpAny _ _ (Builtin.SmallTypes.nextOf (.ref i1) >>= _) _ _ ⟨h₁, gl, dd, tk₀, os⟩
  refine wpAny_bind (D1.item k _ _ _ hx (drawsOff D1 h1 Z.f1z hs₁.extBut) fun x h₂ tk₂ hPx h1₂ hs₂ => wpAny_pure ?_)
  replace hs₂ : Heap.SameBut i1 h₁ h₂ := hs₂
  have hTO₂ : IsPair h₂ TO a b := hs₂.extBut _ _ Z.TOi1 (hs₁.extBut _ _ Z.TOz hTO)
  refine wpAny_bind (wpAny_seqItems hTO₂ rfl ?_)
  refine wpAny_bind (wpAny_updateSeq_pair hTO₂ fun h₃ hTO₃ hs₃ => ?_)
  replace hTO₃ : IsPair h₃ TO x b := hTO₃
  replace hs₃ : Heap.SameBut TO h₂ h₃ := hs₃
  refine wpAny_bind (wpAny_letGo (wpAny_pure ?_))
  refine wpAny_bind (wpAny_bind (wpAny_onRaise ?_))
  show wpAny _ _ (Builtin.SmallTypes.nextOf (.ref i2) >>= _) _ _ ⟨h₃, gl, dd, tk₂, os⟩
  refine wpAny_bind (D2.item k _ _ _ hy (drawsOff D2 (drawsOff D2 (drawsOff D2 h2 Z.f2z hs₁.extBut) Z.f21 hs₂.extBut) Z.f2T hs₃.extBut) fun y h₄ tk₄ hPy h2₄ hs₄ => wpAny_pure ?_)
  replace hs₄ : Heap.SameBut i2 h₃ h₄ := hs₄
  have hTO₄ : IsPair h₄ TO x b := hs₄.extBut _ _ Z.TOi2 hTO₃
  refine wpAny_bind (wpAny_seqItems hTO₄ rfl ?_)
  refine wpAny_bind (wpAny_updateSeq_pair hTO₄ fun h₅ hTO₅ hs₅ => ?_)
  replace hTO₅ : IsPair h₅ TO x y := hTO₅
  replace hs₅ : Heap.SameBut TO h₄ h₅ := hs₅
  refine wpAny_bind (wpAny_letGo (wpAny_pure (wpAny_pure ?_)))
  refine wpAny_bind (wpAny_seqItems hTO₅ rfl ?_)
  refine wpAny_bind (wpAny_newTuple ?_)
  have hsz : h₅.objs.size = hp.objs.size := by rw [hs₅.1, hs₄.1, hs₃.1, hs₂.1, hs₁.1]
  have hz₅ : IsZip h₅ z TI TO .ellipsis := hs₅.extBut _ _ Z.TOz.symm (hs₄.extBut _ _ Z.i2z.symm (hs₃.extBut _ _ Z.TOz.symm (hs₂.extBut _ _ Z.i1z.symm hz₁)))
  have hk₅ : ∀ c o, c ≠ z → c ≠ TO → c ≠ i1 → c ≠ i2 → hp.get? c = some o → h₅.get? c = some o := fun c o c1 c2 c3 c4 e =>
    hs₅.extBut _ _ c2 (hs₄.extBut _ _ c4 (hs₃.extBut _ _ c2 (hs₂.extBut _ _ c3 (hs₁.extBut _ _ c1 e))))
  have h1₅ : St1 (k + 1) h₅ := drawsOff D1 (drawsOff D1 (drawsOff D1 h1₂ Z.f1T hs₃.extBut) Z.f12 hs₄.extBut) Z.f1T hs₅.extBut
  have h2₅ : St2 (k + 1) h₅ := drawsOff D2 h2₄ Z.f2T hs₅.extBut
  have hzlt : z < h₅.objs.size := Heap.lt_size hz₅
  show wpAny _ _ (Builtin.SmallTypes.ownedTupleHandOut (.ref z) (.ref h₅.objs.size) >>= _) _ _ _
  refine wpAny_bind ?_
  unfold Builtin.SmallTypes.ownedTupleHandOut
  have hz₆ : IsZip (h₅.push { cls := .type "tuple", data := .seq #[x, y] }) z TI TO .ellipsis := Heap.get?_push_of_some _ hz₅
  refine wpAny_bind (wpAny_setField_rec hz₆ (by simp) fun h₇ hz₇ hs₇ => ?_)
  replace hz₇ : IsZip h₇ z TI TO (rawInt h₅.objs.size) := hz₇
  refine wpAny_setField_rec hz₇ (by simp) fun h₈ hz₈ hs₈ => ?_
  replace hz₈ : IsZip h₈ z TI TO (rawInt h₅.objs.size) := hz₈
  have up : ∀ c o, c ≠ z → h₅.get? c = some o → h₈.get? c = some o := fun c o c1 e => hs₈.extBut _ _ c1 (hs₇.extBut _ _ c1 (Heap.get?_push_of_some _ e))
  have hT₈ : IsPair h₈ h₅.objs.size x y := hs₈.extBut _ _ (Nat.ne_of_gt hzlt) (hs₇.extBut _ _ (Nat.ne_of_gt hzlt) (Heap.get?_push_size _ rfl))
  have hz8 : h₈.objs.size = h₅.objs.size + 1 := by rw [hs₈.1, hs₇.1, Heap.size_push]
  rw [hsz] at hz₈ hT₈ hz8
  refine wpAny_pure ⟨_, rfl, ?_⟩
  show Q (.ref h₅.objs.size) _
  rw [hsz]
  exact hQ x y h₈ tk₄ hPx hPy hz₈ (up _ _ Z.TOz hTO₅) (D1.frame _ _ _ h1₅ fun c hc o e => up _ o (fun e' => Z.f1z (e' ▸ hc)) e) (D2.frame _ _ _ h2₅ fun c hc o e => up _ o (fun e' => Z.f2z (e' ▸ hc)) e) hT₈ hz8
    fun c o c1 c2 c3 c4 e => up c o c1 (hk₅ c o c1 c2 c3 c4 e)

theorem zipD_end {z TI TO i1 i2 : Addr} {fp1 fp2 : List Addr} {n : Nat} {P1 : Nat → Value → Prop} {St1 : Nat → Heap → Prop} {a b : Value} {Q : Fin → Shared → Prop} (Z : ZipD z TI TO i1 i2 fp1 fp2)
    (D1 : Draws prog w A i1 fp1 n P1 St1)
    (hz : IsZip s.heap z TI TO .none) (hTI : IsPair s.heap TI (.ref i1) (.ref i2)) (_hTO : IsPair s.heap TO a b)
    (h1 : St1 n s.heap)
    (hE : ∀ h' e, (∀ c o, c ≠ z → c ≠ TO → c ≠ i1 → c ≠ i2 → s.heap.get? c = some o → h'.get? c = some o) → (∃ o, h'.get? e = some o ∧ o.cls = .type "StopIteration") → E (.ref e) { s with heap := h' }) :
    wpAny (model prog w) A (Builtin.«zip.__next__» ⟨[.ref z], []⟩) Q E s := by
  show wpAny _ _ (field (.ref z) 2 >>= _) _ _ _
  refine wpAny_bind (wpAny_field hz rfl (x := .bool false) rfl ?_)
  show wpAny _ _ (field (.ref z) 3 >>= _) _ _ _
  refine wpAny_bind (wpAny_field hz rfl (x := .ref TI) rfl ?_)
  refine wpAny_bind (wpAny_seqItems hTI rfl ?_)
  show wpAny _ _ (Builtin.SmallTypes.ownedTupleIsFree (.ref z) >>= _) _ _ _
  refine wpAny_bind ?_
  unfold Builtin.SmallTypes.ownedTupleIsFree
  refine wpAny_bind (wpAny_field hz rfl (x := .none) rfl (wpAny_pure ?_))
  simp only [if_true]
  refine wpAny_bind (wpAny_rule ?_)
  refine wpAny_bind (wpAny_field hz rfl (x := .ref TO) rfl ?_)
  refine wpAny_bind (wpAny_setField_rec hz (by simp) fun h₁ hz₁ hs₁ => ?_)
  replace hz₁ : IsZip h₁ z TI TO .ellipsis := hz₁
  refine wpAny_bind ?_
  simp only [List.zipIdx_cons, List.zipIdx_nil, List.forIn_cons, List.forIn_nil]
  refine wpAny_bind (wpAny_bind (wpAny_onRaise ?_))
  show wpAny _ _ (Builtin.SmallTypes.nextOf (.ref i1) >>= _) _ _ _
  refine wpAny_bind (D1.done _ _ _ (drawsOff D1 h1 Z.f1z hs₁.extBut) fun h₂ e hs₂ he => ?_)
  obtain ⟨oe, hoe, hce⟩ := he
  have hz₂ : IsZip h₂ z TI TO .ellipsis := hs₂ _ _ Z.i1z.symm hz₁
  have hez : e ≠ z := fun x => by subst x; rw [hz₂] at hoe; cases hoe; simp at hce
  refine wpAny_setField_rec hz₂ (by simp) fun h₃ _ hs₃ => hE h₃ e (fun c o c1 _ c3 _ x => hs₃.extBut _ _ c1 (hs₂ _ _ c3 (hs₁.extBut _ _ c1 x))) ⟨oe, hs₃.extBut _ _ hez hoe, hce⟩

/-- walking over zip of two iterators of one length -/
theorem walks_zipD {z TI TO i1 i2 : Addr} {fp1 fp2 : List Addr} {n : Nat} {P1 P2 : Nat → Value → Prop} {St1 St2 : Nat → Heap → Prop} (Z : ZipD z TI TO i1 i2 fp1 fp2)
    (D1 : Draws prog w A.in1 i1 fp1 n P1 St1) (D2 : Draws prog w A.in1 i2 fp2 n P2 St2) :
    WalksT prog w A z (z :: TI :: TO :: (fp1 ++ fp2)) [z, TO, i1, i2] n
      (fun i vals => ∃ x y, P1 i x ∧ P2 i y ∧ vals = #[x, y])
      (fun i h => IsZip h z TI TO .none ∧ IsPair h TI (.ref i1) (.ref i2) ∧ (∃ a b, IsPair h TO a b) ∧ St1 i h ∧ St2 i h)
      (fun i T h => IsZip h z TI TO (rawInt T) ∧ IsPair h TI (.ref i1) (.ref i2) ∧ (∃ a b, IsPair h TO a b) ∧ St1 (i + 1) h ∧ St2 (i + 1) h ∧
        T ≠ z ∧ T ≠ TO ∧ T ≠ i1 ∧ T ≠ i2) where
  sub := fun c hc => by
    simp at hc ⊢; rcases hc with rfl | rfl | rfl | rfl
    · simp
    · simp
    · simp [Z.m1]
    · simp [Z.m2]
  frame := fun i h h' hst hk => by
    obtain ⟨hz, hTI, ⟨a, b, hTO⟩, h1, h2⟩ := hst
    exact ⟨hk z (by simp) _ hz, hk TI (by simp) _ hTI, ⟨a, b, hk TO (by simp) _ hTO⟩, D1.frame _ _ _ h1 fun b hb o e => hk b (by simp [hb]) o e, D2.frame _ _ _ h2 fun b hb o e => hk b (by simp [hb]) o e⟩
  item := fun i s Q E hi hst hQ => by
    obtain ⟨hz, hTI, ⟨a, b, hTO⟩, h1, h2⟩ := hst
    have lt : ∀ {c o}, s.heap.get? c = some o → s.heap.objs.size ≠ c := fun e => Nat.ne_of_gt (Heap.lt_size e)
    have hT : s.TypeIs (.ref z) "zip" := ⟨_, hz, rfl⟩
    unfold pyNext
    refine wpAny_bind (wpAny_attempt (wpAny_callSpecial?_slot (name := Str.ofString "__next__") hT F.slot_zip_next
      (wpAny_call_entry F.slot_zip_next hT F.entry_zip_next
        (zipD_item Z D1 D2 hz hTI hTO h1 h2 hi hi fun x y h' tk px py a1 a2 a3 a4 a5 a6 hk => wpAny_pure ?_) (F.args_zip_next_1 _))))
    exact hQ s.heap.objs.size #[x, y] h' tk ⟨_, _, px, py, rfl⟩ (Nat.le_refl _) ⟨_, a5, rfl, _, rfl⟩
      ⟨a1, hk _ _ Z.TIz Z.TITO Z.TIi1 Z.TIi2 hTI, ⟨_, _, a2⟩, a3, a4,
        lt hz, lt hTO, (by obtain ⟨_, e⟩ := D1.live _ _ h1; exact lt e), (by obtain ⟨_, e⟩ := D2.live _ _ h2; exact lt e)⟩
      fun c o hc e => hk c o (fun x => hc (by simp [x])) (fun x => hc (by simp [x])) (fun x => hc (by simp [x])) (fun x => hc (by simp [x])) e
  go := fun elts k pos i T s Q E hm hQ => by
    obtain ⟨hz, hTI, ⟨a, b, hTO⟩, h1, h2, _⟩ := hm
    refine wpAny_letOwnedTupleGo_zip hz fun h' hz' hs' => hQ h' ⟨hz', hs'.extBut _ _ Z.TIz hTI, ⟨a, b, hs'.extBut _ _ Z.TOz hTO⟩, drawsOff D1 h1 Z.f1z hs'.extBut, drawsOff D2 h2 Z.f2z hs'.extBut⟩
      fun c o hc e => hs'.extBut _ _ (fun x => hc (by simp [x])) e
  apart := fun i T h hm hT => by
    obtain ⟨_, _, _, _, _, t1, t2, t3, t4⟩ := hm
    simp at hT
    rcases hT with rfl | rfl | rfl | rfl
    · exact t1 rfl
    · exact t2 rfl
    · exact t3 rfl
    · exact t4 rfl
  done := fun s Q E hst hQ => by
    obtain ⟨hz, hTI, ⟨a, b, hTO⟩, h1, h2⟩ := hst
    have hT : s.TypeIs (.ref z) "zip" := ⟨_, hz, rfl⟩
    unfold pyNext
    refine wpAny_bind (wpAny_attempt (wpAny_callSpecial?_slot (name := Str.ofString "__next__") hT F.slot_zip_next
      (wpAny_call_entry F.slot_zip_next hT F.entry_zip_next (zipD_end Z D1 hz hTI hTO h1 fun h' e hk he => ?_) (F.args_zip_next_1 _))))
    obtain ⟨o, ho, hc⟩ := he
    refine wpAny_bind (wpAny_isInstance (T := "StopIteration") (b := true) ⟨o, ho, hc⟩ isSubtype_stop ?_)
    exact wpAny_pure (hQ h' s.toks fun c o hc e =>
      hk c o (fun x => hc (by simp [x])) (fun x => hc (by simp [x])) (fun x => hc (by simp [x])) (fun x => hc (by simp [x])) e)
  self := fun i s Q E hst hQ => wpAny_pyIter_zip hst.1 hQ
end

abbrev zsH1 (h : Heap) (x : Str) (t : Tok) : Heap := h.push { cls := .type (strIterType x), data := .fields #[.str x t, .int 0 0] }
abbrev zsH2 (h : Heap) (x : Str) (t : Tok) (l2 : Addr) : Heap := (zsH1 h x t).push { cls := .type "tuple_iterator", data := .fields #[.ref l2, .int 0 0] }
abbrev zsH3 (h : Heap) (x : Str) (t : Tok) (l2 : Addr) : Heap := (zsH2 h x t l2).push { cls := .type "tuple", data := .seq #[.ref h.objs.size, .ref (zsH1 h x t).objs.size] }
abbrev zsH4 (h : Heap) (x : Str) (t : Tok) (l2 : Addr) : Heap := (zsH3 h x t l2).push { cls := .type "tuple", data := .seq #[.none, .none] }
abbrev zsH5 (h : Heap) (x : Str) (t : Tok) (l2 : Addr) : Heap := (zsH4 h x t l2).push { cls := .type "zip", data := .fields #[.none, .bool false, .bool false, .ref (zsH2 h x t l2).objs.size, .ref (zsH3 h x t l2).objs.size] }

theorem meets_zip_newS (x : Str) (t : Tok) (l2 : Addr) (ys : Array Value) :
    Meets (Builtin.«zip.__new__» ⟨[.type "zip", .str x t, .ref l2], []⟩) (fun _ R s => s.heap.IsTuple l2 ys ∧
      R (.ok (.ret (.ref (zsH4 s.heap x t l2).objs.size))) { s with heap := zsH5 s.heap x t l2 }) :=
  .of_wp fun prog w A R s h => by
    obtain ⟨hp, g, d, tk, os⟩ := s; obtain ⟨hl2, h⟩ := h
    have hsub := sub_zip
    have hL2 : Heap.IsTuple (Shared.heap ⟨hp.push { cls := .type (strIterType x), data := .fields #[.str x t, .int 0 0] }, g, d, tk, os⟩) l2 ys := Heap.IsTuple.push hl2 _
    wp_walk using wpAny_pyIter_strU, wpAny_pyIter_tuple hL2
    exact ⟨_, rfl, h⟩

section
variable {prog : Program} {w : World} {A : Around} {E : Value → Shared → Prop} {s : Shared}
theorem call_zip_S {x : Str} {t : Tok} {l2 : Addr} {ys : Array Value} {Q : Value → Shared → Prop} (hl2 : s.heap.IsTuple l2 ys)
    (h : ∀ h', IsZip h' (s.heap.objs.size + 4) (s.heap.objs.size + 2) (s.heap.objs.size + 3) .none → IsPair h' (s.heap.objs.size + 2) (.ref s.heap.objs.size) (.ref (s.heap.objs.size + 1)) →
      IsPair h' (s.heap.objs.size + 3) .none .none → h'.IsStrIter s.heap.objs.size (strIterType x) x t 0 → h'.IsTupleIter (s.heap.objs.size + 1) l2 0 → h'.objs.size = s.heap.objs.size + 5 →
      (∀ c o, s.heap.get? c = some o → h'.get? c = some o) → Q (.ref (s.heap.objs.size + 4)) { s with heap := h' }) :
    wpAny (model prog w) A (call (.type "zip") [.str x t, .ref l2]) Q E s := by
  refine callType_new F.called_zip (by decide) (F.typeCall_zip_2 _ _) (F.newCall_zip_2 _ _) (fun obj => F.args_object_init_3 obj _ _) F.entry_zip_new
    (meets_zip_newS x t l2 ys) ⟨hl2, ?_⟩
  have z1 : (zsH1 s.heap x t).objs.size = s.heap.objs.size + 1 := Heap.size_push ..
  have z2 : (zsH2 s.heap x t l2).objs.size = s.heap.objs.size + 2 := by rw [Heap.size_push, z1]
  have z3 : (zsH3 s.heap x t l2).objs.size = s.heap.objs.size + 3 := by rw [Heap.size_push, z2]
  have z4 : (zsH4 s.heap x t l2).objs.size = s.heap.objs.size + 4 := by rw [Heap.size_push, z3]
  have z5 : (zsH5 s.heap x t l2).objs.size = s.heap.objs.size + 5 := by rw [Heap.size_push, z4]
  have g5 : (zsH5 s.heap x t l2).get? (zsH4 s.heap x t l2).objs.size = some _ := Heap.get?_push_size _ rfl
  have g4 : (zsH5 s.heap x t l2).get? (zsH3 s.heap x t l2).objs.size = some _ := Heap.get?_push_of_some _ (Heap.get?_push_size _ rfl)
  have g3 : (zsH5 s.heap x t l2).get? (zsH2 s.heap x t l2).objs.size = some _ := Heap.get?_push_of_some _ (Heap.get?_push_of_some _ (Heap.get?_push_size _ rfl))
  have g2 : (zsH5 s.heap x t l2).get? (zsH1 s.heap x t).objs.size = some _ := Heap.get?_push_of_some _ (Heap.get?_push_of_some _ (Heap.get?_push_of_some _ (Heap.get?_push_size _ rfl)))
  have g1 : (zsH5 s.heap x t l2).get? s.heap.objs.size = some _ := Heap.get?_push_of_some _ (Heap.get?_push_of_some _ (Heap.get?_push_of_some _ (Heap.get?_push_of_some _ (Heap.get?_push_size _ rfl))))
  show _ ∧ _
  rw [z2, z3, z4] at g5
  rw [z1, z2] at g3
  rw [z3] at g4
  rw [z1] at g2
  rw [z4]
  exact ⟨⟨_, g5, rfl⟩, h _ g5 g3 g4 ⟨_, g1, rfl, rfl⟩ ⟨_, g2, rfl, rfl⟩ z5 fun c o x =>
    Heap.get?_push_of_some _ (Heap.get?_push_of_some _ (Heap.get?_push_of_some _ (Heap.get?_push_of_some _ (Heap.get?_push_of_some _ x))))⟩
theorem draws_str (hh : A.handled = none) (it : Addr) (x : Str) (t : Tok) :
    Draws prog w A it [it] x.cps.size (fun i v => ∃ c u, x.cps[i]? = some c ∧ v = .str ⟨#[c]⟩ u) (fun i h => h.IsStrIter it (strIterType x) x t i) := by
  unfold strIterType
  split
  · exact Draws.strAscii hh it x t
  · exact Draws.strWide hh it x t
end
end
section
open PyProof.V PySem.Spec
/-- the letter of a part -/
def P0.ch : P0 → Nat
  | .v _ => 118
  | .V _ => 86
  | .n _ => 110
def P1.ch : P1 → Nat
  | .p x => x.ch
  | .t _ _ => 116
theorem ch_kind : ∀ q : P1, (⟨#[q.ch]⟩ : Str) = q.kind
  | .p (.v _) => by show (⟨#[118]⟩ : Str) = Str.ofString "v"; decide +kernel
  | .p (.V _) => by show (⟨#[86]⟩ : Str) = Str.ofString "V"; decide +kernel
  | .p (.n _) => by show (⟨#[110]⟩ : Str) = Str.ofString "n"; decide +kernel
  | .t _ _ => by show (⟨#[116]⟩ : Str) = Str.ofString "t"; decide +kernel
/-- the word's shape is the parts' -/
def ShapeIs (word : Str) (ps : List P1) : Prop := shapeOf word = ⟨(ps.map P1.ch).toArray⟩
section
variable {prog : Program} {w : World} {A : Around} {E : Value → Shared → Prop} {s : Shared} {env : Env} {g : Heap} {body : List Stmt} {Q : Flow → Shared → Prop}
/-- told[1:] of a tuple of the base -/
theorem slice1_T {h₀ : Heap} {L : Addr} {m : Str → Option Value} {news : Led} {value slice : PySem.Expr} {t : Addr} {v0 : Value} {items : List Value} {u : Tok} {Q : Value → Shared → Prop} (F : Fr h₀ L s.heap m) (N : News h₀ L s.heap news) (hl : IsTup h₀ t (v0 :: items).toArray)
    (h : ∀ D h', Fr h₀ L h' m → News h₀ L h' ((D, { cls := .type "tuple", data := .seq items.toArray }) :: news) → (∀ q ∈ news, q.1 < D) → L < D → Q (.ref D) { s with heap := h' })
    (hs : subscripted slice false (.ref t) (.ref s.heap.objs.size) = operate [.ref s.heap.objs.size, .ref t] (getItem (.ref t) (.ref s.heap.objs.size)))
    (ht : ∀ r, letTemporaryGo value (.ref t) r = pure ()) (hsz : items.length + 1 ≤ sizeLine) :
    wpAny (model prog w) A (subscriptTail value slice (.ref t) (.ref s.heap.objs.size)) Q E { s with heap := s.heap.push { cls := .type "slice", data := .fields #[.int 1 u, .none, .none] } } := by
  refine slice_tuple_from (a := 1) (u := u) F N (hl.keeps (Fr.keep F)) (Nat.le_refl 1) (by simp) (fun h' F' N' => ?_) hs ht (by simpa using hsz)
  have e : ((v0 :: items).toArray.toList.drop 1).toArray = items.toArray := by simp
  rw [e] at N'
  exact h _ h' F' N' (fun q hq => Nat.lt_succ_of_lt (Heap.lt_size (N q hq).1)) (Nat.lt_succ_of_lt F.ns.lt)
theorem item0_T {h₀ : Heap} {L : Addr} {m : Str → Option Value} {value slice : PySem.Expr} {t : Addr} {v0 : Value} {items : List Value} {u : Tok} {Q : Value → Shared → Prop} (F : Fr h₀ L s.heap m) (hl : IsTup h₀ t (v0 :: items).toArray) (h : Q v0 s)
    (hs : subscripted slice false (.ref t) (.int 0 u) = operate [.ref t, .int 0 u] (getItem (.ref t) (.int 0 u))) :
    wpAny (model prog w) A (subscriptTail value slice (.ref t) (.int 0 u)) Q E s := by
  refine item_tupleT (l := v0 :: items) (k := 0) (j := 0) (x := v0) (hl.keeps (Fr.keep F)) (by decide) (by decide) ?_ rfl h hs
  simp [seqIndex?]
theorem zipD_of (n l : Nat) (h : l < n) : ZipD (n + 4) (n + 2) (n + 3) n (n + 1) [n] [n + 1, l] := by
  constructor <;> (show _ ) <;> (try (show ¬ (@Eq Nat _ _))) <;> (try simp only [List.mem_cons, List.not_mem_nil, or_false, not_or, true_or, Ne]) <;> (try trivial) <;> (first | (show ¬ (@Eq Nat _ _); omega) | exact ⟨by show ¬ (@Eq Nat _ _); omega, by show ¬ (@Eq Nat _ _); omega⟩)
/-- for kind, part in zip(text, tuple of the ledger) -/
theorem zip_M {x : Str} {t : Tok} {l : Addr} {items : List Value} {k : Nat} {elts : List PySem.Expr} {ek : Nat} {epos : Pos} {m : Str → Option Value} {news rest : Led}
    (hh : A.handled = none) (F : Fr g env.locals s.heap m) (N : News g env.locals s.heap news) (hl : (l, ({ cls := .type "tuple", data := .seq items.toArray k } : Obj)) ∈ news) (hlen : x.cps.size = items.length)
    (hrs : ∀ q ∈ rest, q ∈ news)
    (J : Nat → (Str → Option Value) → Led → Prop) (h0 : J 0 m rest)
    (turn : ∀ i T c u y m₁ nx h₁ tk₁ own wr, i < items.length → IsTup h₁ T #[.str ⟨#[c]⟩ u, y] → x.cps[i]? = some c → items[i]? = some y → J i m₁ nx → (∀ p ∈ own, p.1 ∈ wr ∨ p.1 = l ∨ s.heap.objs.size < p.1) → (∀ b ∈ wr, ∃ o, (b, o) ∈ own) → (∀ p ∈ nx, p.1 ∉ wr) →
      (∀ q ∈ rest, ∀ p ∈ own, p.1 ≠ l → p.1 ≠ q.1) → Fr g env.locals h₁ m₁ → News g env.locals h₁ (own ++ nx) →
      wpAny (model prog w) A (assign (.Tuple elts ek epos) env (.ref T)) (fun _ s₃ => wpAny (model prog w) A (execs body env) (TurnEnd g env.locals wr own (J (i + 1)) { s with heap := h₁, toks := tk₁ } Q) E s₃) E { s with heap := h₁, toks := tk₁ })
    (done : ∀ h' tk m' nx, Fr g env.locals h' m' → News g env.locals h' nx → J items.length m' nx → Q .next { s with heap := h', toks := tk }) :
    wpAny (model prog w) A (call (.type "zip") [.str x t, .ref l]) (fun v s₁ => wpAny (model prog w) A (pyIter v) (fun it s₂ => TurnsAt prog w A g env (.Tuple elts ek epos) body Q E it s₂) E s₁) E s := by
  have hls : s.heap.IsTuple l items.toArray := ⟨_, (N _ hl).1, rfl, k, rfl⟩
  have hlt : @LT.lt Nat _ l s.heap.objs.size := Heap.lt_size (N _ hl).1
  have hgs : g.objs.size ≤ s.heap.objs.size := Nat.le_trans F.above (Nat.le_of_lt F.ns.lt)
  have hLs : @LT.lt Nat _ env.locals s.heap.objs.size := F.ns.lt
  have nil : ∀ b, s.heap.objs.size ≤ b → g.get? b = none := fun b hb => by
    cases e : g.get? b with
    | none => rfl
    | some o => exact absurd (Heap.lt_size e) (Nat.not_lt.mpr (Nat.le_trans hgs hb))
  refine call_zip_S hls fun h' hz hTI hTO hi1 hi2 hsz hk => ?_
  refine wpAny_pyIter_zip hz ?_
  have Z := zipD_of s.heap.objs.size l hlt
  have D1 := draws_str (prog := prog) (w := w) (A := A.in1) hh s.heap.objs.size x t
  have D2 := draws_tuple (prog := prog) (w := w) (A := A.in1) hh (s.heap.objs.size + 1) l (by show ¬ (_ = (_ : Nat)); omega) items.toArray
  have e2 : items.toArray.size = x.cps.size := by simp [hlen]
  rw [e2] at D2
  have W := KTurns.ofWalksU (elts := elts) (k := ek) (pos := epos) (walks_zipD Z D1 D2).toU
  rw [hlen] at W
  refine turns_M (m := m) (news := rest) W ?_ ?_ ?_ ?_ ?_ (F.keeps hk) (fun q hq => ⟨hk _ _ (N q (hrs q hq)).1, (N q (hrs q hq)).2⟩) J h0 ?_ done
  · intro hm
    simp only [List.mem_cons, List.mem_append, List.not_mem_nil, or_false] at hm
    have hll : l ≠ env.locals := (N _ hl).2.1
    rcases hm with e | e | e | e | e | e
    · exact absurd (e : env.locals = s.heap.objs.size + 4) (by show ¬ (_ = (_ : Nat)); omega)
    · exact absurd (e : env.locals = s.heap.objs.size + 2) (by show ¬ (_ = (_ : Nat)); omega)
    · exact absurd (e : env.locals = s.heap.objs.size + 3) (by show ¬ (_ = (_ : Nat)); omega)
    · exact absurd (e : env.locals = s.heap.objs.size) (by show ¬ (_ = (_ : Nat)); omega)
    · exact absurd (e : env.locals = s.heap.objs.size + 1) (by show ¬ (_ = (_ : Nat)); omega)
    · exact hll e.symm
  · intro b hb
    simp only [List.mem_cons, List.not_mem_nil, or_false] at hb
    rcases hb with e | e | e | e <;> subst e <;> exact nil _ (by show @LE.le Nat _ _ _; omega)
  · rintro i h ⟨hz', _, ⟨a, b, hTO'⟩, ⟨o1, ho1, _⟩, ⟨⟨o2, ho2, _⟩, _⟩⟩ b' hb
    simp only [List.mem_cons, List.not_mem_nil, or_false] at hb
    rcases hb with e | e | e | e <;> subst e
    · exact ⟨_, hz'⟩
    · exact ⟨_, hTO'⟩
    · exact ⟨_, ho1⟩
    · exact ⟨_, ho2⟩
  · intro q hq hm
    have hq' : @LT.lt Nat _ q.1 s.heap.objs.size := Heap.lt_size (N q (hrs q hq)).1
    simp only [List.mem_cons, List.not_mem_nil, or_false] at hm
    rcases hm with e | e | e | e <;> rw [e] at hq' <;> exact absurd hq' (by show ¬ (@LT.lt Nat _ _ _); omega)
  · exact ⟨hz, hTI, ⟨_, _, hTO⟩, hi1, hi2, let ⟨o, ho, r⟩ := hls; ⟨o, hk _ _ ho, r⟩⟩
  · rintro i v m₁ nx h₁ tk₁ own hi ⟨T, vals, rfl, ⟨xv, y, ⟨c, u, hc, rfl⟩, hy, rfl⟩, hT⟩ hJ hown hw hnx F₁ N₁
    refine turn i T c u y m₁ nx h₁ tk₁ own _ hi hT hc (by simpa using hy) hJ (fun p hp => ?_) hw hnx (fun q hq p hp hpl e => ?_) F₁ N₁
    · have := hown p hp
      simp only [List.mem_cons, List.mem_append, List.not_mem_nil, or_false] at this ⊢
      rcases this with e | e | e | e | e | e
      · exact .inl (.inl e)
      · exact .inr (.inr (by rw [e]; show @LT.lt Nat _ _ _; omega))
      · exact .inl (.inr (.inl e))
      · exact .inl (.inr (.inr (.inl e)))
      · exact .inl (.inr (.inr (.inr e)))
      · exact .inr (.inl e)
    · have hq' : @LT.lt Nat _ q.1 s.heap.objs.size := Heap.lt_size (N q (hrs q hq)).1
      have := hown p hp
      simp only [List.mem_cons, List.mem_append, List.not_mem_nil, or_false] at this
      rw [← e] at hq'
      rcases this with e | e | e | e | e | e
      · rw [e] at hq'; exact absurd hq' (by show ¬ (@LT.lt Nat _ _ _); omega)
      · rw [e] at hq'; exact absurd hq' (by show ¬ (@LT.lt Nat _ _ _); omega)
      · rw [e] at hq'; exact absurd hq' (by show ¬ (@LT.lt Nat _ _ _); omega)
      · rw [e] at hq'; exact absurd hq' (by show ¬ (@LT.lt Nat _ _ _); omega)
      · rw [e] at hq'; exact absurd hq' (by show ¬ (@LT.lt Nat _ _ _); omega)
      · exact hpl e
end
end
local macro_rules | `(tactic| walk_at "m_s0") => `(tactic| (k_here; (with_reducible show wpAny _ _ (subscriptTail _ _ (Value.ref _) (Value.int _ _)) _ _ _); k_dflt (refine' item0_T ?F ?t ?_ ?s; (case F => k_asm); (case t => with_reducible assumption); (case s => with_unfolding_all rfl)); k_whole))
section
open PyProof.V PySem.Spec
local macro_rules | `(tactic| walk_at "subscriptTail Name Constant ref int") => `(tactic| walk_at "m_s0")
theorem shape_use {w : World} {dp un : Nat} {fr : Option (List Env)} {gd : Option (List Code)} {s : Shared} {x : Str} {t : Tok} {h₀ : Heap} {L : Addr} {m : Str → Option Value} {Q E : Value → Shared → Prop} {news : Led} (hroom : dp + 1 < recursionLimit)
    (G : G0 w h₀) (F : Fr h₀ L s.heap m) (N : News h₀ L s.heap news)
    (ret : ∀ t' h' tk', Fr h₀ L h' m → News h₀ L h' news → Q (.str (shapeOf x) t') { s with heap := h', toks := tk' }) :
    wpAny (model PySem.Challenge.rw_pc0027_01.row.prog w) ⟨none, dp, fr, gd, un⟩ (call (.ref 21) [.str x t]) Q E s :=
  shape_call hroom h₀ L m news Q E G F N (fun _ _ _ h => nomatch h) fun r led h' tk' F' N' ⟨el, t', e⟩ => by
    subst e; subst el
    exact ret t' h' tk' F' N'
def RenSpec (w : World) (dd : Nat) (T0 T : Int → Int) (word : Str) (ps : List P1) : Prop :=
  ∀ (dp un : Nat) (fr : Option (List Env)) (gd : Option (List Code)) (s : Shared) (al : Led) (b tbl : Addr), dp + dd < recursionLimit → DatIn al (.ref b) (told1 T0 word ps) → (∀ q ∈ al, s.heap.get? q.1 = some q.2) → TabIs w s.heap tbl T →
    Calls w ⟨none, dp, fr, gd, un⟩ 26 [.ref b, .ref tbl] s [] (PPost s.heap.objs.size al fun d => d = told1 (T ∘ T0) word ps)
theorem ren_step {w : World} {dd : Nat} {T0 T : Int → Int} {word : Str} {ps : List P1} (hdd : 1 ≤ dd) (hsh : ShapeIs word ps) (hsm : Small ps) (hrec : ∀ v qs, P1.t v qs ∈ ps → RenSpec w dd T0 T v (qs.map .p)) : RenSpec w (dd + 1) T0 T word ps := by
  intro dp un fr gd s al b tbl hroom hb hal hT
  walk_at "m_enterC"
  intro g h₁ tk cells G F N Y hlow hkeep
  (try dsimp only)
  have GG := G
  have hsg : ∀ b o, s.heap.get? b = some o → g.get? b = some o := fun b o e => hkeep b o e (fun _ h => nomatch h)
  have halg : ∀ q ∈ al, g.get? q.1 = some q.2 := fun q hq => hsg _ _ (hal q hq)
  obtain ⟨TD, hTab, hTT⟩ := hT
  replace hTab := hTab.keep hsg
  obtain ⟨X, mean, mg, mb, TT⟩ := G
  obtain ⟨o₁, hE, d1⟩ := CellsAre.one Y
  subst hE
  (try simp only [List.cons_append, List.nil_append] at N)
  obtain ⟨_, vs0, kb, hbe, hbm, hball⟩ := datIn_tup hb
  cases hbe
  cases hball with
  | cons h0 hitems =>
  rename_i v0 items
  obtain ⟨t0, rfl⟩ := datIn_str h0
  have hbl : IsTup g b (Value.str word t0 :: items).toArray := ⟨_, halg _ hbm, rfl, _, rfl⟩
  have hil : items.length = ps.length := by rw [hitems.length, List.length_map]
  have hsm1 := hsm.1
  (try k_fold)
  have hx : (shapeOf word).cps.size = items.length := by rw [hsh]; simp [hil]
  iterate 13 (walk_at "m_1")
  rename_i f hp1 lf0 lf1 lf2 hp2 FF NN
  refine For_turns (by k_asm) ?_
  iterate 14 (walk_at "m_1")
  refine shape_use (by walk_at "m_om") GG (by k_asm) (by k_asm) ?_
  intro t1 h2 tk2 F N
  iterate 8 (walk_at "m_1")
  refine slice1_T (s := ⟨_, _, _, _, _⟩) (by k_asm) (by k_asm) hbl ?_ (by with_unfolding_all rfl) (by kmk_pure) (by rw [sizeLine_eq]; omega)
  intro l h3 F N l0 l1
  have hlf : f < l := l0 _ (.head _)
  walk_at "m_1"
  refine zip_M (rest := [(f, listOf [Value.str word t0].toArray 0), (s.heap.objs.size + 1, o₁)]) rfl (by k_asm) (by k_asm) (.head _) hx (by walk_at "m_sub")
    (fun i m nx => ∃ ys k tl, m (Str.ofString "found") = some (.ref f) ∧ nx = (f, ({ cls := .type "list", data := .seq (Value.str word t0 :: ys).toArray k } : Obj)) :: (s.heap.objs.size + 1, o₁) :: tl ∧ DatAll (tl ++ al) ys ((ps.take i).map (P1.told (T ∘ T0))) ∧ ∀ q ∈ tl, s.heap.objs.size < q.1 ∧ q.1 ≠ f)
    ⟨[], 0, [], rfl, rfl, by simpa using DatAll.nil, fun _ h => nomatch h⟩ ?turn ?done
  case done =>
    rintro h' tk m' nx F N ⟨ys, k, tl, hm, rfl, hd, htl⟩
    rw [map_form hm] at F
    rw [hil, List.take_length] at hd
    have hlen := hd.length
    rw [List.length_map] at hlen
    (try k_fold)
    k_steps
    rename_i T1 hT1 FT NT lt0 lt1 lt2
    refine pdone_of ((T1, { cls := .type "tuple", data := .seq (Value.str word t0 :: ys).toArray }) :: tl) FT NT (by walk_at "m_sub") (List.forall_mem_cons.mpr ⟨lt2, fun q hq => (htl q hq).1⟩) (DatIn.tuple (List.Mem.head _) (DatAll.cons (DatIn.str _ _) (hd.mono fun q hq => .tail _ hq))) rfl
  case turn =>
    rintro i P c u y m₁ nx h₁ tk₁ own wr hi hP hc hyi ⟨ys, k, tl, hm, rfl, hd, htl⟩ hown hw hnx hoff F N
    rw [map_form hm] at F
    rw [hsh] at hc
    rw [List.getElem?_toArray, List.getElem?_map] at hc
    obtain ⟨q, hq, hqc⟩ : ∃ q, ps[i]? = some q ∧ q.ch = c := by
      cases e : ps[i]? with
      | none => rw [e] at hc; cases hc
      | some q => rw [e] at hc; exact ⟨q, rfl, Option.some.inj hc⟩
    subst hqc
    rw [ch_kind] at hP
    obtain ⟨dy, hdy, hy⟩ := datAll_at hitems hyi
    rw [List.getElem?_map, hq] at hdy
    have hdy' : q.told T0 = dy := Option.some.inj hdy
    subst hdy'
    have hlen := hd.length
    rw [List.length_map, List.length_take, Nat.min_eq_left (by omega)] at hlen
    have hne0 : ∀ q ∈ own ++ ((s.heap.objs.size + 1, o₁) :: tl), q.1 ≠ f := by
      intro q hq e
      rcases List.mem_append.mp hq with hq | hq
      · exact hoff _ (List.Mem.head _) q hq (fun e2 => absurd (e.symm.trans e2) (Nat.ne_of_lt hlf)) e
      · rcases List.mem_cons.mp hq with rfl | hq
        · exact absurd e (Nat.ne_of_lt (lf0 _ (.head _)))
        · exact (htl q hq).2 e
    have htake : (ps.take (i + 1)).map (P1.told (T ∘ T0)) = (ps.take i).map (P1.told (T ∘ T0)) ++ [q.told (T ∘ T0)] := by rw [List.take_add_one, hq]; simp
    rw [htake]
    rcases q with (i0 | is | d) | ⟨v, qs⟩
    · simp only [P1.kind, P0.kind, P1.told, P0.told] at hP hy ⊢
      obtain ⟨t1, rfl⟩ := datIn_int hy
      (try k_fold)
      iterate 29 (walk_at "m_1")
      refine call_get2_intTab (TabAt.keep hTab (Fr.keep (by k_asm))) (Flat.int _ _) ?_
      intro v hv
      rw [hTT] at hv
      obtain ⟨t2, rfl⟩ := flat_int hv
      (try k_fold)
      iterate 13 (walk_at "m_1")
      refine append_M (vs := Value.str word t0 :: ys) (own ++ ((s.heap.objs.size + 1, o₁) :: tl)) (by k_asm) (by k_asm) (by walk_at "m_in") (by walk_at "m_sub") hne0 (by rw [sizeLine_eq]; simp only [List.length_cons]; omega) ?_
      intro h9 F N
      (try k_fold)
      k_steps
      refine turnEnd_of (nx := (f, { cls := .type "list", data := .seq ((Value.str word t0 :: ys) ++ [(Value.int (T (T0 i0)) t2)]).toArray (k + 1) }) :: ((s.heap.objs.size + 1, o₁) :: tl)) (by k_asm) (by k_asm) (by walk_at "m_sub") (by walk_at "m_sub") (List.forall_mem_cons.mpr ⟨show f ∉ wr from hnx _ (.head _), fun p hp => hnx p (.tail _ hp)⟩) ⟨ys ++ [(Value.int (T (T0 i0)) t2)], k + 1, tl, rfl, rfl, (hd.append (DatAll.one (DatIn.int _ _))), htl⟩
    · simp only [P1.kind, P0.kind, P1.told, P0.told] at hP hy ⊢
      obtain ⟨a, vs, ka, rfl, hma, hvs⟩ := datIn_tup hy
      have hta : IsTup g a vs.toArray := ⟨_, halg _ hma, rfl, _, rfl⟩
      (try k_fold)
      iterate 33 (walk_at "m_1")
      refine listComp_T (by k_asm) (by with_unfolding_all rfl) (by decide) (by rfl) (by decide) (by rfl) ?_
      walk_at "m_1"
      have hisl := hsm.2 is (List.mem_of_getElem? hq)
      have hvl : vs.length = is.length := by rw [hvs.length, List.length_map, List.length_map]
      refine compT_flat (fun i y => ∃ j t, is[i]? = some j ∧ y = .int (T (T0 j)) t) [(s.heap.objs.size + 1, o₁)] rfl (by k_asm) (by k_asm) hta (by rw [sizeLine_eq]; omega) (by walk_at "m_sub") ?_ ?_
      · intro g' i2 v C oC m₂ h2 tk2 news Q E hv hNC hx F N hC hmust ret
        have hcell := hmust _ (.head _)
        obtain ⟨dj, hdj, hvd⟩ := datAll_at hvs hv
        rw [List.getElem?_map, List.getElem?_map] at hdj
        cases hj : is[i2]? with
        | none => rw [hj] at hdj; cases hdj
        | some j =>
        rw [hj] at hdj
        cases hdj
        obtain ⟨t3, rfl⟩ := datIn_int hvd
        (try k_fold)
        iterate 10 (walk_at "m_1")
        refine call_get2_intTab (TabAt.keep hTab (Fr.keep (by k_asm))) (Flat.int _ _) ?_
        intro v hv
        rw [hTT] at hv
        obtain ⟨t2, rfl⟩ := flat_int hv
        exact ret _ _ _ ⟨j, t2, hj, rfl⟩ (by k_asm) (by k_asm)
      · intro D h2 tk2 ys2 F N hap hl2 hr2
        have hdd : DatAll [] ys2 ((is.map (T ∘ T0)).map .int) := datAll_of (by rw [List.length_map, List.length_map]; omega) fun i2 y hy => by
          obtain ⟨j, t, hj, rfl⟩ := hr2 i2 y hy
          exact ⟨.int (T (T0 j)), by simp [hj], DatIn.int _ _⟩
        (try k_fold)
        iterate 15 (walk_at "m_1")
        rename_i T1 hT1 lt0 lt1 lt2 hT2 FT NT
        refine append_M (vs := Value.str word t0 :: ys) (own ++ ((s.heap.objs.size + 1, o₁) :: (T1, { cls := .type "tuple", data := .seq ys2.toArray }) :: tl)) FT NT (by walk_at "m_in") (by walk_at "m_sub") ?_ (by rw [sizeLine_eq]; simp only [List.length_cons]; omega) ?_
        · intro q hq
          rcases List.mem_append.mp hq with hq | hq
          · exact hne0 q (List.mem_append_left _ hq)
          · rcases List.mem_cons.mp hq with rfl | hq
            · exact hne0 _ (List.mem_append_right _ (.head _))
            · rcases List.mem_cons.mp hq with rfl | hq
              · exact Nat.ne_of_gt (lt0 (f, _) (List.mem_append_right _ (.head _)))
              · exact hne0 _ (List.mem_append_right _ (.tail _ hq))
        · intro h9 F N
          (try k_fold)
          k_steps
          refine turnEnd_of (nx := (f, { cls := .type "list", data := .seq ((Value.str word t0 :: ys) ++ [Value.ref T1]).toArray (k + 1) }) :: ((s.heap.objs.size + 1, o₁) :: (T1, { cls := .type "tuple", data := .seq ys2.toArray }) :: tl)) (by k_asm) (by k_asm) (by walk_at "m_sub") (by walk_at "m_sub")
            (List.forall_mem_cons.mpr ⟨show f ∉ wr from hnx _ (.head _), List.forall_mem_cons.mpr ⟨hnx _ (.tail _ (.head _)), List.forall_mem_cons.mpr ⟨fresh_wr hw lt0, fun p hp => hnx p (.tail _ (.tail _ hp))⟩⟩⟩)
            ⟨ys ++ [Value.ref T1], k + 1, (T1, { cls := .type "tuple", data := .seq ys2.toArray }) :: tl, rfl, rfl, (hd.mono fun q hq => .tail _ hq).append (DatAll.one (DatIn.tuple (List.Mem.head _) (hdd.mono (List.forall_mem_nil _)))), List.forall_mem_cons.mpr ⟨⟨lt2, Nat.ne_of_gt (lt0 (f, _) (List.mem_append_right _ (.head _)))⟩, htl⟩⟩
    · simp only [P1.kind, P0.kind, P1.told, P0.told] at hP hy ⊢
      (try k_fold)
      iterate 48 (walk_at "m_1")
      refine append_M (vs := Value.str word t0 :: ys) (own ++ ((s.heap.objs.size + 1, o₁) :: tl)) (by k_asm) (by k_asm) (by walk_at "m_in") (by walk_at "m_sub") hne0 (by rw [sizeLine_eq]; simp only [List.length_cons]; omega) ?_
      intro h9 F N
      (try k_fold)
      k_steps
      refine turnEnd_of (nx := (f, { cls := .type "list", data := .seq ((Value.str word t0 :: ys) ++ [y]).toArray (k + 1) }) :: ((s.heap.objs.size + 1, o₁) :: tl)) (by k_asm) (by k_asm) (by walk_at "m_sub") (by walk_at "m_sub") (List.forall_mem_cons.mpr ⟨show f ∉ wr from hnx _ (.head _), fun p hp => hnx p (.tail _ hp)⟩) ⟨ys ++ [y], k + 1, tl, rfl, rfl, (hd.append (DatAll.one (hy.mono fun q hq => List.mem_append_right _ hq))), htl⟩
    · simp only [P1.kind, P1.told] at hP hy ⊢
      obtain ⟨b2, rfl⟩ := datIn_ref hy
      have hy2 : DatIn al (.ref b2) (told1 T0 v (qs.map P1.p)) := by rw [told1, told_p]; exact hy
      (try k_fold)
      iterate 47 (walk_at "m_1")
      refine pure_use (hrec v qs (List.mem_of_getElem? hq) _ _ _ _ _ al b2 tbl (by walk_at "m_om") hy2 (fun q hq => Fr.keep (by k_asm) _ _ (halg q hq)) ⟨TD, hTab.keep (Fr.keep (by k_asm)), hTT⟩) GG (by k_asm) (by k_asm) ?_
      intro r led d h8 tk8 F N hlowd hfr hdd hD
      subst hD
      have hneR : ∀ q ∈ own ++ ((s.heap.objs.size + 1, o₁) :: (led ++ tl)), q.1 ≠ f := by
        intro q hq
        rcases List.mem_append.mp hq with hq | hq
        · exact hne0 q (List.mem_append_left _ hq)
        · rcases List.mem_cons.mp hq with rfl | hq
          · exact hne0 _ (List.mem_append_right _ (.head _))
          · rcases List.mem_append.mp hq with hq | hq
            · exact Nat.ne_of_gt (hfr q hq (f, _) (List.mem_append_right _ (.head _)))
            · exact hne0 _ (List.mem_append_right _ (.tail _ hq))
      have hwR : ∀ q ∈ led, q.1 ∉ wr := fun q hq => fresh_wr hw (hfr q hq)
      have hdR : DatAll ((led ++ tl) ++ al) (ys ++ [r]) ((ps.take i).map (P1.told (T ∘ T0)) ++ [P1.told (T ∘ T0) (.t v qs)]) := (hd.mono fun q hq => (List.mem_append.mp hq).elim (fun h => List.mem_append_left _ (List.mem_append_right _ h)) fun h => List.mem_append_right _ h).append (DatAll.one (by
        have hdd' : DatIn (led ++ al) r (.tuple (.str v :: (qs.map P1.p).map (P1.told (T ∘ T0)))) := hdd
        rw [told_p] at hdd'
        exact hdd'.mono fun q hq => (List.mem_append.mp hq).elim (fun h => List.mem_append_left _ (List.mem_append_left _ h)) fun h => List.mem_append_right _ h))
      have hlR : ∀ q ∈ led ++ tl, s.heap.objs.size < q.1 ∧ q.1 ≠ f := fun q hq => (List.mem_append.mp hq).elim (fun h => ⟨hlowd q h, Nat.ne_of_gt (hfr q h (f, _) (List.mem_append_right _ (.head _)))⟩) (htl q)
      (try k_fold)
      iterate 14 (walk_at "m_1")
      refine append_M (vs := Value.str word t0 :: ys) (own ++ ((s.heap.objs.size + 1, o₁) :: (led ++ tl))) (by k_asm) (by k_asm) (by walk_at "m_in") (by walk_at "m_sub") hneR (by rw [sizeLine_eq]; simp only [List.length_cons]; omega) ?_
      intro h9 F N
      (try k_fold)
      k_steps
      refine turnEnd_of (nx := (f, { cls := .type "list", data := .seq ((Value.str word t0 :: ys) ++ [r]).toArray (k + 1) }) :: ((s.heap.objs.size + 1, o₁) :: (led ++ tl))) (by k_asm) (by k_asm) (by walk_at "m_sub") (by walk_at "m_sub") (List.forall_mem_cons.mpr ⟨show f ∉ wr from hnx _ (.head _), List.forall_mem_cons.mpr ⟨hnx _ (.tail _ (.head _)), fun p hp => (List.mem_append.mp hp).elim (hwR p) fun h => hnx p (.tail _ (.tail _ h))⟩⟩) ⟨ys ++ [r], k + 1, led ++ tl, rfl, rfl, hdR, hlR⟩
theorem ren_flat {w : World} {T0 T : Int → Int} {v : Str} {qs : List P0} (hsh : ShapeIs v (qs.map .p)) (hsm : Small (qs.map .p)) : RenSpec w 2 T0 T v (qs.map .p) :=
  ren_step (Nat.le_refl 1) hsh hsm fun v' qs' h => by obtain ⟨x, _, e⟩ := List.mem_map.mp h; cases e
theorem ren_all {w : World} {T0 T : Int → Int} {word : Str} {ps : List P1} (hsh : ShapeIs word ps) (hsm : Small ps) (hn : ∀ v qs, P1.t v qs ∈ ps → ShapeIs v (qs.map .p) ∧ Small (qs.map .p)) : RenSpec w 3 T0 T word ps :=
  ren_step (by decide) hsh hsm fun v qs h => ren_flat (hn v qs h).1 (hn v qs h).2
end
section
/-- the small ints that a test picks, ascending -/
def pick (p : Int → Bool) : List Int := ([0, 1, 2, 3, 4, 5] : List Int).filter p
def pb (a b c d e f : Bool) : Int → Bool := fun i => if i = 0 then a else if i = 1 then b else if i = 2 then c else if i = 3 then d else if i = 4 then e else if i = 5 then f else false
theorem pick_congr {p q : Int → Bool} (h : ∀ i ∈ ([0, 1, 2, 3, 4, 5] : List Int), p i = q i) : pick p = pick q := List.filter_congr h
theorem pick_pb (p : Int → Bool) : pick p = pick (pb (p 0) (p 1) (p 2) (p 3) (p 4) (p 5)) := pick_congr fun i hi => by
  simp only [List.mem_cons, List.not_mem_nil, or_false] at hi
  rcases hi with rfl | rfl | rfl | rfl | rfl | rfl <;> rfl
theorem mem_six {i : Int} (h0 : 0 ≤ i) (h6 : i < 6) : i ∈ ([0, 1, 2, 3, 4, 5] : List Int) := by
  have : i = 0 ∨ i = 1 ∨ i = 2 ∨ i = 3 ∨ i = 4 ∨ i = 5 := by omega
  rcases this with rfl | rfl | rfl | rfl | rfl | rfl <;> simp
theorem mem_pick {p : Int → Bool} {i : Int} : i ∈ pick p ↔ (0 ≤ i ∧ i < 6) ∧ p i = true := by
  unfold pick
  rw [List.mem_filter]
  refine and_congr_left fun _ => ⟨fun h => ?_, fun h => mem_six h.1 h.2⟩
  simp only [List.mem_cons, List.not_mem_nil, or_false] at h
  omega
/-- the table of a set of small ints -/
def tabOf (led : Bool) (xs : List Int) : SetTable := { mask := if xs.length < 5 then 7 else 31, place := (xs.map Int.toNat).toArray, dummies := #[], finger := 0, led := led, moves := if xs.length < 5 then 0 else 1, plain := true }
def chkAdd (led : Bool) (xs : List Int) (k : Int) (xs' : List Int) : Bool :=
  match (tabOf led xs).freeSlot k with
  | some (slot, wd) =>
    let r := (tabOf led xs).put slot
    !wd && decide (SetTable.insertAt xs.toArray r.2 k = xs'.toArray) && r.1.fits (xs.length + 1) && decide (xs'.length = xs.length + 1) && r.1.plain && (decide (hashInt k = k)) &&
      (if r.1.tooFull then
         (match r.1.relaid xs'.toArray (SetTable.grown (xs.length + 1)) with
          | some (t2, order) => decide (t2 = tabOf led xs') && decide (order = Array.range (xs.length + 1)) && coversAll order (xs.length + 1) && t2.fits (xs.length + 1)
          | none => false)
       else decide (r.1 = tabOf led xs'))
  | none => false
def chkAll (led : Bool) (p : Int → Bool) : Bool :=
  ([0, 1, 2, 3, 4, 5] : List Int).all fun k => p k || chkAdd led (pick p) k (pick fun i => p i || i == k)
theorem chk_all : ∀ a b c d e f led : Bool, chkAll led (pb a b c d e f) = true := by decide +kernel
theorem chk_add (led : Bool) (p : Int → Bool) {k : Int} (hk : 0 ≤ k ∧ k < 6) (hp : p k = false) : chkAdd led (pick p) k (pick fun i => p i || i == k) = true := by
  have h := chk_all (p 0) (p 1) (p 2) (p 3) (p 4) (p 5) led
  have hm := mem_six hk.1 hk.2
  have h2 := List.all_eq_true.mp h k hm
  have e : ∀ i ∈ ([0, 1, 2, 3, 4, 5] : List Int), pb (p 0) (p 1) (p 2) (p 3) (p 4) (p 5) i = p i := fun i hi => by
    simp only [List.mem_cons, List.not_mem_nil, or_false] at hi
    rcases hi with rfl | rfl | rfl | rfl | rfl | rfl <;> rfl
  rw [e k hm, hp, Bool.false_or, ← pick_pb] at h2
  rw [show pick (fun i => p i || i == k) = pick (fun i => pb (p 0) (p 1) (p 2) (p 3) (p 4) (p 5) i || i == k) from pick_congr fun i hi => by rw [e i hi]]
  exact h2
def chkGo (p : Int → Bool) : Bool :=
  (tabOf true (pick p)).fits (pick p).length && (List.range (pick p).length).all fun i => decide (SetTable.below ((pick p).map Int.toNat).toArray (if i = 0 then 0 else ((pick p).getD (i - 1) 0).toNat + 1) = i)
def chkEnd (p : Int → Bool) : Bool := decide (SetTable.below ((pick p).map Int.toNat).toArray (if (pick p).length = 0 then 0 else ((pick p).getD ((pick p).length - 1) 0).toNat + 1) = (pick p).length)
theorem chk_go0 : ∀ a b c d e f : Bool, (chkGo (pb a b c d e f) && chkEnd (pb a b c d e f)) = true := by decide +kernel
theorem chk_go (p : Int → Bool) {i : Nat} (hi : i ≤ (pick p).length) : SetTable.below ((pick p).map Int.toNat).toArray (if i = 0 then 0 else ((pick p).getD (i - 1) 0).toNat + 1) = i := by
  rw [pick_pb p] at hi ⊢
  have h := chk_go0 (p 0) (p 1) (p 2) (p 3) (p 4) (p 5)
  rw [Bool.and_eq_true] at h
  rcases Nat.lt_or_ge i (pick (pb (p 0) (p 1) (p 2) (p 3) (p 4) (p 5))).length with hl | hl
  · have h1 := h.1
    unfold chkGo at h1
    rw [Bool.and_eq_true] at h1
    exact of_decide_eq_true (List.all_eq_true.mp h1.2 i (List.mem_range.mpr hl))
  · have e : i = (pick (pb (p 0) (p 1) (p 2) (p 3) (p 4) (p 5))).length := Nat.le_antisymm hi hl
    subst e
    exact of_decide_eq_true h.2
theorem tab_fits (led : Bool) (p : Int → Bool) : (tabOf led (pick p)).fits (pick p).length = true := by
  rw [pick_pb p]
  have h := chk_go0 (p 0) (p 1) (p 2) (p 3) (p 4) (p 5)
  rw [Bool.and_eq_true] at h
  have h1 := h.1
  unfold chkGo at h1
  rw [Bool.and_eq_true] at h1
  exact h1.1
theorem pick_length (p : Int → Bool) : (pick p).length ≤ 6 := List.length_filter_le ..
end
section
def SmallSet (h : Heap) (a : Addr) (led : Bool) (p : Int → Bool) : Prop :=
  ∃ o es ep, h.get? a = some o ∧ o.ExactSet ∧ o.data = .set es ep (tabOf led (pick p)) ∧ es.map (·.1) = (pick p).toArray ∧ ∀ e ∈ es.toList, ∃ t, e.2 = .int e.1 t
theorem SmallSet.size {es : Array (Int × Value)} {p : Int → Bool} (h : es.map (·.1) = (pick p).toArray) : es.size = (pick p).length := by
  have := congrArg Array.size h; simpa using this
theorem small_mem {es : Array (Int × Value)} {p : Int → Bool} (h : es.map (·.1) = (pick p).toArray) {e : Int × Value} (he : e ∈ es.toList) : (0 ≤ e.1 ∧ e.1 < 6) ∧ p e.1 = true := by
  refine mem_pick.mp ?_
  have h2 : (es.map (·.1)).toList = pick p := by rw [h]
  rw [Array.toList_map] at h2
  rw [← h2]
  exact List.mem_map.mpr ⟨e, he, rfl⟩
theorem hash_small {k : Int} (hk : 0 ≤ k ∧ k < 6) : hashInt k = k := by
  have : ∀ k ∈ ([0, 1, 2, 3, 4, 5] : List Int), hashInt k = k := by decide +kernel
  exact this k (mem_six hk.1 hk.2)
theorem small_elems {prog : Program} {w : World} {es : Array (Int × Value)} {p : Int → Bool} (h : es.map (·.1) = (pick p).toArray) (hi : ∀ e ∈ es.toList, ∃ t, e.2 = .int e.1 t) : ElemsOf (intKind prog w) es.toList := fun e he => by
  obtain ⟨t, ht⟩ := hi e he
  refine ⟨⟨e.1, ?_, (hash_small (small_mem h he).1).symm⟩, ?_⟩
  · rw [ht]; exact intKind_is _ _ _ _
  · rw [ht]; rfl
theorem insertAt_map (es : Array (Int × Value)) (i : Nat) (x : Int × Value) : (SetTable.insertAt es i x).map (·.1) = SetTable.insertAt (es.map (·.1)) i x.1 := by
  unfold SetTable.insertAt
  apply Array.ext'
  simp [List.map_take, List.map_drop]
theorem range_pickL {α : Type} : ∀ l : List α, (List.range l.length).filterMap (fun i => l[i]?) = l
  | [] => rfl
  | a :: l => by
    rw [List.length_cons, List.range_succ_eq_map, List.filterMap_cons]
    simp only [List.getElem?_cons_zero]
    rw [List.filterMap_map]
    congr 1
    exact range_pickL l
theorem range_pick (es : Array (Int × Value)) : (Array.range es.size).filterMap (es[·]?) = es := by
  apply Array.ext'
  rw [Array.toList_filterMap, Array.toList_range, ← Array.length_toList]
  have e : (fun i : Nat => es[i]?) = fun i => es.toList[i]? := funext fun i => (Array.getElem?_toList ..).symm
  rw [e]
  exact range_pickL es.toList
theorem lay_small {led : Bool} {p : Int → Bool} {k : Int} {x : Value} {es : Array (Int × Value)} (hkeys : es.map (·.1) = (pick p).toArray) (hk : 0 ≤ k ∧ k < 6) (hp : p k = false) :
    ∃ t1 pl, layNew (tabOf led (pick p)) es k x = (SetTable.insertAt es pl (k, x), t1, false, false) ∧ (SetTable.insertAt es pl (k, x)).map (·.1) = (pick fun i => p i || i == k).toArray ∧
      (SetTable.insertAt es pl (k, x)).size = (pick p).length + 1 ∧ t1.plain = true ∧
      ((t1.tooFull = false ∧ t1 = tabOf led (pick fun i => p i || i == k)) ∨ (t1.tooFull = true ∧ relayAll t1 (SetTable.insertAt es pl (k, x)) (SetTable.grown (SetTable.insertAt es pl (k, x)).size) = (SetTable.insertAt es pl (k, x), tabOf led (pick fun i => p i || i == k), false))) := by
  have hc := chk_add led p hk hp
  unfold chkAdd at hc
  unfold layNew
  cases hfs : (tabOf led (pick p)).freeSlot k with
  | none => rw [hfs] at hc; cases hc
  | some sw =>
  obtain ⟨slot, wd⟩ := sw
  rw [hfs] at hc
  dsimp only at hc ⊢
  simp only [Bool.and_eq_true, Bool.not_eq_true', decide_eq_true_eq] at hc
  obtain ⟨⟨⟨⟨⟨⟨hwd, hins⟩, hfit⟩, hlen⟩, hpl⟩, _⟩, htail⟩ := hc
  subst hwd
  have hkeys1 : (SetTable.insertAt es ((tabOf led (pick p)).put slot).2 (k, x)).map (·.1) = (pick fun i => p i || i == k).toArray := by
    rw [insertAt_map, hkeys]; exact hins
  have hsz1 : (SetTable.insertAt es ((tabOf led (pick p)).put slot).2 (k, x)).size = (pick p).length + 1 := by rw [SmallSet.size hkeys1, hlen]
  refine ⟨((tabOf led (pick p)).put slot).1, ((tabOf led (pick p)).put slot).2, ?_, hkeys1, hsz1, hpl, ?_⟩
  · unfold SetTable.orStandIn
    rw [hsz1, hfit]
    rfl
  · cases htf : ((tabOf led (pick p)).put slot).1.tooFull with
    | false =>
      rw [htf] at htail
      simp only [Bool.false_eq_true, ↓reduceIte, decide_eq_true_eq] at htail
      exact .inl ⟨rfl, htail⟩
    | true =>
      rw [htf] at htail
      simp only [↓reduceIte] at htail
      refine .inr ⟨rfl, ?_⟩
      unfold relayAll
      rw [hkeys1, hsz1]
      cases hrl : ((tabOf led (pick p)).put slot).1.relaid (pick fun i => p i || i == k).toArray (SetTable.grown ((pick p).length + 1)) with
      | none => rw [hrl] at htail; cases htail
      | some tr =>
      obtain ⟨t2, order⟩ := tr
      rw [hrl] at htail
      simp only [Bool.and_eq_true, decide_eq_true_eq] at htail
      obtain ⟨⟨⟨ht2, hord⟩, hcov⟩, hfit2⟩ := htail
      subst hord
      dsimp only
      have hrp : (Array.range ((pick p).length + 1)).filterMap ((SetTable.insertAt es ((tabOf led (pick p)).put slot).2 (k, x))[·]?) = SetTable.insertAt es ((tabOf led (pick p)).put slot).2 (k, x) := by
        rw [← hsz1]; exact range_pick _
      rw [hrp, hcov, hsz1, hfit2, ht2]
      rfl
section
variable {prog : Program} {w : World} {A : Around} {E : Value → Shared → Prop} {s : Shared}
theorem add_small {a : Addr} {k : Int} {tok : Tok} {p : Int → Bool} {led : Bool} {Q : Bool → Shared → Prop} (hS : SmallSet s.heap a led p) (hk : 0 ≤ k ∧ k < 6)
    (h : ∀ h', Heap.SameBut a s.heap h' → SmallSet h' a led (fun i => p i || i == k) → Q (!p k) { s with heap := h' }) :
    wpAny (model prog w) A (setAddHashed a (.int k tok) ((intKind prog w).hash k)) Q E s := by
  obtain ⟨o, es, ep, ho, hex, hd, hkeys, hint⟩ := hS
  have hsz : es.size = (pick p).length := SmallSet.size hkeys
  have h6 := pick_length p
  have hb : es.size < scanBound := by unfold scanBound; omega
  have hf : (tabOf led (pick p)).fits es.size = true := by rw [hsz]; exact tab_fits led p
  have hel : ElemsOf (intKind prog w) es.toList := small_elems hkeys hint
  have hkey : (intKind prog w).is k (.int k tok) = true := intKind_is _ _ _ _
  unfold setAddHashed setAddHashedIn
  refine wpAny_holding (wpAny_bind (wpAny_setState_of ho hd hf ?_))
  dsimp only
  rw [byScan_of rfl hb hel]
  simp only [↓reduceIte]
  unfold setAddByScan
  refine wpAny_bind ?_
  refine wpAny_bind (wpAny_rule ?_)
  refine wpAny_bind (wpAny_setScan_of hkey ho hd hf hel ?_)
  cases hr : List.findIdx? (fun e => (intKind prog w).is k e.2) es.toList with
  | some j =>
    dsimp only
    obtain ⟨hj, hpj, _⟩ := List.findIdx?_eq_some_iff_getElem.mp hr
    obtain ⟨t, ht⟩ := hint _ (List.getElem_mem hj)
    have hkk : k = es.toList[j].1 := by
      rw [ht] at hpj
      exact (intKind prog w).inj (.int _ t) _ _ hpj (intKind_is _ _ _ _)
    have hp : p k = true := by rw [hkk]; exact (small_mem hkeys (List.getElem_mem hj)).2
    refine wpAny_pure (wpAny_pure ?_)
    have := h s.heap (Heap.SameBut.refl a s.heap) ⟨o, es, ep, ho, hex, by
      rw [show pick (fun i => p i || i == k) = pick p from pick_congr fun i _ => by
        by_cases e : i = k
        · subst e; rw [hp]; rfl
        · simp [e]]
      exact hd, by
      rw [show pick (fun i => p i || i == k) = pick p from pick_congr fun i _ => by
        by_cases e : i = k
        · subst e; rw [hp]; rfl
        · simp [e]]
      exact hkeys, hint⟩
    rw [hp] at this
    exact this
  | none =>
    dsimp only
    have hp : p k = false := by
      cases e : p k with
      | false => rfl
      | true =>
        exfalso
        have hm : k ∈ pick p := mem_pick.mpr ⟨hk, e⟩
        have h2 : (es.map (·.1)).toList = pick p := by rw [hkeys]
        rw [Array.toList_map] at h2
        rw [← h2] at hm
        obtain ⟨e', he', hek⟩ := List.mem_map.mp hm
        obtain ⟨t, ht⟩ := hint e' he'
        have := List.findIdx?_eq_none_iff.mp hr e' he'
        rw [ht, hek, intKind_is] at this
        cases this
    rw [show (intKind prog w).hash k = k from hash_small hk]
    have hperm := layNew_perm (tabOf led (pick p)) es k (.int k tok)
    obtain ⟨t1, pl, hlay, hkeys1, hsz1, hpl, htail⟩ := lay_small (x := .int k tok) (led := led) hkeys hk hp
    rw [hlay] at hperm ⊢
    dsimp only at hperm ⊢
    have hint1 : ∀ e ∈ (SetTable.insertAt es pl (k, Value.int k tok)).toList, ∃ t, e.2 = .int e.1 t := fun e he => by
      have he' := hperm.mem_iff.mp he
      rw [Array.toList_push, List.mem_append, List.mem_singleton] at he'
      rcases he' with he' | rfl
      · exact hint e he'
      · exact ⟨tok, rfl⟩
    have hz1 : (SetTable.insertAt es pl (k, Value.int k tok)).size ≤ sizeLine := by rw [hsz1, sizeLine_eq]; omega
    refine wpAny_bind (wpAny_pure ?_)
    have hend : ∀ h' es' ep', Heap.SameBut a s.heap h' → (∃ o', h'.get? a = some o' ∧ o'.ExactSet ∧ o'.data = .set es' ep' (tabOf led (pick fun i => p i || i == k))) → es'.map (·.1) = (pick fun i => p i || i == k).toArray → (∀ e ∈ es'.toList, ∃ t, e.2 = .int e.1 t) → Q true { s with heap := h' } := by
      rintro h' es' ep' hsb ⟨o', g1, g2, g3⟩ g4 g5
      have := h h' hsb ⟨o', es', ep', g1, g2, g3, g4, g5⟩
      rw [hp] at this; exact this
    rw [hpl]
    simp only [↓reduceIte]
    refine wpAny_bind ?_
    rw [hashByValue_scannable 8 rfl]
    refine wpAny_pure ?_
    simp only [plainKind, ↓reduceIte, Bool.not_false, Bool.true_and]
    have hst : ∀ (es' : Array (Int × Value)) (t' : SetTable) {hh : Heap} {oo : Obj} {e0 : Array (Int × Value)} {n0 : Nat} {t0 : SetTable}, hh.get? a = some oo → oo.ExactSet → oo.data = .set e0 n0 t0 → (hh.update a (Obj.putSet es' t')).get? a = some { oo with data := .set es' (n0 + 1) t' } := by
      intro es' t' hh oo e0 n0 t0 g1 g2 g3
      have := Heap.get?_update_self (Obj.putSet es' t') g1 (by rw [putSet_of es' t' g3]; rfl)
      rw [putSet_of es' t' g3] at this; exact this
    refine wpAny_bind (wpAny_storeSet_of ho hd ?_ hz1)
    have hg1 := hst (SetTable.insertAt es pl (k, Value.int k tok)) t1 ho hex hd
    have hsb1 := Heap.SameBut.update s.heap a (Obj.putSet (SetTable.insertAt es pl (k, Value.int k tok)) t1)
    rcases htail with ⟨htf, ht1⟩ | ⟨htf, hrel⟩
    · rw [htf]
      simp only [Bool.false_eq_true, ↓reduceIte]
      refine wpAny_pure (wpAny_pure ?_)
      refine hend _ _ (ep + 1) hsb1 ⟨_, hg1, hex, ?_⟩ hkeys1 hint1
      rw [ht1]
    · rw [htf, hrel]
      simp only [↓reduceIte]
      refine wpAny_bind (wpAny_pure ?_)
      refine wpAny_bind (wpAny_storeSet_of hg1 rfl ?_ hz1)
      refine wpAny_pure (wpAny_pure ?_)
      have hg2 := hst (SetTable.insertAt es pl (k, Value.int k tok)) (tabOf led (pick fun i => p i || i == k)) hg1 hex rfl
      exact hend _ _ (ep + 1 + 1) (hsb1.trans (Heap.SameBut.update _ a _)) ⟨_, hg2, hex, rfl⟩ hkeys1 hint1
end
end
section
open PyProof.V PySem.Spec
/-- whether the world's sets are led by the table -/
def ledOf (w : World) : Bool := !(w.params.followText "set-order")
def hasB (ns : List Int) : Int → Bool := fun k => ns.any (· == k)
theorem SmallSet.congr {h : Heap} {a : Addr} {led : Bool} {p q : Int → Bool} (e : ∀ i, p i = q i) (x : SmallSet h a led p) : SmallSet h a led q := by
  rw [show q = p from (funext e).symm]; exact x
theorem SmallSet.keep {h h' : Heap} {a : Addr} {led : Bool} {p : Int → Bool} (x : SmallSet h a led p) (k : ∀ o, h.get? a = some o → h'.get? a = some o) : SmallSet h' a led p :=
  let ⟨o, es, ep, ho, r⟩ := x; ⟨o, es, ep, k o ho, r⟩
theorem hasB_take {ns : List Int} {i : Nat} (h : i < ns.length) (k : Int) : hasB (ns.take (i + 1)) k = (hasB (ns.take i) k || k == ns.getD i 0) := by
  unfold hasB
  rw [List.take_add_one, List.any_append]
  have e : ns[i]? = some ns[i] := by simp [h]
  rw [e]
  simp only [Option.toList, List.any_cons, List.any_nil, Bool.or_false, List.getD_eq_getElem?_getD, e, Option.getD_some]
  congr 1
  exact Bool.beq_comm
section
variable {prog : Program} {w : World} {A : Around} {R : Result → Shared → Prop} {I : Addr} {fp wr : List Addr} {n : Nat} {P : Nat → Value → Prop} {St : Nat → Heap → Prop} {led : Bool}
theorem loop_small (W : Walks prog w A.in1 I fp wr n P St) (S : Addr) (hSf : S ∉ fp) (ns : List Int) (hn : n = ns.length)
    (hval : ∀ i v, P i v → ∃ t, v = .int (ns.getD i 0) t) (h6 : ∀ i ∈ ns, 0 ≤ i ∧ i < 6) :
    ∀ (k i : Nat) (s : Shared), n - i = k → i ≤ n → St i s.heap →
      SmallSet s.heap S led (hasB (ns.take i)) →
      (∀ h' tk, (∀ b o, b ∉ S :: wr → s.heap.get? b = some o → h'.get? b = some o) → SmallSet h' S led (hasB ns) → R (.ok (.ret .none)) { s with heap := h', toks := tk }) →
      codeAny (model prog w) A (.builtin "set.update.loop" ⟨[.ref S, .ref I], []⟩) R s := by
  have hSw : S ∉ wr := fun h => hSf (W.sub _ h)
  intro k
  induction k with
  | zero =>
    intro i s hk hi hst hS hR
    have hin : i = n := by omega
    subst hin
    refine codeAny_builtin F.entry_set_update_loop ?_
    rw [Around.under_plainId F.plain_set_update_loop _]
    show wpAny _ A.in1 (pyNext (.ref I) >>= _) _ _ s
    refine wpAny_bind (W.done s _ _ hst fun h' tk hm => ?_)
    show wpAny _ A.in1 (ret Value.none) _ _ _
    refine wpAny_pure (hR h' tk (fun b o hb e => hm b o (fun x => hb (List.mem_cons_of_mem _ x)) e) ?_)
    rw [hn, List.take_length] at hS
    exact hS.keep fun o e => hm S o hSw e
  | succ k ih =>
    intro i s hk hi hst hS hR
    have hlt : i < n := by omega
    refine codeAny_builtin F.entry_set_update_loop ?_
    rw [Around.under_plainId F.plain_set_update_loop _]
    show wpAny _ A.in1 (pyNext (.ref I) >>= _) _ _ s
    refine wpAny_bind (W.item i s _ _ hlt hst fun v h₁ tk₁ hP hst' hm => ?_)
    obtain ⟨t, rfl⟩ := hval i v hP
    have hS' : SmallSet h₁ S led (hasB (ns.take i)) := hS.keep fun o e => hm S o hSw e
    have hk6 : 0 ≤ ns.getD i 0 ∧ ns.getD i 0 < 6 := by
      have hl : i < ns.length := hn ▸ hlt
      have e : ns.getD i 0 = ns[i] := by simp [hl]
      rw [e]; exact h6 _ (List.getElem_mem hl)
    show wpAny _ A.in1 (holding [Value.int (ns.getD i 0) t] (setAdd S (.int (ns.getD i 0) t)) >>= _) _ _ _
    refine wpAny_bind (wpAny_holding ?_)
    unfold setAdd
    refine wpAny_holding ?_
    refine wpAny_bind ((intKind prog w).pyHash (k := ns.getD i 0) (intKind_is _ _ _ _) ?_)
    refine add_small (s := ⟨h₁, s.gens, s.drawn, tk₁ + 1, s.os⟩) hS' hk6 fun h' hsb hS2 => ?_
    have hSi : SmallSet h' S led (hasB (ns.take (i + 1))) := hS2.congr fun k' => (hasB_take (hn ▸ hlt) k').symm
    refine wpAny_pure ⟨plainId_quiet F.plain_set_update_loop _, ih (i + 1) ⟨h', s.gens, s.drawn, tk₁ + 1, s.os⟩ (by omega) hlt (W.frame _ _ _ hst' fun b hb o e => ?_) hSi fun h'' tk'' hm'' hS'' => ?_⟩
    · rw [hsb.2 b (fun h : b = S => hSf (by rw [← h]; exact hb))]; exact e
    · refine hR h'' tk'' (fun b o hb e => hm'' b o hb ?_) hS''
      show h'.get? b = some o
      rw [hsb.2 b (fun h : b = S => hb (by rw [h]; exact List.mem_cons_self))]; exact hm b o (fun x => hb (List.mem_cons_of_mem _ x)) e
end
section
variable {prog : Program} {w : World} {A : Around} {E : Value → Shared → Prop} {s : Shared}
theorem new_small (a : Value) {Q₁ : Value → Shared → Prop}
    (h : Q₁ (.ref s.heap.objs.size) { s with heap := s.heap.push { cls := .type "set", dict := none, data := .set #[] 0 (.fresh 0 0 (ledOf w)) } }) :
    codeAny (model prog w) A (.call (.builtin "set.__new__") ⟨[.type "set", a], []⟩) (wants Q₁ E) s := by
  refine codeAny_of_tree ?_
  show wpAny _ A.in1 (do checkBuiltinCall "set.__new__" ⟨[.type "set", a], []⟩; again (.builtin "set.__new__" ⟨[.type "set", a], []⟩)) _ _ s
  refine wpAny_bind (wpAny_of_eq (F.newCall_set_1 a) (wpAny_pure ⟨plainId_quiet F.plain_set_new _, codeAny_builtin F.entry_set_new ?_⟩))
  rw [Around.under_plainId F.plain_set_new _]
  unfold Builtin.«set.__new__» Builtin.Frozenset.newClass
  have hsub := sub_set_self
  obtain ⟨hp, g, d, tk, os⟩ := s
  dsimp only
  wp_walk
  refine wpAny_askSetting (wpAny_pure ?_)
  dsimp only
  simp only [newObj]
  refine wpAny_bind (wpAny_alloc (wpAny_pure ?_))
  exact wpAny_pure h
set_option maxHeartbeats 3200000 in
theorem call_set_small {l : Addr} {items : Array Value} {ns : List Int} {Q : Value → Shared → Prop}
    (hh : A.handled = none) (hl : s.heap.IsList l items) (hi : IntsAre items.toList ns) (h6 : ∀ i ∈ ns, 0 ≤ i ∧ i < 6)
    (h : ∀ (h' : Heap) (tk : Nat), SmallSet h' s.heap.objs.size (ledOf w) (hasB ns) →
      (∀ b o, b < s.heap.objs.size → s.heap.get? b = some o → h'.get? b = some o) → Q (.ref s.heap.objs.size) { s with heap := h', toks := tk }) :
    wpAny (model prog w) A (call (.type "set") [.ref l]) Q E s := by
  obtain ⟨c, tl, hmro⟩ := F.called_set.mro
  have hmade := F.called_set.made
  have hsub := F.called_set.sub
  refine wpAny_call (codeAny_of_tree ?_)
  show wpAny _ _ (callAny (.type "set") _) _ _ _
  refine wpAny_pure ⟨Code.quiet_builtin _ (by decide +kernel), codeAny_builtin F.entry_type_call ?_⟩
  rw [Around.under_plain (weight_type_call_type "set" [.ref l] []) rfl]
  have h1 := F.called_set.notType
  have h2 := F.called_set.canCreate
  have hct := F.typeCall_set_1 (.ref l)
  repeat (any_goals (first | assumption | wp_step))
  refine codeAny_mono (new_small (.ref l) (E := E) (Q₁ := fun obj s₁ => obj = .ref s.heap.objs.size ∧ s₁ = { s with heap := s.heap.push { cls := .type "set", dict := none, data := .set #[] 0 (.fresh 0 0 (ledOf w)) } }) ⟨rfl, rfl⟩) fun r s₁ hr => ?_
  cases r with
  | error e => exact hr
  | ok fl =>
    cases fl with
    | ret obj =>
      obtain ⟨rfl, rfl⟩ := hr
      have hS : (s.heap.push { cls := .type "set", dict := none, data := .set #[] 0 (.fresh 0 0 (ledOf w)) }).get? s.heap.objs.size = some { cls := .type "set", dict := none, data := .set #[] 0 (.fresh 0 0 (ledOf w)) } := Heap.get?_push_size _ rfl
      have hT : Shared.TypeIs { s with heap := s.heap.push { cls := .type "set", dict := none, data := .set #[] 0 (.fresh 0 0 (ledOf w)) } } (.ref s.heap.objs.size) "set" := ⟨_, hS, rfl⟩
      have hli := F.called_set.init.lookup
      have hbi := F.called_set.init.bind (.ref s.heap.objs.size)
      repeat (any_goals (first | assumption | wp_step))
      refine codeAny_mono (codeAny_call_builtin (R := wants (fun r s₂ => r = .none ∧ ∃ h' tk, s₂ = { s with heap := h', toks := tk } ∧
          SmallSet h' s.heap.objs.size (ledOf w) (hasB ns) ∧
          (∀ b o, b < s.heap.objs.size → s.heap.get? b = some o → h'.get? b = some o)) E) F.called_set.init.plain F.entry_set_init (check_set_init_1 hT ?_)) fun r₂ s₂ hr₂ => ?_
      · obtain ⟨ol, hol, hcl, nl, hdl⟩ := hl
        obtain ⟨ocls, odict, odata, oslots⟩ := ol
        simp only at hcl hdl
        subst hcl; subst hdl
        have hol' : (s.heap.push { cls := .type "set", dict := none, data := .set #[] 0 (.fresh 0 0 (ledOf w)) }).get? l = some { cls := .type "list", dict := odict, data := .seq items nl, slots := oslots } := Heap.get?_push_of_some _ hol
        have hsls := F.sub_list_set
        have hslf := F.sub_list_frozenset
        have hne : (Value.type "list" == Value.type "dict") = false := by decide
        have hl1 : (s.heap.push { cls := .type "set", dict := none, data := .set #[] 0 (.fresh 0 0 (ledOf w)) }).IsList l items := ⟨_, hol', rfl, nl, rfl⟩
        unfold Builtin.«set.__init__» noKeywords Builtin.Frozenset.updateFrom
        generalize hPI : pyIter = PI
        wp_walk
        subst hPI
        refine wpAny_pyIter_list hl1 ?_
        refine wpAny_bind (wpAny_runValue ?_)
        have hlS : l < s.heap.objs.size := Heap.lt_size hol
        have hh3 : A.in1.in1.in1.handled = none := by simp [hh]
        have hneI : l ≠ (s.heap.push { cls := .type "set", dict := none, data := .set #[] 0 (.fresh 0 0 (ledOf w)) }).objs.size := by
          rw [Heap.size_push]; exact Nat.ne_of_lt (Nat.lt_succ_of_lt hlS)
        have hSf : s.heap.objs.size ∉ [(s.heap.push { cls := .type "set", dict := none, data := .set #[] 0 (.fresh 0 0 (ledOf w)) }).objs.size, l] := by
          rw [Heap.size_push]; simp only [List.mem_cons, List.mem_singleton, List.not_mem_nil, or_false, not_or]
          exact ⟨Nat.ne_of_lt (Nat.lt_succ_self _), Nat.ne_of_gt hlS⟩
        have hval : ∀ (i : Nat) (v : Value), items[i]? = some v → ∃ t, v = .int (ns.getD i 0) t := fun i v hv =>
          IntsAre.int_at hi i v (by rw [Array.getElem?_toList]; exact hv)
        have hnl : items.size = ns.length := by have := IntsAre.length hi; rw [Array.length_toList] at this; exact this
        refine loop_small (led := ledOf w) (Walks.list hh3 _ l hneI items) s.heap.objs.size
          hSf ns hnl hval h6 (items.size - 0) 0 _ (by omega) (Nat.zero_le _)
          ⟨⟨_, Heap.get?_push_size _ rfl, rfl, rfl⟩, (hl1.push _)⟩ ?hS0 ?hR
        case hS0 =>
          have hget : ((s.heap.push { cls := .type "set", dict := none, data := .set #[] 0 (.fresh 0 0 (ledOf w)) }).push { cls := .type "list_iterator", data := .fields #[.ref l, .int 0 0] }).get? s.heap.objs.size
              = some { cls := .type "set", dict := none, data := .set #[] 0 (.fresh 0 0 (ledOf w)) } := Heap.get?_push_of_some _ hS
          have e0 : pick (hasB (ns.take 0)) = [] := by rw [List.take_zero]; rfl
          exact ⟨_, #[], 0, hget, ⟨rfl, rfl, rfl⟩, by rw [e0]; rfl, by rw [e0]; simp, fun e he => by simp at he⟩
        case hR =>
          intro h' tk' hm hS'
          show wpAny _ _ _ _ _ _
          refine wpAny_pure ?_
          show wpAny _ _ (ret Value.none) _ _ _
          refine wpAny_pure ⟨rfl, h', tk', rfl, hS', fun b o hb e => ?_⟩
          have hb1 : b ≠ s.heap.objs.size := Nat.ne_of_lt hb
          have hb2 : b ≠ (s.heap.push { cls := .type "set", dict := none, data := .set #[] 0 (.fresh 0 0 (ledOf w)) }).objs.size := by
            rw [Heap.size_push]; exact Nat.ne_of_lt (Nat.lt_succ_of_lt hb)
          exact hm b o (by simp only [List.mem_cons, List.mem_singleton, List.not_mem_nil, or_false, not_or]; exact ⟨hb1, hb2⟩) (Heap.get?_push_of_some _ (Heap.get?_push_of_some _ e))
      · cases r₂ with
        | error e => exact hr₂
        | ok fl₂ =>
          cases fl₂ with
          | ret r =>
            obtain ⟨rfl, h', tk, rfl, hS', hk'⟩ := hr₂
            repeat (any_goals (first | assumption | wp_step))
            exact h _ _ hS' hk'
          | _ => exact hr₂.elim
    | _ => exact hr.elim
end
end
section
open PyProof.V PySem.Spec
theorem f_entry_set_iter : entryFor table "set.__iter__" = some Builtin.«frozenset.__iter__» :=
  entryFor_alias (id' := "frozenset.__iter__") (by kernel_rfl) (by first | rfl | decide +kernel | (unfold String.splitOn; simp +decide [String.splitOnAux])) (by decide +kernel) (by kernel_rfl)
theorem f_slot_si_next : Slot "set_iterator" "__next__" "set_iterator.__next__" :=
  .of (owner := "set_iterator") (n := "__next__") (by rw [typeLookup_type, builtinLookup_eq_fast]; kernel_rfl) (by decide +kernel) (by decide +kernel) (by decide +kernel)
    (by first | exact .inl (by decide +kernel) | exact .inr (by decide +kernel)) (by rw [isSubtype_type]; kernel_rfl)
theorem f_slot_si_iter : Slot "set_iterator" "__iter__" "set_iterator.__iter__" :=
  .of (owner := "set_iterator") (n := "__iter__") (by rw [typeLookup_type, builtinLookup_eq_fast]; kernel_rfl) (by decide +kernel) (by decide +kernel) (by decide +kernel)
    (by first | exact .inl (by decide +kernel) | exact .inr (by decide +kernel)) (by rw [isSubtype_type]; kernel_rfl)
theorem f_entry_si_next : entryFor table "set_iterator.__next__" = some Builtin.«set_iterator.__next__» := entryFor_of_tree (by kernel_rfl)
theorem f_entry_si_iter : entryFor table "set_iterator.__iter__" = some Builtin.«dict_keyiterator.__iter__» :=
  entryFor_alias (id' := "dict_keyiterator.__iter__") (by kernel_rfl) (by first | rfl | decide +kernel | (unfold String.splitOn; simp +decide [String.splitOnAux])) (by decide +kernel) (by kernel_rfl)
theorem f_owner_si : Manifest.owners.lookup (String.ofList ['r', 'o', 't', 'a', 'r', 'e', 't', 'i', '_', 't', 'e', 's'].reverse) = some Manifest.sig_set_iterator := by kernel_rfl
theorem f_args_si_next (a : Value) : argsOk "set_iterator.__next__" ⟨[a], []⟩ := by
  unfold argsOk; rw [signature?_of (id := "set_iterator.__next__") (n := ['_', '_', 't', 'x', 'e', 'n', '_', '_']) (o := ['r', 'o', 't', 'a', 'r', 'e', 't', 'i', '_', 't', 'e', 's']) (by kernel_rfl) f_owner_si]; kernel_rfl
theorem f_args_si_iter (a : Value) : argsOk "set_iterator.__iter__" ⟨[a], []⟩ := by
  unfold argsOk; rw [signature?_of (id := "set_iterator.__iter__") (n := ['_', '_', 'r', 'e', 't', 'i', '_', '_']) (o := ['r', 'o', 't', 'a', 'r', 'e', 't', 'i', '_', 't', 'e', 's']) (by kernel_rfl) f_owner_si]; kernel_rfl

theorem pickOrder_go {α : Type} (next : Nat → Nat) : ∀ (fuel k : Nat) (left : List α) (out : Array α), left.length = fuel → (pickOrder.go next fuel k left out).toList.Perm (out.toList ++ left)
  | 0, k, left, out, h => by
    rw [List.length_eq_zero_iff] at h; subst h
    unfold pickOrder.go; simp
  | fuel + 1, k, left, out, h => by
    have hj : next k % left.length < left.length := Nat.mod_lt _ (by omega)
    unfold pickOrder.go
    rw [List.getElem?_eq_getElem hj]
    dsimp only
    refine (pickOrder_go next fuel (k + 1) _ _ (by rw [List.length_eraseIdx_of_lt hj, h]; rfl)).trans ?_
    rw [Array.toList_push, List.append_assoc]
    refine List.Perm.append_left _ ?_
    rw [List.eraseIdx_eq_take_drop_succ]
    have e := List.take_append_drop (next k % left.length) left
    rw [List.drop_eq_getElem_cons hj] at e
    conv => rhs; rw [← e]
    exact (List.perm_middle (l₁ := left.take _) (l₂ := left.drop _)).symm
theorem pickOrder_perm {α : Type} (next : Nat → Nat) (xs : Array α) : (pickOrder next xs).toList.Perm xs.toList := by
  have := pickOrder_go next xs.size 0 xs.toList #[] (by simp)
  simpa [pickOrder] using this
/-- the order in which a set's elements are drawn -/
def ordOf (w : World) (a : Addr) (ep : Nat) (es : Array (Int × Value)) : Array (Int × Value) := if w.params.followText "set-order" then pickOrder (w.params.setOrder a ep) es else es
theorem ord_perm (w : World) (a : Addr) (ep : Nat) (es : Array (Int × Value)) : (ordOf w a ep es).toList.Perm es.toList := by
  unfold ordOf; split
  · exact pickOrder_perm _ _
  · exact .rfl
theorem ord_size (w : World) (a : Addr) (ep : Nat) (es : Array (Int × Value)) : (ordOf w a ep es).size = es.size := by
  rw [← Array.length_toList, (ord_perm w a ep es).length_eq, Array.length_toList]
def slotAt (w : World) (xs : List Int) (i : Nat) : Nat := if w.params.followText "set-order" then 0 else if i = 0 then 0 else (xs.getD (i - 1) 0).toNat + 1
def IsSetIter (h : Heap) (it a : Addr) (sl i n ep : Nat) : Prop := h.get? it = some { cls := .type "set_iterator", dict := none, data := .fields #[.int sl 0, .int i 0, .ref a, .int n 0, .int ep 0], slots := #[] }
theorem IsSetIter.typeIs {s : Shared} {it a sl i n ep} (x : IsSetIter s.heap it a sl i n ep) : s.TypeIs (.ref it) "set_iterator" := ⟨_, x, rfl⟩
/-- the set, its entries told -/
def SetIs (w : World) (h : Heap) (a : Addr) (p : Int → Bool) (es : Array (Int × Value)) (ep : Nat) : Prop :=
  ∃ o, h.get? a = some o ∧ o.ExactSet ∧ o.data = .set es ep (tabOf (ledOf w) (pick p)) ∧ es.map (·.1) = (pick p).toArray
theorem SetIs.typeIs {w : World} {s : Shared} {a p es ep} (x : SetIs w s.heap a p es ep) : s.TypeIs (.ref a) "set" := let ⟨o, ho, hc, _⟩ := x; ⟨o, ho, hc.1⟩
theorem SetIs.keep {w : World} {h h' : Heap} {a p es ep} (x : SetIs w h a p es ep) (k : ∀ o, h.get? a = some o → h'.get? a = some o) : SetIs w h' a p es ep := let ⟨o, ho, r⟩ := x; ⟨o, k o ho, r⟩
section
variable {prog : Program} {w : World} {A : Around} {E : Value → Shared → Prop} {s : Shared} {a it : Addr} {p : Int → Bool} {es : Array (Int × Value)} {ep : Nat}
theorem SetIs.fits (hk : es.map (·.1) = (pick p).toArray) : (tabOf (ledOf w) (pick p)).fits es.size = true := by rw [SmallSet.size hk]; exact tab_fits _ p
theorem wp_setState {Q : (Array (Int × Value) × Nat × SetTable) → Shared → Prop} (hS : SetIs w s.heap a p es ep) (h : Q (es, ep, tabOf (ledOf w) (pick p)) s) : wpAny (model prog w) A (setState a) Q E s := by
  obtain ⟨o, ho, _, hd, hk⟩ := hS
  exact wpAny_setState_of ho hd (SetIs.fits hk) h
theorem wp_byText {Q : Bool → Shared → Prop} (h : Q (w.params.followText "set-order") s) : wpAny (model prog w) A setsByText Q E s := by
  unfold setsByText
  exact wpAny_bind (wpAny_askSetting (wpAny_pure h))
theorem iter_set {Q : Value → Shared → Prop} (hS : SetIs w s.heap a p es ep)
    (hQ : Q (.ref s.heap.objs.size) { s with heap := s.heap.push { cls := .type "set_iterator", data := .fields #[.int 0 0, .int 0 0, .ref a, .int es.size 0, .int ep 0] } }) :
    wpAny (model prog w) A (pyIter (.ref a)) Q E s := by
  refine wpAny_pyIter_slot hS.typeIs F.slot_set_iter (wpAny_call_entry F.slot_set_iter hS.typeIs f_entry_set_iter ?_ (F.args_set_iter_1 _))
  unfold Builtin.«frozenset.__iter__»
  refine wpAny_bind (wpAny_pure ?_)
  refine wpAny_bind ?_
  unfold Builtin.Frozenset.sizeOf setEntries
  refine wpAny_bind (wpAny_bind (wp_setState hS (wpAny_pure (wpAny_pure ?_))))
  refine wpAny_bind ?_
  unfold setDrawn
  refine wpAny_bind (wp_setState hS ?_)
  refine wpAny_bind (wp_byText (wpAny_pure ?_))
  have hdr : (!(w.params.followText "set-order") && (!(tabOf (ledOf w) (pick p)).plain && decide (es.size > 1))) = false := by
    rw [show (tabOf (ledOf w) (pick p)).plain = true from rfl]; simp
  show wpAny _ _ (if (!(w.params.followText "set-order") && (!(tabOf (ledOf w) (pick p)).plain && decide (es.size > 1))) = true then _ else _) _ _ _
  rw [hdr]
  simp only [Bool.false_eq_true, ↓reduceIte]
  refine wpAny_bind (wpAny_pure ?_)
  refine wpAny_bind ?_
  unfold setEpoch
  refine wpAny_bind (wp_setState hS (wpAny_pure ?_))
  refine wpAny_bind (wpAny_newObj_type (wpAny_pure ⟨_, rfl, "set_iterator", _, ⟨_, Heap.get?_push_size _ rfl, rfl⟩, f_slot_si_next.lookup, ?_⟩))
  exact hQ
theorem iter_si {sl i n e' : Nat} {Q : Value → Shared → Prop} (hit : IsSetIter s.heap it a sl i n e') (h : Q (.ref it) s) : wpAny (model prog w) A (pyIter (.ref it)) Q E s := by
  refine wpAny_pyIter_slot hit.typeIs f_slot_si_iter (wpAny_call_entry f_slot_si_iter hit.typeIs f_entry_si_iter ?_ (f_args_si_iter _))
  show wpAny _ _ (ret (.ref it)) _ _ s
  exact wpAny_pure ⟨_, rfl, "set_iterator", _, hit.typeIs, f_slot_si_next.lookup, h⟩
theorem next_step {i : Nat} {Q : Option (Value × Nat) → Shared → Prop} (hS : SetIs w s.heap a p es ep) (hi : i ≤ es.size)
    (h : Q ((ordOf w a ep es)[i]?.map fun e => (e.2, slotAt w (pick p) (i + 1))) s) : wpAny (model prog w) A (setNext a (slotAt w (pick p) i) i ep) Q E s := by
  have hk : es.map (·.1) = (pick p).toArray := let ⟨_, _, _, _, hk⟩ := hS; hk
  have hsz := SmallSet.size hk
  unfold setNext
  refine wpAny_bind (wp_setState hS ?_)
  dsimp only
  refine wpAny_bind (wp_byText ?_)
  cases hb : w.params.followText "set-order" with
  | true =>
    simp only [↓reduceIte, bne_self_eq_false, Bool.false_eq_true]
    refine wpAny_bind ?_
    unfold setWalk
    refine wpAny_bind (wp_setState hS ?_)
    dsimp only
    refine wpAny_bind (wp_byText ?_)
    rw [hb]
    simp only [↓reduceIte]
    refine wpAny_bind (wpAny_askSetting (wpAny_pure (wpAny_pure ?_)))
    unfold ordOf slotAt at h
    rw [hb] at h
    simp only [↓reduceIte] at h
    unfold slotAt
    rw [hb]
    simp only [↓reduceIte]
    exact h
  | false =>
    simp only [Bool.false_eq_true, ↓reduceIte]
    have hpl : (tabOf (ledOf w) (pick p)).plain = true := rfl
    have hled : (tabOf (ledOf w) (pick p)).led = true := by show ledOf w = true; unfold ledOf; rw [hb]; rfl
    refine wpAny_ite_split (fun hab => absurd hab (by show ¬ ((!(tabOf (ledOf w) (pick p)).plain && decide (es.size > 1)) = true); rw [hpl]; simp)) (fun _ => ?_)
    refine wpAny_bind ?_
    show wpAny _ _ (if (!(tabOf (ledOf w) (pick p)).led && !es.isEmpty) = true then _ else _) _ _ _
    rw [hled]
    simp only [Bool.not_true, Bool.false_and, Bool.false_eq_true, ↓reduceIte]
    refine wpAny_pure (wpAny_pure ?_)
    have hbel : SetTable.below (tabOf (ledOf w) (pick p)).place (slotAt w (pick p) i) = i := by
      have := chk_go p (i := i) (by omega)
      unfold slotAt; rw [hb]; exact this
    rw [hbel]
    unfold ordOf at h
    rw [hb] at h
    simp only [Bool.false_eq_true, ↓reduceIte] at h
    rcases Nat.lt_or_ge i es.size with hlt | hge
    · have h1 : es[i]? = some es[i] := by simp [hlt]
      have hpl2 : (tabOf (ledOf w) (pick p)).place[i]? = some ((pick p).getD i 0).toNat := by
        show ((pick p).map Int.toNat).toArray[i]? = _
        have hl : i < (pick p).length := by omega
        simp [hl]
      rw [h1] at h ⊢
      rw [hpl2]
      have e : slotAt w (pick p) (i + 1) = ((pick p).getD i 0).toNat + 1 := by unfold slotAt; rw [hb]; simp
      simp only [Option.map_some, e] at h
      exact h
    · have h1 : es[i]? = none := by simp [hge]
      rw [h1] at h ⊢
      exact h
theorem item_si {i : Nat} {e : Int × Value} {Q : Option Value → Shared → Prop} (hit : IsSetIter s.heap it a (slotAt w (pick p) i) i es.size ep) (hS : SetIs w s.heap a p es ep) (hne : a ≠ it) (hx : (ordOf w a ep es)[i]? = some e)
    (hQ : ∀ h', IsSetIter h' it a (slotAt w (pick p) (i + 1)) (i + 1) es.size ep → (∀ b o, b ≠ it → s.heap.get? b = some o → h'.get? b = some o) → Q (some e.2) { s with heap := h' }) :
    wpAny (model prog w) A (pyNext (.ref it)) Q E s := by
  have hi : i < es.size := by
    rcases Nat.lt_or_ge i es.size with h | h
    · exact h
    · rw [Array.getElem?_eq_none (by rw [ord_size]; exact h)] at hx; cases hx
  unfold pyNext
  refine wpAny_bind (wpAny_attempt (wpAny_callSpecial?_slot (name := Str.ofString "__next__") hit.typeIs f_slot_si_next
    (wpAny_call_entry f_slot_si_next hit.typeIs f_entry_si_next ?_ (f_args_si_next _))))
  unfold Builtin.«set_iterator.__next__»
  refine wpAny_bind (wpAny_pure ?_)
  refine wpAny_bind (wpAny_fieldsOf hit rfl ?_)
  dsimp only
  unfold setEntries
  refine wpAny_bind (wpAny_bind (wp_setState hS (wpAny_pure ?_)))
  dsimp only
  rw [if_neg (by simp)]
  simp only [Int.toNat_natCast]
  refine wpAny_bind (next_step hS (Nat.le_of_lt hi) ?_)
  rw [hx]
  simp only [Option.map_some]
  refine wpAny_bind (wpAny_setField_rec hit (by simp) fun h₁ hit₁ hs₁ => ?_)
  refine wpAny_bind (wpAny_setField_rec hit₁ (by simp) fun h₂ hit₂ hs₂ => ?_)
  refine wpAny_pure ⟨_, rfl, wpAny_pure (hQ h₂ ?_ fun b o hb e => hs₂.extBut _ _ hb (hs₁.extBut _ _ hb e))⟩
  exact hit₂
theorem end_si {Q : Option Value → Shared → Prop} (hh : A.handled = none) (hit : IsSetIter s.heap it a (slotAt w (pick p) es.size) es.size es.size ep) (hS : SetIs w s.heap a p es ep)
    (hQ : ∀ h', (∀ b o, b ≠ it → s.heap.get? b = some o → h'.get? b = some o) → Q none { s with heap := h' }) :
    wpAny (model prog w) A (pyNext (.ref it)) Q E s := by
  unfold pyNext
  refine wpAny_bind (wpAny_attempt (wpAny_callSpecial?_slot (name := Str.ofString "__next__") hit.typeIs f_slot_si_next
    (wpAny_call_entry f_slot_si_next hit.typeIs f_entry_si_next ?_ (f_args_si_next _))))
  unfold Builtin.«set_iterator.__next__»
  refine wpAny_bind (wpAny_pure ?_)
  refine wpAny_bind (wpAny_fieldsOf hit rfl ?_)
  dsimp only
  unfold setEntries
  refine wpAny_bind (wpAny_bind (wp_setState hS (wpAny_pure ?_)))
  dsimp only
  rw [if_neg (by simp)]
  simp only [Int.toNat_natCast]
  refine wpAny_bind (next_step hS (Nat.le_refl _) ?_)
  rw [Array.getElem?_eq_none (by rw [ord_size]; exact Nat.le_refl _)]
  simp only [Option.map_none]
  refine wpAny_bind (wpAny_setField_rec hit (by simp) fun h₁ hit₁ hs₁ => ?_)
  show wpAny _ _ (newExc (.type "StopIteration") [] >>= _) _ _ _
  refine wpAny_bind ?_
  simp only [newExc, newTuple]
  refine wpAny_bind (wpAny_newObj_type ?_ (by size_fits))
  refine wpAny_bind (m := firstArgMember _ _) (wpAny_of_eq (a := Value.none) (by first | rfl | (simp only [firstArgMember]; rfl)) ?_)
  refine wpAny_newObj_type ?_ (by size_fits)
  simp only [raiseNew]
  refine wpAny_bind (wpAny_handled ?_)
  first | rw [show A.in1.handled = none from hh] | rw [hh]
  refine wpAny_bind (wpAny_pure (wpAny_throw ?_))
  refine wpAny_bind (wpAny_isInstance (T := "StopIteration") (b := true) ⟨_, Heap.get?_push_size _ rfl, rfl⟩ isSubtype_stop ?_)
  exact wpAny_pure (hQ _ ((hs₁.extBut.push _).push _))
theorem walks_set (hh : A.handled = none) (it a : Addr) (hne : a ≠ it) (p : Int → Bool) (es : Array (Int × Value)) (ep : Nat) :
    Walks prog w A it [it, a] [it] es.size (fun i v => ∃ e, (ordOf w a ep es)[i]? = some e ∧ v = e.2) (fun i h => IsSetIter h it a (slotAt w (pick p) i) i es.size ep ∧ SetIs w h a p es ep) where
  sub := fun b hb => by simp at hb; simp [hb]
  frame := fun _ _ _ st hk => ⟨hk it (by simp) _ st.1, st.2.keep fun o e => hk a (by simp) o e⟩
  item := fun i s Q E hi st hQ => by
    have hx : (ordOf w a ep es)[i]? = some ((ordOf w a ep es)[i]'(by rw [ord_size]; exact hi)) := by simp [ord_size, hi]
    refine item_si st.1 st.2 hne hx fun h' hit' hk => ?_
    exact hQ _ h' s.toks ⟨_, hx, rfl⟩ ⟨hit', st.2.keep fun o e => hk a o hne e⟩ fun b o hb e => hk b o (fun h => hb (by simp [h])) e
  done := fun s Q E st hQ => end_si hh st.1 st.2 fun h' hk => hQ h' s.toks fun b o hb e => hk b o (fun h => hb (by simp [h])) e
  self := fun _ _ _ _ st hQ => iter_si st.1 hQ
theorem hint_set {Q : Bool → Shared → Prop} {r : Addr} (hT : s.TypeIs (.ref r) "set") (h : Q false s) : wpAny (model prog w) A (Builtin.List.listLengthHint (.ref r)) Q E s := by
  unfold Builtin.List.listLengthHint
  refine wpAny_bind (wpAny_specialOf hT PySem.F.slot_set_len.lookup ?_)
  generalize hid : ("set.__len__" : String) = id0
  wp_delta
  rw [show splitId id0 = some ("set", "__len__") from by subst hid; decide +kernel]
  subst hid
  refine wpAny_bind (wpAny_isInstance (T := "set") (b := true) hT (by rw [isSubtype_type]; kernel_rfl) ?_)
  refine wpAny_ite_split (fun hab => absurd hab (by decide)) (fun _ => ?_)
  refine wpAny_ite_split (fun _ => ?_) (fun hab => absurd (by decide +kernel) hab)
  refine wpAny_bind (wpAny_typeOf hT ?_)
  exact wpAny_pure h
theorem src_set (a : Addr) (p : Int → Bool) (es : Array (Int × Value)) (ep : Nat) : KdlSrc prog w "set" a a es.size (fun i v => ∃ e, (ordOf w a ep es)[i]? = some e ∧ v = e.2) (fun h => SetIs w h a p es ep) where
  type := fun _ hm => hm.typeIs
  there := fun _ ⟨_, ho, _⟩ => ⟨Heap.lt_size ho, Heap.lt_size ho⟩
  keep := fun _ _ hm hk => hm.keep fun o e => hk a (.inl rfl) o e
  notList := by decide
  notTuple := by decide
  hint := fun _ _ _ _ hm hq => hint_set hm.typeIs hq
  iter := fun _ s hh hm => ⟨_, _, (fun _ _ hq => iter_set hm hq), walks_set hh _ a (by obtain ⟨_, ho, _⟩ := hm; exact Nat.ne_of_lt (Heap.lt_size ho)) p es ep, ⟨by
    have e0 : slotAt w (pick p) 0 = 0 := by unfold slotAt; simp
    rw [e0]; exact Heap.get?_push_size _ rfl, hm.keep fun o e => Heap.get?_push_of_some _ e⟩⟩
end
end
section
open PyProof.V PySem.Spec
theorem intsAre_of : ∀ {vs : List Value} {ns : List Int}, vs.length = ns.length → (∀ (j : Nat) (v : Value), vs[j]? = some v → ∃ n t, ns[j]? = some n ∧ v = .int n t) → IntsAre vs ns
  | [], [], _, _ => .nil
  | v :: vs, n :: ns, hl, h => by
    obtain ⟨n', t, e, rfl⟩ := h 0 v rfl
    cases e
    exact .cons n t (intsAre_of (by simpa using hl) fun j w hw => h (j + 1) w hw)
theorem intsAre_dat : ∀ {vs : List Value} {ns : List Int}, IntsAre vs ns → DatAll [] vs (ns.map .int)
  | _, _, .nil => .nil
  | _, _, .cons n t r => .cons (DatIn.int n t) (intsAre_dat r)
theorem dat_intsAre : ∀ {vs : List Value} {ns : List Int}, DatAll [] vs (ns.map .int) → IntsAre vs ns
  | [], [], _ => .nil
  | v :: vs, n :: ns, h => by
    cases h with
    | cons h1 h2 => obtain ⟨t, rfl⟩ := datIn_int h1; exact .cons n t (dat_intsAre h2)
  | [], n :: ns, h => by cases h
  | v :: vs, [], h => by cases h
theorem pick_sorted (p : Int → Bool) : (pick p).Pairwise (· ≤ ·) := List.Pairwise.filter _ (by decide)
section
variable {prog : Program} {w : World} {A : Around} {E : Value → Shared → Prop} {s : Shared} {h₀ : Heap} {L : Addr} {m : Str → Option Value} {news : Led}
theorem sortedSet_M {a : Addr} {ns : List Int} {Q : Value → Shared → Prop} (hh : A.handled = none) (F : Fr h₀ L s.heap m) (N : News h₀ L s.heap news) (hS : SmallSet s.heap a (ledOf w) (hasB ns)) (ha : ∃ o, (a, o) ∈ news) (hLa : L < a)
    (h : ∀ D vs c h' tk, Fr h₀ L h' m → News h₀ L h' ((D, ({ cls := .type "list", data := .seq (List.toArray vs) c } : Obj)) :: news) → (∀ q ∈ news, q.1 < D) → L < D → DatAll [] vs ((pick (hasB ns)).map .int) → Q (.ref D) { s with heap := h', toks := tk }) :
    wpAny (model prog w) A (call (.builtin "sorted") [.ref a]) Q E s := by
  obtain ⟨o, es, ep, ho, hex, hd, hk, hint⟩ := hS
  have hsz := SmallSet.size hk
  have h6 := pick_length (hasB ns)
  have hLs : @LT.lt Nat _ L s.heap.objs.size := F.ns.lt
  refine kdu_sorted (src_set (prog := prog) (w := w) a (hasB ns) es ep) hh F N ⟨o, ho, hex, hd, hk⟩ (by rw [sizeLine_eq]; omega) fun D h₁ tk₁ vs F₁ N₁ hlt hvl hvP => ?_
  have hI : IntsAre vs ((ordOf w a ep es).toList.map (·.1)) := intsAre_of (by rw [List.length_map, (Array.length_toList (xs := ordOf w a ep es)), ord_size, hvl]) fun j v hv => by
    obtain ⟨e, he, rfl⟩ := hvP j v hv
    rw [← Array.getElem?_toList] at he
    obtain ⟨t, ht⟩ := hint e ((ord_perm w a ep es).mem_iff.mp (List.mem_of_getElem? he))
    exact ⟨e.1, t, by rw [List.getElem?_map, he]; rfl, ht⟩
  have hkeysL : es.toList.map (·.1) = pick (hasB ns) := by
    have h2 : (es.map (·.1)).toList = pick (hasB ns) := by rw [hk]
    rwa [Array.toList_map] at h2
  have hperm : ((ordOf w a ep es).toList.map (·.1)).Perm (pick (hasB ns)) := by
    rw [← hkeysL]; exact (ord_perm w a ep es).map _
  have hlow : L < D := let ⟨o', ho'⟩ := ha; Nat.lt_trans hLa (hlt _ ho')
  refine ksk_lsort (n := 0) (A := A.in1) (s := ⟨h₁, s.gens, s.drawn, tk₁, s.os⟩) (news' := fun o => (D, o) :: news) F₁ N₁ (fun o => ?_) rfl hI (by rw [hperm.length_eq]; omega) fun vs' ns' c h' F' N' hI' hl' hp' ho' _ => ?_
  · exact .head fun p hp => Nat.ne_of_lt (hlt p hp)
  · have e : ns' = pick (hasB ns) := lks_uniq (hp'.trans hperm) ho' (pick_sorted _)
    subst e
    exact h D vs' c h' tk₁ F' N' hlt hlow (intsAre_dat hI')
end
section
variable {prog : Program} {w : World} {A : Around} {E : Value → Shared → Prop} {s : Shared} {h₀ : Heap} {L : Addr} {m : Str → Option Value} {news : Led}
theorem set_M {l : Addr} {vs : List Value} {k : Nat} {ns : List Int} {Q : Value → Shared → Prop} (hh : A.handled = none) (F : Fr h₀ L s.heap m) (N : News h₀ L s.heap news) (hl : (l, ({ cls := .type "list", data := .seq vs.toArray k } : Obj)) ∈ news)
    (hd : DatAll [] vs (ns.map .int)) (h6 : ∀ i ∈ ns, 0 ≤ i ∧ i < 6)
    (h : ∀ D o h' tk, Fr h₀ L h' m → News h₀ L h' ((D, o) :: news) → (∀ q ∈ news, q.1 < D) → L < D → SmallSet h' D (ledOf w) (hasB ns) → Q (.ref D) { s with heap := h', toks := tk }) :
    wpAny (model prog w) A (call (.type "set") [.ref l]) Q E s := by
  refine call_set_small (items := vs.toArray) (ns := ns) hh ⟨_, (N _ hl).1, rfl, k, rfl⟩ (by simpa using dat_intsAre hd) h6 fun h' tk hS hk => ?_
  have hS2 := hS
  obtain ⟨o, es, ep, ho, _⟩ := hS2
  obtain ⟨oL, _, _, hL, _⟩ := F.ns
  have hLlt : L < s.heap.objs.size := Heap.lt_size hL
  refine h _ o h' tk ⟨F.ns.at' fun o' e => hk L o' hLlt e, fun b o' e => hk b o' (Heap.lt_size (F.keep b o' e)) (F.keep b o' e), F.above⟩ (fun p hp => ?_) (fun q hq => Heap.lt_size (N q hq).1) hLlt hS
  rcases List.mem_cons.mp hp with rfl | hp
  · refine ⟨ho, Nat.ne_of_gt hLlt, ?_⟩
    cases hq : h₀.get? s.heap.objs.size with
    | none => rfl
    | some o' => exact absurd (Heap.lt_size (F.keep _ _ hq)) (Nat.lt_irrefl _)
  · exact ⟨hk _ _ (Heap.lt_size (N p hp).1) (N p hp).1, (N p hp).2.1, (N p hp).2.2⟩
/-- found.extend(list) -/
theorem extendL_M {f b : Addr} {vs ys : List Value} {k k2 : Nat} {all : Led} {Q : Value → Shared → Prop} (rest : Led) (F : Fr h₀ L s.heap m) (N : News h₀ L s.heap all) (hf : (f, ({ cls := .type "list", data := .seq vs.toArray k } : Obj)) ∈ all) (hs : ∀ q ∈ rest, q ∈ all) (hne : ∀ q ∈ rest, q.1 ≠ f)
    (hb : s.heap.get? b = some { cls := .type "list", data := .seq ys.toArray k2 }) (hsz : vs.length + ys.length ≤ sizeLine) (h : ∀ h' n', Fr h₀ L h' m → News h₀ L h' ((f, { cls := .type "list", data := .seq (vs ++ ys).toArray n' }) :: rest) → Q .none { s with heap := h' }) :
    wpAny (model prog w) A (call (.builtin "list.extend") [.ref f, .ref b]) Q E s :=
  extend_in (own := []) (rest := rest) F (fun q hq => by rcases List.mem_cons.mp hq with rfl | hq; exact N _ hf; exact N q (hs q hq)) (fun _ h => nomatch h) hne hb (fun h' n' F' N' => h h' n' F' (by simpa using N')) (by simpa using hsz)
/-- found.extend(tuple) -/
theorem extendT_M {f b : Addr} {vs ys : List Value} {k k2 : Nat} {all : Led} {Q : Value → Shared → Prop} (rest : Led) (F : Fr h₀ L s.heap m) (N : News h₀ L s.heap all) (hf : (f, ({ cls := .type "list", data := .seq vs.toArray k } : Obj)) ∈ all) (hs : ∀ q ∈ rest, q ∈ all) (hne : ∀ q ∈ rest, q.1 ≠ f)
    (hb : s.heap.get? b = some { cls := .type "tuple", data := .seq ys.toArray k2 }) (hsz : vs.length + ys.length ≤ sizeLine) (h : ∀ h' n', Fr h₀ L h' m → News h₀ L h' ((f, { cls := .type "list", data := .seq (vs ++ ys).toArray n' }) :: rest) → Q .none { s with heap := h' }) :
    wpAny (model prog w) A (call (.builtin "list.extend") [.ref f, .ref b]) Q E s := by
  have hm := N _ hf
  have hsz' : vs.toArray.size + ys.toArray.size ≤ sizeLine := by simpa using hsz
  refine call_meets PySem.F.slot_list_extend ⟨_, hm.1, rfl⟩ PySem.F.entry_list_extend (PySem.F.args_list_extend_2 _ _) (PySem.AutoSeq1.list_extend_list_tuple_0 f vs.toArray k b ys.toArray k2 (extend_door hsz') (Nat.le_trans (Nat.le_add_right _ _) hsz') (Nat.le_succ_of_le hsz')) ⟨hm.1, hb, ?_⟩
  have e : vs.toArray ++ ys.toArray = (vs ++ ys).toArray := by simp
  have ho' : (s.heap.update f (Obj.mapSeq fun x => x ++ ys.toArray)).get? f = some { cls := .type "list", data := .seq (vs ++ ys).toArray (if (vs.toArray ++ ys.toArray).size == vs.toArray.size then k else k + 1) } := by
    rw [Heap.get?_update_self _ hm.1 (by rw [mapSeq_app]; rfl), mapSeq_app, e]
  have hsb := Heap.SameBut.update s.heap f (Obj.mapSeq fun x => x ++ ys.toArray)
  refine (fun hN : News h₀ L (s.heap.update f (Obj.mapSeq fun x => x ++ ys.toArray)) ((f, { cls := .type "list", data := .seq (vs ++ ys).toArray (if (vs.toArray ++ ys.toArray).size == vs.toArray.size then k else k + 1) }) :: rest) => h _ _ (F.change hsb hm.2.1 hm.2.2) hN) ?_
  intro q hq
  rcases List.mem_cons.mp hq with rfl | hq
  · exact ⟨ho', hm.2⟩
  · exact ⟨hsb.extBut _ _ (hne q hq) (N q (hs q hq)).1, (N q (hs q hq)).2⟩
end
end
section
open PyProof.V PySem.Spec
local macro_rules | `(tactic| walk_at "subscriptTail Name Constant ref int") => `(tactic| walk_at "m_s0")
def VarsSpec (w : World) (dd : Nat) (T : Int → Int) (word : Str) (ps : List P1) : Prop :=
  ∀ (dp un : Nat) (fr : Option (List Env)) (gd : Option (List Code)) (s : Shared) (al : Led) (b : Addr), dp + dd < recursionLimit → DatIn al (.ref b) (told1 T word ps) → (∀ q ∈ al, s.heap.get? q.1 = some q.2) →
    Calls w ⟨none, dp, fr, gd, un⟩ 33 [.ref b] s [] (NPost s.heap.objs.size (pick (hasB ((ps.flatMap P1.names).map T))))
theorem hasB_mem {ns : List Int} {k : Int} : hasB ns k = true ↔ k ∈ ns := by
  unfold hasB
  rw [List.any_eq_true]
  exact ⟨fun ⟨x, hx, e⟩ => (eq_of_beq e) ▸ hx, fun h => ⟨k, h, beq_self_eq_true k⟩⟩
theorem mem_pickB {ns : List Int} {k : Int} (h6 : ∀ i ∈ ns, 0 ≤ i ∧ i < 6) : k ∈ pick (hasB ns) ↔ k ∈ ns := by
  rw [mem_pick, hasB_mem]
  exact ⟨fun h => h.2, fun h => ⟨h6 k h, h⟩⟩
theorem pick_mem_eq {ns ms : List Int} (h : ∀ k, k ∈ ns ↔ k ∈ ms) : pick (hasB ns) = pick (hasB ms) := pick_congr fun i _ => by
  rw [Bool.eq_iff_iff, hasB_mem, hasB_mem]; exact h i
/-- the names as the walk finds them: those within another already sorted -/
def P1.found (T : Int → Int) : P1 → List Int
  | .p x => x.names.map T
  | .t _ qs => pick (hasB ((qs.flatMap P0.names).map T))
theorem found_mem {T : Int → Int} {ps : List P1} (h6 : ∀ i ∈ ps.flatMap P1.names, 0 ≤ T i ∧ T i < 6) (k : Int) : k ∈ ps.flatMap (P1.found T) ↔ k ∈ (ps.flatMap P1.names).map T := by
  simp only [List.mem_flatMap, List.mem_map]
  constructor
  · rintro ⟨q, hq, hk⟩
    cases q with
    | p x => obtain ⟨i, hi, e⟩ := List.mem_map.mp hk; exact ⟨i, ⟨_, hq, hi⟩, e⟩
    | t v qs =>
      have h6' : ∀ i ∈ (qs.flatMap P0.names).map T, 0 ≤ i ∧ i < 6 := fun i hi => by
        obtain ⟨j, hj, rfl⟩ := List.mem_map.mp hi
        exact h6 j (List.mem_flatMap.mpr ⟨_, hq, hj⟩)
      have hk' := (mem_pickB h6').mp hk
      obtain ⟨i, hi, e⟩ := List.mem_map.mp hk'
      exact ⟨i, ⟨_, hq, hi⟩, e⟩
  · rintro ⟨i, ⟨q, hq, hi⟩, rfl⟩
    refine ⟨q, hq, ?_⟩
    cases q with
    | p x => exact List.mem_map.mpr ⟨i, hi, rfl⟩
    | t v qs =>
      have h6' : ∀ i ∈ (qs.flatMap P0.names).map T, 0 ≤ i ∧ i < 6 := fun i hi => by
        obtain ⟨j, hj, rfl⟩ := List.mem_map.mp hi
        exact h6 j (List.mem_flatMap.mpr ⟨_, hq, hj⟩)
      exact (mem_pickB h6').mpr (List.mem_map.mpr ⟨i, hi, rfl⟩)
theorem vars_step {w : World} {dd : Nat} {T : Int → Int} {word : Str} {ps : List P1} (hdd : 1 ≤ dd) (hsh : ShapeIs word ps) (hsm : Small ps) (hns : (ps.flatMap (P1.found T)).length ≤ 1000) (h6 : ∀ i ∈ ps.flatMap P1.names, 0 ≤ T i ∧ T i < 6) (hrec : ∀ v qs, P1.t v qs ∈ ps → VarsSpec w dd T v (qs.map .p)) : VarsSpec w (dd + 1) T word ps := by
  intro dp un fr gd s al b hroom hb hal
  walk_at "m_enter"
  intro g h₁ G F N hlow hkeep
  (try dsimp only)
  have GG := G
  have hsg : ∀ b o, s.heap.get? b = some o → g.get? b = some o := fun b o e => hkeep b o e (fun _ h => nomatch h)
  have halg : ∀ q ∈ al, g.get? q.1 = some q.2 := fun q hq => hsg _ _ (hal q hq)
  obtain ⟨X, mean, mg, mb, TT⟩ := G
  obtain ⟨_, vs0, kb, hbe, hbm, hball⟩ := datIn_tup hb
  cases hbe
  cases hball with
  | cons h0 hitems =>
  rename_i v0 items
  obtain ⟨t0, rfl⟩ := datIn_str h0
  have hbl : IsTup g b (Value.str word t0 :: items).toArray := ⟨_, halg _ hbm, rfl, _, rfl⟩
  have hil : items.length = ps.length := by rw [hitems.length, List.length_map]
  have hsm1 := hsm.1
  (try k_fold)
  have hx : (shapeOf word).cps.size = items.length := by rw [hsh]; simp [hil]
  iterate 8 (walk_at "m_1")
  rename_i f hp1 lf0 lf1 lf2 hp2 FF NN
  refine For_turns (by k_asm) ?_
  iterate 14 (walk_at "m_1")
  refine shape_use (by walk_at "m_om") GG (by k_asm) (by k_asm) ?_
  intro t1 h2 tk2 F N
  iterate 8 (walk_at "m_1")
  refine slice1_T (s := ⟨_, _, _, _, _⟩) (by k_asm) (by k_asm) hbl ?_ (by with_unfolding_all rfl) (by kmk_pure) (by rw [sizeLine_eq]; omega)
  intro l h3 F N l0 l1
  have hlf : f < l := l0 _ (.head _)
  walk_at "m_1"
  refine zip_M (rest := [(f, listOf ([] : List Value).toArray 0)]) rfl (by k_asm) (by k_asm) (.head _) hx (by walk_at "m_sub")
    (fun i m nx => ∃ ys k, m (Str.ofString "found") = some (.ref f) ∧ nx = [(f, ({ cls := .type "list", data := .seq (List.toArray ys) k } : Obj))] ∧ DatAll [] ys (((ps.take i).flatMap (P1.found T)).map .int))
    ⟨[], 0, rfl, rfl, by simpa using DatAll.nil⟩ ?turn ?done
  case done =>
    rintro h' tk m' nx F N ⟨ys, k, hm, rfl, hd⟩
    rw [map_form hm] at F
    rw [hil, List.take_length] at hd
    (try k_fold)
    iterate 12 (walk_at "m_1")
    have h6f : ∀ i ∈ ps.flatMap (P1.found T), 0 ≤ i ∧ i < 6 := fun i hi => by
      obtain ⟨j, hj, rfl⟩ := List.mem_map.mp ((found_mem h6 i).mp hi)
      exact h6 j hj
    refine set_M rfl (by k_asm) (by k_asm) (.head _) hd h6f ?_
    intro D o h8 tk8 F N l3 l4 hS
    walk_at "m_1"
    refine sortedSet_M rfl (by k_asm) (by k_asm) hS ⟨o, .head _⟩ l4 ?_
    intro D2 vs2 c2 h9 tk9 F N l5 l6 hvs
    rw [pick_mem_eq (found_mem h6)] at hvs
    (try k_fold)
    k_steps
    exact ⟨_, [(D2, { cls := .type "list", data := .seq (List.toArray vs2) c2 })], _, _, rfl, by k_asm, news_sub (by k_asm) (by walk_at "m_sub"), D2, vs2, c2, rfl, l6, rfl, hvs⟩
  case turn =>
    rintro i P c u y m₁ nx h₁ tk₁ own wr hi hP hc hyi ⟨ys, k, hm, rfl, hd⟩ hown hw hnx hoff F N
    rw [map_form hm] at F
    rw [hsh] at hc
    rw [List.getElem?_toArray, List.getElem?_map] at hc
    obtain ⟨q, hq, hqc⟩ : ∃ q, ps[i]? = some q ∧ q.ch = c := by
      cases e : ps[i]? with
      | none => rw [e] at hc; cases hc
      | some q => rw [e] at hc; exact ⟨q, rfl, Option.some.inj hc⟩
    subst hqc
    rw [ch_kind] at hP
    obtain ⟨dy, hdy, hy⟩ := datAll_at hitems hyi
    rw [List.getElem?_map, hq] at hdy
    have hdy' : q.told T = dy := Option.some.inj hdy
    subst hdy'
    have hlen := hd.length
    rw [List.length_map] at hlen
    have hne0 : ∀ q ∈ own, q.1 ≠ f := fun q hq e => hoff _ (List.Mem.head _) q hq (fun e2 => absurd (e.symm.trans e2) (Nat.ne_of_lt hlf)) e
    have htake : (ps.take (i + 1)).flatMap (P1.found T) = (ps.take i).flatMap (P1.found T) ++ q.found T := by rw [List.take_add_one, hq]; simp
    have hle : ((ps.take i).flatMap (P1.found T)).length + (q.found T).length ≤ 1000 := by
      have e : ps.flatMap (P1.found T) = (ps.take (i + 1)).flatMap (P1.found T) ++ (ps.drop (i + 1)).flatMap (P1.found T) := by rw [← List.flatMap_append, List.take_append_drop]
      rw [e, htake, List.length_append, List.length_append] at hns
      omega
    rw [htake]
    rcases q with (i0 | is | d) | ⟨v, qs⟩
    · simp only [P1.kind, P0.kind, P1.told, P0.told, P1.found, P0.names] at hP hy hle ⊢
      obtain ⟨t1, rfl⟩ := datIn_int hy
      (try k_fold)
      iterate 27 (walk_at "m_1")
      refine append_M (vs := ys) own (by k_asm) (by k_asm) (by walk_at "m_in") (by walk_at "m_sub") hne0 (by rw [sizeLine_eq]; omega) ?_
      intro h9 F N
      (try k_fold)
      k_steps
      refine turnEnd_of (nx := [(f, { cls := .type "list", data := .seq (ys ++ [(Value.int (T i0) t1)]).toArray (k + 1) })]) (by k_asm) (by k_asm) (by walk_at "m_sub") (by walk_at "m_sub") (List.forall_mem_cons.mpr ⟨show f ∉ wr from hnx _ (.head _), List.forall_mem_nil _⟩) ⟨ys ++ [(Value.int (T i0) t1)], k + 1, rfl, rfl, by rw [List.map_append]; exact hd.append (DatAll.one (DatIn.int _ _))⟩
    · simp only [P1.kind, P0.kind, P1.told, P0.told, P1.found, P0.names] at hP hy hle ⊢
      obtain ⟨a, vs, ka, rfl, hma, hvs⟩ := datIn_tup hy
      have hvl := hvs.length
      rw [List.length_map] at hvl
      have hvs0 := datAll_ints hvs
      (try k_fold)
      iterate 36 (walk_at "m_1")
      refine extendT_M (vs := ys) own (by k_asm) (by k_asm) (by walk_at "m_in") (by walk_at "m_sub") hne0 (Fr.keep (by k_asm) _ _ (halg _ hma)) (by rw [sizeLine_eq]; omega) ?_
      intro h9 n9 F N
      (try k_fold)
      k_steps
      refine turnEnd_of (nx := [(f, { cls := .type "list", data := .seq (ys ++ vs).toArray n9 })]) (by k_asm) (by k_asm) (by walk_at "m_sub") (by walk_at "m_sub") (List.forall_mem_cons.mpr ⟨show f ∉ wr from hnx _ (.head _), List.forall_mem_nil _⟩) ⟨ys ++ vs, n9, rfl, rfl, by rw [List.map_append]; exact hd.append hvs0⟩
    · simp only [P1.kind, P0.kind, P1.told, P0.told, P1.found, P0.names, List.map_nil, List.append_nil] at hP hy hle ⊢
      (try k_fold)
      k_steps
      refine turnEnd_of (nx := [(f, { cls := .type "list", data := .seq (List.toArray ys) k })]) (by k_asm) (by k_asm) (by walk_at "m_sub") (by walk_at "m_sub") hnx ⟨ys, k, rfl, rfl, hd⟩
    · simp only [P1.kind, P1.told, P1.found] at hP hy hle ⊢
      obtain ⟨b2, rfl⟩ := datIn_ref hy
      have hy2 : DatIn al (.ref b2) (told1 T v (qs.map P1.p)) := by rw [told1, told_p]; exact hy
      (try k_fold)
      iterate 50 (walk_at "m_1")
      refine named_use (hrec v qs (List.mem_of_getElem? hq) _ _ _ _ _ al b2 (by walk_at "m_om") hy2 (fun q hq => Fr.keep (by k_asm) _ _ (halg q hq))) GG (by k_asm) (by k_asm) ?_
      intro a vs k8 h8 tk8 F N l3 l4 hvs
      have hvl := hvs.length
      rw [List.length_map, names_p] at hvl
      rw [names_p] at hvs
      (try k_fold)
      walk_at "m_1"
      refine extendL_M (vs := ys) (ys := vs) (k2 := k8) own (by k_asm) (by k_asm) (by walk_at "m_in") (by walk_at "m_sub") hne0 ((show News _ _ _ _ by k_asm) _ (List.Mem.head _)).1 (by rw [sizeLine_eq]; omega) ?_
      intro h9 n9 F N
      (try k_fold)
      k_steps
      refine turnEnd_of (nx := [(f, { cls := .type "list", data := .seq (ys ++ vs).toArray n9 })]) (by k_asm) (by k_asm) (by walk_at "m_sub") (by walk_at "m_sub") (List.forall_mem_cons.mpr ⟨show f ∉ wr from hnx _ (.head _), List.forall_mem_nil _⟩) ⟨ys ++ vs, n9, rfl, rfl, by rw [List.map_append]; exact hd.append hvs⟩
theorem vars_flat {w : World} {T : Int → Int} {v : Str} {qs : List P0} (hsh : ShapeIs v (qs.map .p)) (hsm : Small (qs.map .p)) (hns : ((qs.map P1.p).flatMap (P1.found T)).length ≤ 1000) (h6 : ∀ i ∈ (qs.map P1.p).flatMap P1.names, 0 ≤ T i ∧ T i < 6) : VarsSpec w 2 T v (qs.map .p) :=
  vars_step (Nat.le_refl 1) hsh hsm hns h6 fun v' qs' h => by obtain ⟨x, _, e⟩ := List.mem_map.mp h; cases e
theorem vars_all {w : World} {T : Int → Int} {word : Str} {ps : List P1} (hsh : ShapeIs word ps) (hsm : Small ps) (hns : (ps.flatMap (P1.found T)).length ≤ 1000) (h6 : ∀ i ∈ ps.flatMap P1.names, 0 ≤ T i ∧ T i < 6)
    (hn : ∀ v qs, P1.t v qs ∈ ps → ShapeIs v (qs.map .p) ∧ Small (qs.map .p) ∧ ((qs.map P1.p).flatMap (P1.found T)).length ≤ 1000) : VarsSpec w 3 T word ps :=
  vars_step (by decide) hsh hsm hns h6 fun v qs h => vars_flat (hn v qs h).1 (hn v qs h).2.1 (hn v qs h).2.2 fun i hi => h6 i (by
    rw [names_p] at hi
    exact List.mem_flatMap.mpr ⟨_, h, hi⟩)
end
section
open PyProof.V PySem.Spec
section
variable {prog : Program} {w : World} {A : Around} {E : Value → Shared → Prop} {s : Shared} {h₀ : Heap} {L : Addr} {m : Str → Option Value}
theorem isTup_M {a : Addr} {items : Array Value} {Q : Value → Shared → Prop} (F : Fr h₀ L s.heap m) (ht : IsTup h₀ a items) (h : Q (.bool true) s) :
    wpAny (model prog w) A (call (.builtin "isinstance") [.ref a, .type "tuple"]) Q E s :=
  call_isinstance (isinstance_true (Tx := "tuple") PySem.F.isi_meta_tuple PySem.F.sub_tuple_tuple) ⟨(ht.keeps (Fr.keep F)).typeIs, h⟩
theorem lenTup_M {a : Addr} {l : List Value} {Q : Value → Shared → Prop} (F : Fr h₀ L s.heap m) (ht : IsTup h₀ a l.toArray) (n : Nat) (hn : l.length = n) (h6 : n ≤ 2000) (h : Q (.int (n : Int) (s.toks + 1)) { s with toks := s.toks + 1 + 1 }) :
    wpAny (model prog w) A (call (.builtin "len") [.ref a]) Q E s := by
  subst hn
  exact len_tuple (ht.keeps (Fr.keep F)) (by rw [List.size_toArray]; exact Int.lt_of_le_of_lt (Int.ofNat_le.mpr h6) (by decide)) (by rw [List.size_toArray]; exact h)
end
local macro_rules | `(tactic| walk_at "call builtin:isinstance") => `(tactic| (k_here; (with_reducible show wpAny _ _ (call (Value.builtin "isinstance") [Value.ref _, Value.type "tuple"]) _ _ _); k_dflt (refine' isTup_M ?F ?t ?_; (case F => k_asm); (case t => with_reducible assumption)); k_whole))
/-- the end of a test that makes nothing -/
def BPost (b : Bool) (r : Value) (led : Led) : Prop := led = [] ∧ r = .bool b
theorem test_use {w : World} {A : Around} {f : Addr} {args : List Value} {s : Shared} {b : Bool} (C : Calls w A f args s [] (BPost b)) {h₀ : Heap} {L : Addr} {m : Str → Option Value} {Q E : Value → Shared → Prop} {news : Led}
    (G : G0 w h₀) (F : Fr h₀ L s.heap m) (N : News h₀ L s.heap news)
    (ret : ∀ h' tk', Fr h₀ L h' m → News h₀ L h' news → Q (.bool b) { s with heap := h', toks := tk' }) :
    wpAny (model PySem.Challenge.rw_pc0027_01.row.prog w) A (call (.ref f) args) Q E s :=
  C h₀ L m news Q E G F N (fun _ _ _ h => nomatch h) fun r led h' tk' F' N' ⟨el, e⟩ => by
    subst e; subst el
    exact ret h' tk' F' N'
theorem num_call {w : World} {dp un : Nat} {fr : Option (List Env)} {gd : Option (List Code)} {s : Shared} {i : Int} {t : Tok} (hroom : dp + 1 < recursionLimit) :
    Calls w ⟨none, dp, fr, gd, un⟩ 61 [.int i t] s [] (BPost true) := by
  walk_at "m_enter"
  intro g h₁ G F N hlow hkeep
  (try dsimp only)
  obtain ⟨X, mean, mg, mb, T⟩ := G
  (try k_fold)
  k_steps
  exact done_of (led := []) (by k_asm) (by k_asm) (fun _ h => nomatch h) ⟨rfl, rfl⟩
theorem var_call {w : World} {dp un : Nat} {fr : Option (List Env)} {gd : Option (List Code)} {s : Shared} {i : Int} {t u : Tok} (hroom : dp + 2 < recursionLimit) (h0 : 0 ≤ i) (h6 : i < 6) :
    Calls w ⟨none, dp, fr, gd, un⟩ 73 [.int i t, .int 6 u] s [] (BPost true) := by
  walk_at "m_enter"
  intro g h₁ G F N hlow hkeep
  (try dsimp only)
  have GG := G
  obtain ⟨X, mean, mg, mb, T⟩ := G
  (try k_fold)
  iterate 10 (walk_at "m_1")
  refine test_use (num_call (by walk_at "m_om")) GG (by k_asm) (by k_asm) ?_
  intro h2 tk2 F N
  (try k_fold)
  k_steps
  exact done_of (led := []) (by k_asm) (by k_asm) (fun _ h => nomatch h) ⟨rfl, by rw [decide_eq_true h6]⟩
theorem bools_true : ∀ {ys : List Value}, (∀ (i : Nat) (y : Value), ys[i]? = some y → y = .bool true) → LSm.BoolsAre ys (List.replicate ys.length true)
  | [], _ => .nil
  | y :: ys, h => by
    have e := h 0 y rfl
    subst e
    exact .cons true (bools_true fun i z hz => h (i + 1) z hz)
theorem row_call {w : World} {dp un : Nat} {fr : Option (List Env)} {gd : Option (List Code)} {s : Shared} {al : Led} {a : Addr} {is : List Int} (hroom : dp + 2 < recursionLimit) (hd : DatIn al (.ref a) (tupI is)) (hal : ∀ q ∈ al, s.heap.get? q.1 = some q.2) (hn : is.length ≤ 1000) :
    Calls w ⟨none, dp, fr, gd, un⟩ 66 [.ref a] s [] (BPost true) := by
  walk_at "m_enter"
  intro g h₁ G F N hlow hkeep
  (try dsimp only)
  have GG := G
  have hsg : ∀ b o, s.heap.get? b = some o → g.get? b = some o := fun b o e => hkeep b o e (fun _ h => nomatch h)
  have halg : ∀ q ∈ al, g.get? q.1 = some q.2 := fun q hq => hsg _ _ (hal q hq)
  obtain ⟨X, mean, mg, mb, T⟩ := G
  obtain ⟨_, vs, ka, he, hma, hvs⟩ := datIn_tup hd
  cases he
  have hvl := hvs.length
  rw [List.length_map] at hvl
  have hta : IsTup g a vs.toArray := ⟨_, halg _ hma, rfl, _, rfl⟩
  (try k_fold)
  iterate 19 (walk_at "m_1")
  refine listComp_T (by k_asm) (by with_unfolding_all rfl) (by decide) (by rfl) (by decide) (by rfl) ?_
  walk_at "m_1"
  refine compT_flat (fun i y => y = .bool true) [] rfl (by k_asm) (by k_asm) hta (by rw [sizeLine_eq]; omega) (by walk_at "m_sub") ?_ ?_
  · intro g' i2 v C oC m₂ h2 tk2 news Q E hv hNC hx F N hC hmust ret
    obtain ⟨dj, hdj, hvd⟩ := datAll_at hvs hv
    rw [List.getElem?_map] at hdj
    cases hj : is[i2]? with
    | none => rw [hj] at hdj; cases hdj
    | some j =>
    rw [hj] at hdj
    cases hdj
    obtain ⟨t3, rfl⟩ := datIn_int hvd
    (try k_fold)
    iterate 8 (walk_at "m_1")
    refine test_use (num_call (by walk_at "m_om")) GG (by k_asm) (by k_asm) ?_
    intro h3 tk3 F N
    exact ret _ _ _ rfl (by k_asm) (by k_asm)
  · intro D h2 tk2 ys2 F N hap hl2 hr2
    (try k_fold)
    walk_at "m_1"
    refine LSm.all_bools (bs := List.replicate ys2.length true) (by k_asm) (by k_asm) rfl ⟨_, ((show News _ _ _ _ by k_asm) _ (List.Mem.head _)).1, rfl, _, rfl⟩ (bools_true fun i y hy => hr2 i y hy) ?_
    intro h5 tk5 F N
    (try k_fold)
    k_steps
    exact done_of (led := []) (by k_asm) (by k_asm) (fun _ h => nomatch h) ⟨rfl, by simp⟩

theorem strengths_tup {w : World} {h : Heap} (X : (mk.heap_1 w.params).In h) : ∃ t1 t2, IsTup h 35 [Value.str (Str.ofString "bounds") t1, Value.str (Str.ofString "values") t2].toArray := by
  walk_at "m_fill"
  exact ⟨_, _, _, X 35 _ (by k_is), rfl, _, rfl⟩
theorem linear_tup {w : World} {h : Heap} (X : (mk.heap_1 w.params).In h) : ∃ t1 t2 t3, IsTup h 34 [Value.str (Str.ofString "linear_le") t1, Value.str (Str.ofString "linear_eq") t2, Value.str (Str.ofString "linear_ne") t3].toArray := by
  walk_at "m_fill"
  exact ⟨_, _, _, _, X 34 _ (by k_is), rfl, _, rfl⟩
/-- a plain part as a kind of FORMS wants it -/
inductive Fit0 : Nat → Dat → Prop
  | x {i : Int} : 0 ≤ i → i < 6 → Fit0 120 (.int i)
  | X {is : List Int} : (∀ i ∈ is, 0 ≤ i ∧ i < 6) → is.length ≤ 1000 → Fit0 88 (tupI is)
  | n {i : Int} : Fit0 110 (.int i)
  | N {is : List Int} : is.length ≤ 1000 → Fit0 78 (tupI is)
  | R {rows : List Dat} : (∀ r ∈ rows, ∃ is : List Int, r = tupI is ∧ is.length ≤ 1000) → rows.length ≤ 1000 → Fit0 82 (.tuple rows)
  | s {x : Str} : anyOf [Str.ofString "bounds", Str.ofString "values"] x → Fit0 115 (.str x)
theorem fits_call {w : World} {dp un : Nat} {fr : Option (List Env)} {gd : Option (List Code)} {s : Shared} {al : Led} {c : Nat} {d : Dat} {v : Value} {tc u : Tok} (hroom : dp + 3 < recursionLimit) (hf : Fit0 c d) (hd : DatIn al v d) (hal : ∀ q ∈ al, s.heap.get? q.1 = some q.2) :
    Calls w ⟨none, dp, fr, gd, un⟩ 78 [.str ⟨#[c]⟩ tc, v, .int 6 u] s [] (BPost true) := by
  walk_at "m_enterC"
  intro g h₁ tk cells G F N Y hlow hkeep
  (try dsimp only)
  have GG := G
  have hsg : ∀ b o, s.heap.get? b = some o → g.get? b = some o := fun b o e => hkeep b o e (fun _ h => nomatch h)
  have halg : ∀ q ∈ al, g.get? q.1 = some q.2 := fun q hq => hsg _ _ (hal q hq)
  obtain ⟨X, mean, mg, mb, T⟩ := G
  obtain ⟨o₁, hE, d1⟩ := CellsAre.one Y
  subst hE
  (try simp only [List.cons_append, List.nil_append] at N)
  cases hf with
  | x h0 h6 =>
    obtain ⟨t3, rfl⟩ := datIn_int hd
    (try k_fold)
    iterate 20 (walk_at "m_1")
    refine test_use (var_call (by walk_at "m_om") h0 h6) GG (by k_asm) (by k_asm) ?_
    intro h2 tk2 F N
    (try k_fold)
    k_steps
    exact done_of (led := []) (by k_asm) (by k_asm) (fun _ h => nomatch h) ⟨rfl, rfl⟩
  | @X is h0 h6 =>
    obtain ⟨_, vs, ka, he, hma, hvs⟩ := datIn_tup hd
    cases he
    have hvl := hvs.length
    (try rw [List.length_map] at hvl)
    have hta : IsTup g _ vs.toArray := ⟨_, halg _ hma, rfl, _, rfl⟩
    (try k_fold)
    iterate 38 (walk_at "m_1")
    refine listComp_T (by k_asm) (by with_unfolding_all rfl) (by decide) (by rfl) (by decide) (by rfl) ?_
    walk_at "m_1"
    refine compT_flat (fun i y => y = .bool true) [(s.heap.objs.size + 1, o₁)] rfl (by k_asm) (by k_asm) hta (by rw [sizeLine_eq]; omega) (by walk_at "m_sub") ?_ ?_
    · intro g' i2 v C oC m₂ h2 tk2 news Q E hv hNC hx F N hC hmust ret
      have hcell := hmust _ (.head _)
      obtain ⟨dj, hdj, hvd⟩ := datAll_at hvs hv
      rw [List.getElem?_map] at hdj
      cases hj : is[i2]? with
      | none => rw [hj] at hdj; cases hdj
      | some j =>
      rw [hj] at hdj
      cases hdj
      obtain ⟨t3, rfl⟩ := datIn_int hvd
      have hj6 := h0 j (List.mem_of_getElem? hj)
      (try k_fold)
      iterate 10 (walk_at "m_1")
      refine test_use (var_call (by walk_at "m_om") hj6.1 hj6.2) GG (by k_asm) (by k_asm) ?_
      intro h3 tk3 F N
      exact ret _ _ _ rfl (by k_asm) (by k_asm)
    · intro D h2 tk2 ys2 F N hap hl2 hr2
      (try k_fold)
      walk_at "m_1"
      refine LSm.all_bools (bs := List.replicate ys2.length true) (by k_asm) (by k_asm) rfl ⟨_, ((show News _ _ _ _ by k_asm) _ (List.Mem.head _)).1, rfl, _, rfl⟩ (bools_true fun i y hy => hr2 i y hy) ?_
      intro h5 tk5 F N
      (try k_fold)
      k_steps
      exact done_of (led := []) (by k_asm) (by k_asm) (fun _ h => nomatch h) ⟨rfl, by simp⟩
  | n =>
    obtain ⟨t3, rfl⟩ := datIn_int hd
    (try k_fold)
    iterate 38 (walk_at "m_1")
    refine test_use (num_call (by walk_at "m_om")) GG (by k_asm) (by k_asm) ?_
    intro h2 tk2 F N
    (try k_fold)
    k_steps
    exact done_of (led := []) (by k_asm) (by k_asm) (fun _ h => nomatch h) ⟨rfl, rfl⟩
  | N h =>
    obtain ⟨a, rfl⟩ := datIn_ref hd
    (try k_fold)
    iterate 48 (walk_at "m_1")
    refine test_use (row_call (al := al) (by walk_at "m_om") hd (fun q hq => Fr.keep (by k_asm) _ _ (halg q hq)) h) GG (by k_asm) (by k_asm) ?_
    intro h2 tk2 F N
    (try k_fold)
    k_steps
    exact done_of (led := []) (by k_asm) (by k_asm) (fun _ h => nomatch h) ⟨rfl, rfl⟩
  | R h1 h6 =>
    obtain ⟨_, vs, ka, he, hma, hvs⟩ := datIn_tup hd
    cases he
    have hvl := hvs.length
    (try rw [List.length_map] at hvl)
    have hta : IsTup g _ vs.toArray := ⟨_, halg _ hma, rfl, _, rfl⟩
    (try k_fold)
    iterate 68 (walk_at "m_1")
    refine listComp_T (by k_asm) (by with_unfolding_all rfl) (by decide) (by rfl) (by decide) (by rfl) ?_
    walk_at "m_1"
    refine compT_flat (fun i y => y = .bool true) [(s.heap.objs.size + 1, o₁)] rfl (by k_asm) (by k_asm) hta (by rw [sizeLine_eq]; omega) (by walk_at "m_sub") ?_ ?_
    · intro g' i2 v C oC m₂ h2 tk2 news Q E hv hNC hx F N hC hmust ret
      have hcell := hmust _ (.head _)
      obtain ⟨dj, hdj, hvd⟩ := datAll_at hvs hv
      obtain ⟨js, rfl, hjl⟩ := h1 dj (List.mem_of_getElem? hdj)
      obtain ⟨a2, rfl⟩ := datIn_ref hvd
      (try k_fold)
      iterate 8 (walk_at "m_1")
      refine test_use (row_call (al := al) (by walk_at "m_om") hvd (fun q hq => Fr.keep (by k_asm) _ _ (halg q hq)) hjl) GG (by k_asm) (by k_asm) ?_
      intro h3 tk3 F N
      exact ret _ _ _ rfl (by k_asm) (by k_asm)
    · intro D h2 tk2 ys2 F N hap hl2 hr2
      (try k_fold)
      walk_at "m_1"
      refine LSm.all_bools (bs := List.replicate ys2.length true) (by k_asm) (by k_asm) rfl ⟨_, ((show News _ _ _ _ by k_asm) _ (List.Mem.head _)).1, rfl, _, rfl⟩ (bools_true fun i y hy => hr2 i y hy) ?_
      intro h5 tk5 F N
      (try k_fold)
      k_steps
      exact done_of (led := []) (by k_asm) (by k_asm) (fun _ h => nomatch h) ⟨rfl, by simp⟩
  | s h =>
    obtain ⟨t3, rfl⟩ := datIn_str hd
    obtain ⟨t4, t5, hst⟩ := strengths_tup X
    (try k_fold)
    iterate 77 (walk_at "m_1")
    refine in_tuple_strs (ys := [Str.ofString "bounds", Str.ofString "values"]) (hst.keeps (Fr.keep (by k_asm))) (.cons _ _ (.cons _ _ .nil)) ?_
    exact done_of (led := []) (by k_asm) (by k_asm) (fun _ h => nomatch h) ⟨rfl, by rw [h]⟩
end
section
open PyProof.V PySem.Spec
section
variable {prog : Program} {w : World} {A : Around} {E : Value → Shared → Prop} {s : Shared} {env : Env} {g : Heap} {body : List Stmt} {Q : Flow → Shared → Prop}
/-- an item of a tuple of the base -/
theorem itemN_T {h₀ : Heap} {L : Addr} {m : Str → Option Value} {value slice : PySem.Expr} {t : Addr} {l : List Value} {k : Int} {u : Tok} {v : Value} {Q : Value → Shared → Prop} (j : Nat) (F : Fr h₀ L s.heap m) (hl : IsTup h₀ t l.toArray) (hk : k = (j : Int)) (hv : l[j]? = some v) (hj : j ≤ 1000000) (h : Q v s)
    (hs : subscripted slice false (.ref t) (.int k u) = operate [.ref t, .int k u] (getItem (.ref t) (.int k u))) :
    wpAny (model prog w) A (subscriptTail value slice (.ref t) (.int k u)) Q E s := by
  subst hk
  have hlt : j < l.length := (List.getElem?_eq_some_iff.mp hv).1
  refine item_tupleT (l := l) (k := (j : Int)) (j := j) (x := v) (hl.keeps (Fr.keep F)) (by omega) (by omega) ?_ hv h hs
  unfold seqIndex?
  have h1 : ¬ ((j : Int) < 0) := by omega
  simp [h1, hlt]
theorem enum_M {x : Str} {t : Tok} {elts : List PySem.Expr} {ek : Nat} {epos : Pos} {m : Str → Option Value} {news rest : Led}
    (hh : A.handled = none) (F : Fr g env.locals s.heap m) (N : News g env.locals s.heap news) (hrs : ∀ q ∈ rest, q ∈ news)
    (J : Nat → (Str → Option Value) → Led → Prop) (h0 : J 0 m rest)
    (turn : ∀ i T c tt u m₁ nx h₁ tk₁ own wr, i < x.cps.size → IsTup h₁ T #[.int (i : Int) tt, .str ⟨#[c]⟩ u] → x.cps[i]? = some c → J i m₁ nx → (∀ p ∈ own, p.1 ∈ wr) → (∀ b ∈ wr, ∃ o, (b, o) ∈ own) → (∀ p ∈ nx, p.1 ∉ wr) →
      Fr g env.locals h₁ m₁ → News g env.locals h₁ (own ++ nx) →
      wpAny (model prog w) A (assign (.Tuple elts ek epos) env (.ref T)) (fun _ s₃ => wpAny (model prog w) A (execs body env) (TurnEnd g env.locals wr own (J (i + 1)) { s with heap := h₁, toks := tk₁ } Q) E s₃) E { s with heap := h₁, toks := tk₁ })
    (done : ∀ h' tk m' nx, Fr g env.locals h' m' → News g env.locals h' nx → J x.cps.size m' nx → Q .next { s with heap := h', toks := tk }) :
    wpAny (model prog w) A (call (.type "enumerate") [.str x t]) (fun v s₁ => wpAny (model prog w) A (pyIter v) (fun it s₂ => TurnsAt prog w A g env (.Tuple elts ek epos) body Q E it s₂) E s₁) E s := by
  have hgs : @LE.le Nat _ g.objs.size s.heap.objs.size := Nat.le_trans F.above (Nat.le_of_lt F.ns.lt)
  have hLs : @LT.lt Nat _ env.locals s.heap.objs.size := F.ns.lt
  have nil : ∀ b, s.heap.objs.size ≤ b → g.get? b = none := fun b hb => by
    cases e : g.get? b with
    | none => rfl
    | some o => exact absurd (Heap.lt_size e) (Nat.not_lt.mpr (Nat.le_trans hgs hb))
  refine call_enumerate_str fun h' he hi hsz hk => ?_
  refine wpAny_pyIter_enum he ?_
  have D1 := draws_str (prog := prog) (w := w) (A := A.in1) hh s.heap.objs.size x t
  have W := KTurns.ofWalksU (elts := elts) (k := ek) (pos := epos) (WalksT.enumerateD D1 (s.heap.objs.size + 1) (by show ¬ (@Eq Nat _ _); omega) (by simp only [List.mem_singleton]; show ¬ (@Eq Nat _ _); omega) (by simp)).toU
  refine turns_M (m := m) (news := rest) W ?_ ?_ ?_ ?_ ?_ (F.keeps hk) (fun q hq => ⟨hk _ _ (N q (hrs q hq)).1, (N q (hrs q hq)).2⟩) J h0 ?_ done
  · intro hm
    simp only [List.mem_cons, List.not_mem_nil, or_false] at hm
    rcases hm with e | e
    · exact absurd (e : env.locals = s.heap.objs.size + 1) (by show ¬ (@Eq Nat _ _); omega)
    · exact absurd (e : env.locals = s.heap.objs.size) (by show ¬ (@Eq Nat _ _); omega)
  · intro b hb
    simp only [List.mem_cons, List.not_mem_nil, or_false] at hb
    rcases hb with e | e <;> subst e <;> exact nil _ (by show @LE.le Nat _ _ _; omega)
  · rintro i h ⟨⟨old, he'⟩, ⟨o2, ho2, _⟩⟩ b' hb
    simp only [List.mem_cons, List.not_mem_nil, or_false] at hb
    rcases hb with e | e <;> subst e
    · exact ⟨_, he'⟩
    · exact ⟨_, ho2⟩
  · intro q hq hm
    have hq' : @LT.lt Nat _ q.1 s.heap.objs.size := Heap.lt_size (N q (hrs q hq)).1
    simp only [List.mem_cons, List.not_mem_nil, or_false] at hm
    rcases hm with e | e <;> rw [e] at hq' <;> exact absurd hq' (by show ¬ (@LT.lt Nat _ _ _); omega)
  · exact ⟨⟨_, he⟩, hi⟩
  · rintro i v m₁ nx h₁ tk₁ own hi ⟨T, vals, rfl, ⟨tt, y, ⟨c, u, hc, rfl⟩, rfl⟩, hT⟩ hJ hown hw hnx F₁ N₁
    exact turn i T c tt u m₁ nx h₁ tk₁ own _ hi hT hc hJ hown hw hnx F₁ N₁
end
end
section
open PyProof.V PySem.Spec
/-- FORMS, as its rows -/
def formsL : List (Str × PyData) := ([("linear_le", "NXn"), ("linear_eq", "NXn"), ("linear_ne", "NXn"), ("times", "xxx"), ("div", "xxx"), ("mod", "xxx"), ("abs", "xx"), ("max", "Xx"), ("min", "Xx"), ("element", "xXx"), ("element_of", "xNx"), ("table", "XR"), ("all_different", "Xs"), ("count", "Xnx"), ("nvalue", "Xx"), ("cardinality", "XNNN"), ("cumulative", "XNNn"), ("disjunctive", "XN"), ("circuit", "X"), ("inverse", "XX"), ("regular", "XnnRnN"), ("lex_le", "XX"), ("lex_lt", "XX"), ("increasing", "X"), ("precede", "nnX"), ("clause", "XX"), ("and", "Xx"), ("or", "Xx"), ("xor", "xxx"), ("reif", "xt"), ("imp", "xt")] : List (String × String)).map fun p => (Str.ofString p.1, PyData.str (Str.ofString p.2))
abbrev formsD : List (PyData × PyData) := formsL.map fun p => (PyData.str p.1, p.2)
theorem forms_tab {w : World} {h : Heap} (X : (mk.heap_1 w.params).In h) : StrTab PySem.Challenge.rw_pc0027_01.row.prog w h 36 formsD :=
  kt_tab_in (a := 36) (D := formsL) _ w X (by kernel_rfl) (by decide +kernel) (by kernel_rfl)
/-- the form of a word -/
def formIs (x : Str) (cs : List Nat) : Bool := match lookup (.str x) formsD with
  | some (.str y) => y == ⟨cs.toArray⟩
  | _ => false
theorem form_look {x : Str} {cs : List Nat} (h : formIs x cs = true) : lookup (.str x) formsD = some (.str ⟨cs.toArray⟩) := by
  unfold formIs at h
  split at h
  · rename_i y e; rw [e, eq_of_beq h]
  · cases h
theorem forms_of {l : List Str} {x : Str} {cs : List Nat} (hall : (l.all fun y => formIs y cs) = true) (h : anyOf l x) : lookup (.str x) formsD = some (.str ⟨cs.toArray⟩) :=
  form_look (List.all_eq_true.mp hall x (anyOf_eq h))
theorem lin_form {x : Str} (h : anyOf linWords x) : lookup (.str x) formsD = some (.str ⟨[78, 88, 110].toArray⟩) := forms_of (by decide +kernel) h
/-- each part fits its place in the form -/
def FitAll (fit : Nat → Dat → Prop) (cs : List Nat) (ds : List Dat) : Prop := cs.length = ds.length ∧ ∀ (i : Nat) (c : Nat) (d : Dat), cs[i]? = some c → ds[i]? = some d → fit c d
theorem fitAll_nil {fit : Nat → Dat → Prop} : FitAll fit [] [] := ⟨rfl, fun i c d h => by simp at h⟩
theorem fitAll_cons {fit : Nat → Dat → Prop} {c : Nat} {d : Dat} {cs : List Nat} {ds : List Dat} (h : fit c d) (r : FitAll fit cs ds) : FitAll fit (c :: cs) (d :: ds) :=
  ⟨by rw [List.length_cons, List.length_cons, r.1], fun i c' d' hc hd => by
    cases i with
    | zero => cases hc; cases hd; exact h
    | succ i => exact r.2 i c' d' hc hd⟩
theorem rowD_len {d : Dat} (h : RowD d) : ∃ is : List Int, d = tupI is ∧ is.length ≤ 1000 := let ⟨is, e, hl, _⟩ := h; ⟨is, e, by omega⟩
theorem form0 {w : Str} {ps : List P0} (h : Ok0 w ps) : ∃ cs, lookup (.str w) formsD = some (.str ⟨cs.toArray⟩) ∧ FitAll Fit0 cs (ps.map (P0.told id)) := by
  have big : ∀ {is : List Int}, Vars is → is.length ≤ 1000 := fun h => Nat.le_trans h.2 (by decide)
  cases h with
  | lin hw hl hv => exact ⟨_, lin_form hw, fitAll_cons (.N (by rw [hl]; exact big hv)) (fitAll_cons (by rw [P0.told, List.map_id]; exact .X hv.1 (big hv)) (fitAll_cons .n fitAll_nil))⟩
  | tri hw hi hj hk => exact ⟨[120, 120, 120], forms_of (by decide +kernel) hw, fitAll_cons (.x hi.1 hi.2) (fitAll_cons (.x hj.1 hj.2) (fitAll_cons (.x hk.1 hk.2) fitAll_nil))⟩
  | abs hw hi hj => exact ⟨[120, 120], forms_of (l := [Str.ofString "abs"]) (by decide +kernel) (by rw [eq_of_beq hw]; decide +kernel), fitAll_cons (.x hi.1 hi.2) (fitAll_cons (.x hj.1 hj.2) fitAll_nil)⟩
  | el hw hi hv hj => exact ⟨[120, 88, 120], forms_of (l := [Str.ofString "element"]) (by decide +kernel) (by rw [eq_of_beq hw]; decide +kernel), fitAll_cons (.x hi.1 hi.2) (fitAll_cons (by rw [P0.told, List.map_id]; exact .X hv.1 (big hv)) (fitAll_cons (.x hj.1 hj.2) fitAll_nil))⟩
  | elof hw hi hj ha => exact ⟨[120, 78, 120], forms_of (l := [Str.ofString "element_of"]) (by decide +kernel) (by rw [eq_of_beq hw]; decide +kernel), fitAll_cons (.x hi.1 hi.2) (fitAll_cons (.N (by omega)) (fitAll_cons (.x hj.1 hj.2) fitAll_nil))⟩
  | prec hw hv => exact ⟨[110, 110, 88], forms_of (l := [Str.ofString "precede"]) (by decide +kernel) (by rw [eq_of_beq hw]; decide +kernel), fitAll_cons .n (fitAll_cons .n (fitAll_cons (by rw [P0.told, List.map_id]; exact .X hv.1 (big hv)) fitAll_nil))⟩
  | two hw hl hv hu => exact ⟨[88, 88], forms_of (by decide +kernel) hw, fitAll_cons (by rw [P0.told, List.map_id]; exact .X hv.1 (big hv)) (fitAll_cons (by rw [P0.told, List.map_id]; exact .X hu.1 (big hu)) fitAll_nil)⟩
  | one hw hv => exact ⟨[88], forms_of (by decide +kernel) hw, fitAll_cons (by rw [P0.told, List.map_id]; exact .X hv.1 (big hv)) fitAll_nil⟩
  | alld hw hv hx => exact ⟨[88, 115], forms_of (l := [Str.ofString "all_different"]) (by decide +kernel) (by rw [eq_of_beq hw]; decide +kernel), fitAll_cons (by rw [P0.told, List.map_id]; exact .X hv.1 (big hv)) (fitAll_cons (.s hx) fitAll_nil)⟩
  | table hw hv hr hl => exact ⟨[88, 82], forms_of (l := [Str.ofString "table"]) (by decide +kernel) (by rw [eq_of_beq hw]; decide +kernel), fitAll_cons (by rw [P0.told, List.map_id]; exact .X hv.1 (big hv)) (fitAll_cons (.R (fun r hrr => let ⟨a, e, ha⟩ := hr r hrr; ⟨a, e, by rw [ha]; exact big hv⟩) (by omega)) fitAll_nil)⟩
  | disj hw hv hl => exact ⟨[88, 78], forms_of (l := [Str.ofString "disjunctive"]) (by decide +kernel) (by rw [eq_of_beq hw]; decide +kernel), fitAll_cons (by rw [P0.told, List.map_id]; exact .X hv.1 (big hv)) (fitAll_cons (.N (by rw [hl]; exact big hv)) fitAll_nil)⟩
  | count hw hv hj => exact ⟨[88, 110, 120], forms_of (l := [Str.ofString "count"]) (by decide +kernel) (by rw [eq_of_beq hw]; decide +kernel), fitAll_cons (by rw [P0.told, List.map_id]; exact .X hv.1 (big hv)) (fitAll_cons .n (fitAll_cons (.x hj.1 hj.2) fitAll_nil))⟩
  | card hw hv h1 h2 h3 => exact ⟨[88, 78, 78, 78], forms_of (l := [Str.ofString "cardinality"]) (by decide +kernel) (by rw [eq_of_beq hw]; decide +kernel), fitAll_cons (by rw [P0.told, List.map_id]; exact .X hv.1 (big hv)) (fitAll_cons (.N (by omega)) (fitAll_cons (.N (by omega)) (fitAll_cons (.N (by omega)) fitAll_nil)))⟩
  | cumul hw hv h1 h2 => exact ⟨[88, 78, 78, 110], forms_of (l := [Str.ofString "cumulative"]) (by decide +kernel) (by rw [eq_of_beq hw]; decide +kernel), fitAll_cons (by rw [P0.told, List.map_id]; exact .X hv.1 (big hv)) (fitAll_cons (.N (by rw [h1]; exact big hv)) (fitAll_cons (.N (by rw [h2]; exact big hv)) (fitAll_cons .n fitAll_nil)))⟩
  | agg hw hne hv hj => exact ⟨[88, 120], forms_of (by decide +kernel) hw, fitAll_cons (by rw [P0.told, List.map_id]; exact .X hv.1 (big hv)) (fitAll_cons (.x hj.1 hj.2) fitAll_nil)⟩
  | reg hw hv r1 r2 => exact ⟨[88, 110, 110, 82, 110, 78], forms_of (l := [Str.ofString "regular"]) (by decide +kernel) (by rw [eq_of_beq hw]; decide +kernel), fitAll_cons (by rw [P0.told, List.map_id]; exact .X hv.1 (big hv)) (fitAll_cons .n (fitAll_cons .n (fitAll_cons (.R (fun r hr => by
      rcases List.mem_cons.mp hr with rfl | hr
      · exact rowD_len r1
      · rw [List.mem_singleton.mp hr]; exact rowD_len r2) (by simp)) (fitAll_cons .n (fitAll_cons (.N (is := [_]) (by simp)) fitAll_nil)))))⟩
end
section
open PyProof.V PySem.Spec
theorem shapes_of {l : List Str} {x : Str} {y : Str} (hall : (l.all fun z => shapeOf z == y) = true) (h : anyOf l x) : shapeOf x = y :=
  eq_of_beq (List.all_eq_true.mp hall x (anyOf_eq h))
theorem one_word {x : Str} {y : String} (h : (x == Str.ofString y) = true) : anyOf [Str.ofString y] x := by rw [eq_of_beq h]; exact anyOf_mem (List.Mem.head _)
theorem shape0 {w : Str} {ps : List P0} (h : Ok0 w ps) : ShapeIs w (ps.map .p) := by
  unfold ShapeIs
  cases h with
  | lin hw hl hv => exact shapes_of (y := ⟨[110, 86, 110].toArray⟩) (by decide +kernel) hw
  | tri hw hi hj hk => exact shapes_of (y := ⟨[118, 118, 118].toArray⟩) (by decide +kernel) hw
  | abs hw hi hj => exact shapes_of (y := ⟨[118, 118].toArray⟩) (by decide +kernel) (one_word hw)
  | el hw hi hv hj => exact shapes_of (y := ⟨[118, 86, 118].toArray⟩) (by decide +kernel) (one_word hw)
  | elof hw hi hj ha => exact shapes_of (y := ⟨[118, 110, 118].toArray⟩) (by decide +kernel) (one_word hw)
  | prec hw hv => exact shapes_of (y := ⟨[110, 110, 86].toArray⟩) (by decide +kernel) (one_word hw)
  | two hw hl hv hu => exact shapes_of (y := ⟨[86, 86].toArray⟩) (by decide +kernel) hw
  | one hw hv => exact shapes_of (y := ⟨[86].toArray⟩) (by decide +kernel) hw
  | alld hw hv hx => exact shapes_of (y := ⟨[86, 110].toArray⟩) (by decide +kernel) (one_word hw)
  | table hw hv hr hl => exact shapes_of (y := ⟨[86, 110].toArray⟩) (by decide +kernel) (one_word hw)
  | disj hw hv hl => exact shapes_of (y := ⟨[86, 110].toArray⟩) (by decide +kernel) (one_word hw)
  | count hw hv hj => exact shapes_of (y := ⟨[86, 110, 118].toArray⟩) (by decide +kernel) (one_word hw)
  | card hw hv h1 h2 h3 => exact shapes_of (y := ⟨[86, 110, 110, 110].toArray⟩) (by decide +kernel) (one_word hw)
  | cumul hw hv h1 h2 => exact shapes_of (y := ⟨[86, 110, 110, 110].toArray⟩) (by decide +kernel) (one_word hw)
  | agg hw hne hv hj => exact shapes_of (y := ⟨[86, 118].toArray⟩) (by decide +kernel) hw
  | reg hw hv r1 r2 => exact shapes_of (y := ⟨[86, 110, 110, 110, 110, 110].toArray⟩) (by decide +kernel) (one_word hw)
theorem shape1 {w : Str} {ps : List P1} (h : Ok1 w ps) : ShapeIs w ps ∧ ∀ v qs, P1.t v qs ∈ ps → ShapeIs v (qs.map .p) := by
  cases h with
  | flat h0 => exact ⟨shape0 h0, fun v qs hm => by obtain ⟨x, _, e⟩ := List.mem_map.mp hm; cases e⟩
  | rei hw hi hv hq =>
    refine ⟨shapes_of (y := ⟨[118, 116].toArray⟩) (by decide +kernel) hw, fun v qs hm => ?_⟩
    rcases List.mem_cons.mp hm with e | hm
    · cases e
    · rcases List.mem_cons.mp hm with e | hm
      · cases e; exact shape0 hq
      · cases hm
theorem small0 {w : Str} {ps : List P0} (h : Ok0 w ps) : Small (ps.map .p) := by
  refine ⟨by rw [List.length_map]; exact Nat.le_trans (ok0_len h) (by decide), fun is hm => ?_⟩
  obtain ⟨x, hx, e⟩ := List.mem_map.mp hm
  cases e
  have big : ∀ {js : List Int}, Vars js → js.length ≤ 100 := fun h => Nat.le_trans h.2 (by decide)
  cases h <;> simp only [List.mem_cons, List.not_mem_nil, or_false, P0.V.injEq, reduceCtorEq, false_or] at hx <;> first
    | (subst hx; exact big (by assumption))
    | (rcases hx with rfl | rfl <;> exact big (by assumption))
    | contradiction
theorem small1 {w : Str} {ps : List P1} (h : Ok1 w ps) : Small ps ∧ ∀ v qs, P1.t v qs ∈ ps → Small (qs.map .p) := by
  cases h with
  | flat h0 => exact ⟨small0 h0, fun v qs hm => by obtain ⟨x, _, e⟩ := List.mem_map.mp hm; cases e⟩
  | rei hw hi hv hq =>
    refine ⟨⟨by simp, fun is hm => ?_⟩, fun v qs hm => ?_⟩
    · simp at hm
    · rcases List.mem_cons.mp hm with e | hm
      · cases e
      · rcases List.mem_cons.mp hm with e | hm
        · cases e; exact small0 hq
        · cases hm
theorem names0 {w : Str} {ps : List P0} (h : Ok0 w ps) : (∀ i ∈ ps.flatMap P0.names, 0 ≤ i ∧ i < 6) ∧ (ps.flatMap P0.names).length ≤ 10 := by
  have vs : ∀ {js : List Int}, Vars js → js.length ≤ 3 := fun h => h.2
  have vb : ∀ {js : List Int} {i : Int}, Vars js → i ∈ js → 0 ≤ i ∧ i < 6 := fun h hi => h.1 _ hi
  cases h <;> simp only [List.flatMap_cons, List.flatMap_nil, P0.names, List.append_nil, List.nil_append, List.length_append, List.length_cons, List.length_nil] <;>
    (refine ⟨fun i hi => ?_, ?_⟩)
  all_goals first
    | (have h1 := vs (by assumption); omega)
    | omega
    | exact vb (by assumption) hi
    | (simp only [List.mem_append, List.mem_cons, List.not_mem_nil, or_false, false_or] at hi
       first
         | (rcases hi with hi | hi | hi <;> first | (subst hi; assumption) | exact vb (by assumption) hi)
         | (rcases hi with hi | hi <;> first | (subst hi; assumption) | exact vb (by assumption) hi)
         | (subst hi; assumption))
theorem names1 {w : Str} {ps : List P1} (h : Ok1 w ps) : (∀ i ∈ ps.flatMap P1.names, 0 ≤ i ∧ i < 6) ∧ (ps.flatMap P1.names).length ≤ 20 := by
  cases h with
  | flat h0 => rw [show ∀ qs : List P0, (qs.map P1.p).flatMap P1.names = qs.flatMap P0.names from fun qs => by rw [List.flatMap_map]; rfl]; exact ⟨(names0 h0).1, Nat.le_trans (names0 h0).2 (by decide)⟩
  | rei hw hi hv hq =>
    have h0 := names0 hq
    simp only [List.flatMap_cons, List.flatMap_nil, P1.names, P0.names, List.append_nil]
    refine ⟨fun j hj => ?_, ?_⟩
    · rcases List.mem_append.mp hj with hj | hj
      · rw [List.mem_singleton.mp hj]; exact hi
      · exact h0.1 j hj
    · rw [List.length_append]; simp only [List.length_cons, List.length_nil]; omega
end
section
open PyProof.V PySem.Spec
/-- PAIRS, as it stands -/
def pairsK : List (Str × Value) := [(Str.ofString "linear_le", .ref 40), (Str.ofString "linear_eq", .ref 42), (Str.ofString "linear_ne", .ref 44), (Str.ofString "cardinality", .ref 47), (Str.ofString "cumulative", .ref 50), (Str.ofString "disjunctive", .ref 52), (Str.ofString "inverse", .ref 54)]
theorem pairs_dict {w : World} {h : Heap} (X : (mk.heap_1 w.params).In h) : ∃ o, h.get? 38 = some o ∧ o.IsDictOf (strKind PySem.Challenge.rw_pc0027_01.row.prog w) pairsK := by
  walk_at "m_fill"
  have h1 := X 38 _ (by k_is)
  refine ⟨_, h1, _, _, ⟨rfl, rfl, rfl⟩, rfl, ?_, ?_, ?_⟩
  · intro e he
    have he' := Array.mem_def.mp he
    simp only [List.mem_cons, List.not_mem_nil, or_false] at he'
    rcases he' with rfl | rfl | rfl | rfl | rfl | rfl | rfl <;> exact ⟨_, strKind_is _ _ _ _, rfl⟩
  · exact .cons (strKind_is _ _ _ _) rfl (.cons (strKind_is _ _ _ _) rfl (.cons (strKind_is _ _ _ _) rfl (.cons (strKind_is _ _ _ _) rfl (.cons (strKind_is _ _ _ _) rfl (.cons (strKind_is _ _ _ _) rfl (.cons (strKind_is _ _ _ _) rfl .nil))))))
  · decide +kernel
theorem empty_news {h : Heap} {o : Obj} (ho : h.get? 38 = some o) : News {} 0 h [(38, o)] := fun q hq => by
  rw [List.mem_singleton.mp hq]
  exact ⟨ho, (by decide : (38 : Nat) ≠ 0), rfl⟩
section
variable {w : World} {A : Around} {E : Value → Shared → Prop} {s : Shared} {h₀ : Heap} {L : Addr} {m : Str → Option Value}
theorem pairs_method {pl : Sem Bool} {Q : Value × List Value → Shared → Prop} (X : (mk.heap_1 w.params).In h₀) (F : Fr h₀ L s.heap m) (h : Q (.builtin "dict.get", [.ref 38]) s) :
    wpAny (model PySem.Challenge.rw_pc0027_01.row.prog w) A (getMethod (.ref 38) (Str.ofString "get") pl) Q E s := by
  obtain ⟨o, ho, hd⟩ := pairs_dict X
  exact kdg_method (empty_news (F.keep _ _ ho)) (List.Mem.head _) hd h
theorem pairs_get {x : Str} {t : Tok} {dflt : Value} {Q : Value → Shared → Prop} (X : (mk.heap_1 w.params).In h₀) (F : Fr h₀ L s.heap m) (v : Option Value) (hv : valueAt pairsK x = v) (h : Q (v.getD dflt) { s with toks := s.toks + 1 }) :
    wpAny (model PySem.Challenge.rw_pc0027_01.row.prog w) A (call (.builtin "dict.get") [.ref 38, .str x t, dflt]) Q E s := by
  obtain ⟨o, ho, hd⟩ := pairs_dict X
  exact kdg_get2 (empty_news (F.keep _ _ ho)) (List.Mem.head _) hd (by decide) (strKind_is _ _ _ _) v hv h
end
end
section
open PyProof.V PySem.Spec
section
variable {prog : Program} {w : World} {A : Around} {E : Value → Shared → Prop} {s : Shared} {env : Env} {g : Heap} {target : PySem.Expr} {body : List Stmt} {Q : Flow → Shared → Prop}
/-- for x in a tuple of the base -/
theorem iterT_M {t : Addr} {items : List Value} {m : Str → Option Value} {news rest : Led}
    (hh : A.handled = none) (F : Fr g env.locals s.heap m) (N : News g env.locals s.heap news) (ht : IsTup g t items.toArray) (hrs : ∀ q ∈ rest, q ∈ news)
    (J : Nat → (Str → Option Value) → Led → Prop) (h0 : J 0 m rest)
    (turn : ∀ i v m₁ nx h₁ tk₁ own wr, items[i]? = some v → J i m₁ nx → (∀ p ∈ own, p.1 ∈ wr ∨ p.1 = t) → (∀ b ∈ wr, ∃ o, (b, o) ∈ own) → (∀ p ∈ nx, p.1 ∉ wr) → Fr g env.locals h₁ m₁ → News g env.locals h₁ (own ++ nx) →
      wpAny (model prog w) A (assign target env v) (fun _ s₃ => wpAny (model prog w) A (execs body env) (TurnEnd g env.locals wr own (J (i + 1)) { s with heap := h₁, toks := tk₁ } Q) E s₃) E { s with heap := h₁, toks := tk₁ })
    (done : ∀ h' tk m' nx, Fr g env.locals h' m' → News g env.locals h' nx → J items.length m' nx → Q .next { s with heap := h', toks := tk }) :
    wpAny (model prog w) A (pyIter (.ref t)) (fun it s₂ => TurnsAt prog w A g env target body Q E it s₂) E s := by
  have hls : IsTup s.heap t items.toArray := ht.keeps (Fr.keep F)
  have hlg : @LT.lt Nat _ t g.objs.size := by obtain ⟨o, ho, _⟩ := ht; exact Heap.lt_size ho
  have hgs : @LE.le Nat _ g.objs.size s.heap.objs.size := Nat.le_trans F.above (Nat.le_of_lt F.ns.lt)
  have hne : t ≠ s.heap.objs.size := by show ¬ (@Eq Nat _ _); omega
  refine wpAny_pyIter_tuple hls ?_
  have W := KTurns.ofWalks (target := target) (Walks.tuple (prog := prog) (w := w) hh s.heap.objs.size t hne items.toArray) fun i v s Q E st q => letGo_tupleiter st.1 q
  have up : ∀ b o, s.heap.get? b = some o → (s.heap.push { cls := .type "tuple_iterator", data := .fields #[.ref t, .int 0 0] }).get? b = some o := fun b o e => Heap.get?_push_of_some _ e
  have hsz : items.toArray.size = items.length := by simp
  rw [hsz] at W
  refine turns_M (m := m) (news := rest) W ?_ ?_ ?_ ?_ ?_ (F.push _) (fun q hq => ⟨up _ _ (N q (hrs q hq)).1, (N q (hrs q hq)).2⟩) J h0 ?_ done
  · intro hm
    rcases List.mem_cons.mp hm with e | hm
    · exact absurd F.ns.lt (e ▸ Nat.lt_irrefl _)
    · have e := List.mem_singleton.mp hm
      have h2 : @LE.le Nat _ g.objs.size env.locals := F.above
      rw [e] at h2
      exact absurd hlg (Nat.not_lt.mpr h2)
  · intro b hb
    rw [List.mem_singleton.mp hb]; exact next_is_new F
  · rintro i h ⟨hit', _⟩ b hb
    rw [List.mem_singleton.mp hb]
    obtain ⟨o, e, _⟩ := hit'; exact ⟨o, e⟩
  · intro q hq hm
    exact absurd (Heap.lt_size (N q (hrs q hq)).1) ((List.mem_singleton.mp hm) ▸ Nat.lt_irrefl _)
  · exact ⟨⟨_, Heap.get?_push_size _ rfl, rfl, rfl⟩, hls.keeps up⟩
  · rintro i v m₁ nx h₁ tk₁ own hi hv hj hown hw hnx F₁ N₁
    refine turn i v m₁ nx h₁ tk₁ own _ (by simpa using hv) hj (fun p hp => ?_) hw hnx F₁ N₁
    rcases List.mem_cons.mp (hown p hp) with e | hm
    · exact .inl (e ▸ .head _)
    · exact .inr (List.mem_singleton.mp hm)
/-- the end of one statement, at which the forks join -/
def CutEnd (g : Heap) (L : Addr) (J : (Str → Option Value) → Led → Prop) (s : Shared) (f : Flow) (s' : Shared) : Prop :=
  f = .next ∧ ∃ h' tk m' nx, s' = { s with heap := h', toks := tk } ∧ Fr g L h' m' ∧ News g L h' nx ∧ J m' nx
theorem cut_M {L : Addr} {m : Str → Option Value} {st : Stmt} {rest : List Stmt} (_F : Fr g L s.heap m) (J : (Str → Option Value) → Led → Prop) (h1 : wpAny (model prog w) A (exec st env) (CutEnd g L J s) E s)
    (h2 : ∀ h' tk m' nx, Fr g L h' m' → News g L h' nx → J m' nx → wpAny (model prog w) A (execs rest env) Q E { s with heap := h', toks := tk }) :
    wpAny (model prog w) A (execs (st :: rest) env) Q E s := by
  refine wpAny_execs_cons (wpAny_mono h1 (fun f s' hf => ?_) fun _ _ e => e)
  obtain ⟨rfl, h', tk, m', nx, rfl, F, N, hj⟩ := hf
  exact h2 h' tk m' nx F N hj
theorem cutEnd_of {L : Addr} {J : (Str → Option Value) → Led → Prop} {h' : Heap} {tk : Nat} {m' : Str → Option Value} {nx all : Led} (F : Fr g L h' m') (N : News g L h' all) (hs : ∀ q ∈ nx, q ∈ all) (hj : J m' nx) : CutEnd g L J s .next { s with heap := h', toks := tk } :=
  ⟨rfl, h', tk, m', nx, rfl, F, fun q hq => N q (hs q hq), hj⟩
end
section
variable {prog : Program} {w : World} {A : Around} {E : Value → Shared → Prop} {s : Shared} {h₀ : Heap} {L : Addr} {m : Str → Option Value} {news : Led}
/-- a tuple that stands in each heap of this frame with this ledger -/
def TupAt (h₀ : Heap) (L : Addr) (x : Led) (r : Addr) (items : List Value) : Prop := ∀ h m, Fr h₀ L h m → News h₀ L h x → IsTup h r items.toArray
theorem TupAt.base {x : Led} {r : Addr} {items : List Value} (h : IsTup h₀ r items.toArray) : TupAt h₀ L x r items := fun _ _ F _ => h.keeps F.keep
theorem TupAt.led {x : Led} {r : Addr} {items : List Value} {n : Nat} (h : (r, ({ cls := .type "tuple", data := .seq items.toArray n } : Obj)) ∈ x) : TupAt h₀ L x r items := fun _ _ _ N => ⟨_, (N _ h).1, rfl, _, rfl⟩
theorem TupAt.mono {x y : Led} {r : Addr} {items : List Value} (h : TupAt h₀ L x r items) (hs : ∀ q ∈ x, q ∈ y) : TupAt h₀ L y r items := fun h' m F N => h h' m F fun q hq => N q (hs q hq)
/-- told[k:] of a tuple of the base -/
theorem sliceN_T (k : Nat) {value slice : PySem.Expr} {t : Addr} {l : List Value} {u : Tok} {Q : Value → Shared → Prop} (F : Fr h₀ L s.heap m) (N : News h₀ L s.heap news) (hl : IsTup h₀ t l.toArray) (hk1 : 1 ≤ k) (hk : k ≤ l.length)
    (h : ∀ D h', Fr h₀ L h' m → News h₀ L h' ((D, { cls := .type "tuple", data := .seq (l.drop k).toArray }) :: news) → Q (.ref D) { s with heap := h' })
    (hs : subscripted slice false (.ref t) (.ref s.heap.objs.size) = operate [.ref s.heap.objs.size, .ref t] (getItem (.ref t) (.ref s.heap.objs.size)))
    (ht : ∀ r, letTemporaryGo value (.ref t) r = pure ()) (hsz : l.length ≤ sizeLine) :
    wpAny (model prog w) A (subscriptTail value slice (.ref t) (.ref s.heap.objs.size)) Q E { s with heap := s.heap.push { cls := .type "slice", data := .fields #[.int (k : Nat) u, .none, .none] } } := by
  refine slice_tuple_from (a := k) (u := u) F N (hl.keeps (Fr.keep F)) hk1 (by simpa using hk) (fun h' F' N' => ?_) hs ht (by simpa using hsz)
  exact h _ h' F' N'
theorem addT_M {t b : Addr} {vs ws : List Value} {x : Led} {Q : Value → Shared → Prop} (F : Fr h₀ L s.heap m) (N : News h₀ L s.heap news) (hx : ∀ q ∈ x, q ∈ news) (ht : TupAt h₀ L x t vs) (hb : TupAt h₀ L x b ws) (hsz : vs.length + ws.length ≤ sizeLine)
    (h : ∀ r h' y, Fr h₀ L h' m → News h₀ L h' (y ++ news) → (∀ q ∈ x, q ∈ y ++ news) → TupAt h₀ L (y ++ news) r (vs ++ ws) → Q (.ref r) { s with heap := h' }) :
    wpAny (model prog w) A (binaryOp .Add (.ref t) (.ref b)) Q E s := by
  have Nx : News h₀ L s.heap x := fun q hq => N q (hx q hq)
  refine add_tuples F N (ht _ _ F Nx) (hb _ _ F Nx) (fun e => ?_) (fun _ e => ?_) (fun _ _ h' F' N' => ?_) hsz
  · have := h b s.heap [] F N hx
    rw [e] at this
    exact this (hb.mono hx)
  · have := h t s.heap [] F N hx
    rw [e, List.append_nil] at this
    exact this (ht.mono hx)
  · exact h _ h' [_] F' N' (fun q hq => .tail _ (hx q hq)) (TupAt.led (.head _))
theorem minT_M {t : Addr} {vs : List Value} {ns : List Int} {x : Led} {Q : Value → Shared → Prop} (hh : A.handled = none) (F : Fr h₀ L s.heap m) (N : News h₀ L s.heap news) (hx : ∀ q ∈ x, q ∈ news) (ht : TupAt h₀ L x t vs) (hi : IntsAre vs ns) (hne : 0 < ns.length)
    (h : ∀ h' M (u : Tok) tk, Fr h₀ L h' m → News h₀ L h' news → M ∈ ns → Q (.int M u) { s with heap := h', toks := tk }) :
    wpAny (model prog w) A (call (.builtin "min") [.ref t]) Q E s := by
  have Nx : News h₀ L s.heap x := fun q hq => N q (hx q hq)
  have hl := ht _ _ F Nx
  obtain ⟨xs, e⟩ := hi.allInts.items
  have hns : ns = xs.toList.map (·.1) := by
    rw [← hi.numsOf, ← nums_intItems, ← e]
  have hsz : 0 < xs.size := by
    have h3 := hne; rw [hns, List.length_map, Array.length_toList] at h3; exact h3
  rw [e] at hl
  have hlt : @LT.lt Nat _ t s.heap.objs.size := by obtain ⟨o, ho, _⟩ := hl; exact Heap.lt_size ho
  have hne2 : t ≠ s.heap.objs.size := by show ¬ (@Eq Nat _ _); omega
  refine call_min_walk (wpAny_pyIter_tuple hl ?_)
  refine ⟨_, _, _, _, _, _, _, rfl, Walks.tuple (A := A.in1) hh s.heap.objs.size t hne2 (intItems xs), ⟨⟨_, Heap.get?_push_size _ rfl, rfl, rfl⟩, hl.keeps fun b o e => Heap.get?_push_of_some _ e⟩, ?_, by simpa [intItems] using hsz, CmpOf.ints_lt (numAt xs) (fun _ _ => intItems_at), fun v h' tk hv hk => ?_⟩
  · intro b hb
    rw [Heap.size_push]
    simp only [List.mem_cons, List.not_mem_nil, or_false] at hb
    rcases hb with e | e <;> rw [e] <;> show @LT.lt Nat _ _ _ <;> omega
  · have hv' : (intItems xs)[argBest (fun i j => decide (numAt xs i < numAt xs j)) (xs.size - 1)]? = some v := by simpa [intItems] using hv
    obtain ⟨u, rfl⟩ := intItems_at hv'
    obtain ⟨h1, h2⟩ := argBest_lt (numAt xs) (xs.size - 1)
    have hk' : ∀ b o, s.heap.get? b = some o → h'.get? b = some o := fun b o e => hk b o (fun hb => by
      have := Heap.lt_size e
      rw [List.mem_singleton.mp hb] at this
      exact absurd this (Nat.lt_irrefl _)) (Heap.get?_push_of_some _ e)
    refine h _ _ u tk (F.keeps hk') (fun q hq => ⟨hk' _ _ (N q hq).1, (N q hq).2⟩) ?_
    rw [hns, numAt_eq]; exact getD_mem (by rw [List.length_map, Array.length_toList]; omega)
end
/-- two arguments of one length -/
def LenEq (g : Heap) (l : List Value) (i j : Nat) : Prop := i ≤ 10 ∧ j ≤ 10 ∧ ∃ a b vs ws, l[i]? = some (.ref a) ∧ IsTup g a (List.toArray vs) ∧ l[j]? = some (.ref b) ∧ IsTup g b (List.toArray ws) ∧ vs.length = ws.length ∧ vs.length ≤ 2000
end
section
open PyProof.V PySem.Spec
/-- a row of numbers of the base -/
def TupIn (g : Heap) (v : Value) (is : List Int) : Prop := ∃ a vs, v = .ref a ∧ IsTup g a (List.toArray vs) ∧ IntsAre vs is
theorem ints_dat {al : Led} : ∀ {vs : List Value} {is : List Int}, DatAll al vs (is.map .int) → IntsAre vs is
  | [], [], _ => .nil
  | _ :: _, i :: is, h => by
    cases h with
    | cons h0 hr =>
      obtain ⟨t, rfl⟩ := datIn_int h0
      exact .cons i t (ints_dat hr)
  | [], _ :: _, h => by cases h
  | _ :: _, [], h => by cases h
theorem tupIn_of {g : Heap} {al : Led} (hal : ∀ q ∈ al, g.get? q.1 = some q.2) {v : Value} {is : List Int} (h : DatIn al v (tupI is)) : TupIn g v is := by
  obtain ⟨a, vs, k, e, hm, hall⟩ := datIn_tup h
  exact ⟨a, vs, e, ⟨_, hal _ hm, rfl, _, rfl⟩, ints_dat hall⟩
/-- the tuple of pairs of a word -/
def PairsOk (g : Heap) (word : Str) (l : List Value) : Prop := valueAt pairsK word = none ∨ ∃ pa prs, valueAt pairsK word = some (.ref pa) ∧ IsTup g pa (List.toArray prs) ∧
  ∀ v ∈ prs, ∃ T i j t u, v = .ref T ∧ IsTup g T #[.int (i : Nat) t, .int (j : Nat) u] ∧ LenEq g l i j
def MachOk (g : Heap) (items : List Value) : Prop := ∃ v1 rows r1 r2 fin t2 t3 st ts a11 a12 a21 a22 u11 u12 u21 u22 fi tf,
  items = [v1, .int 2 t2, .int 2 t3, .ref rows, .int st ts, .ref fin] ∧ IsTup g rows #[.ref r1, .ref r2] ∧ IsTup g r1 #[.int a11 u11, .int a12 u12] ∧ IsTup g r2 #[.int a21 u21, .int a22 u22] ∧ IsTup g fin #[.int fi tf] ∧
  (0 ≤ a11 ∧ a11 < 3) ∧ (0 ≤ a12 ∧ a12 < 3) ∧ (0 ≤ a21 ∧ a21 < 3) ∧ (0 ≤ a22 ∧ a22 < 3) ∧ (1 ≤ st ∧ st ≤ 2) ∧ (1 ≤ fi ∧ fi ≤ 2)
/-- what the end of told_fault asks -/
structure TailOk (g : Heap) (word : Str) (v0 : Value) (items : List Value) : Prop where
  p : PairsOk g word (v0 :: items)
  c : (word == Str.ofString "cumulative") = false ∨ word = Str.ofString "cumulative" ∧ ∃ v1 v2 v3 n t a b, items = [v1, v2, v3, .int n t] ∧ TupIn g v2 a ∧ TupIn g v3 b ∧ (∀ i ∈ a ++ (b ++ [n]), 0 ≤ i) ∧ a.length ≤ 3 ∧ b.length ≤ 3
  d : (word == Str.ofString "disjunctive") = false ∨ word = Str.ofString "disjunctive" ∧ ∃ v1 v2 a, items = [v1, v2] ∧ TupIn g v2 a ∧ (∀ i ∈ a, 0 ≤ i) ∧ a.length ≤ 3
  m : ([Str.ofString "max", Str.ofString "min"].any fun y => y == word) = false ∨ (word = Str.ofString "max" ∨ word = Str.ofString "min") ∧ ∃ v1 v2 a, items = [v1, v2] ∧ TupIn g v1 a ∧ 0 < a.length ∧ a.length ≤ 3
  t : (word == Str.ofString "table") = false ∨ word = Str.ofString "table" ∧ ∃ v1 a r rs, items = [v1, .ref r] ∧ TupIn g v1 a ∧ a.length ≤ 3 ∧ IsTup g r (List.toArray rs) ∧ rs.length ≤ 3 ∧ ∀ v ∈ rs, ∃ is, TupIn g v is ∧ is.length = a.length
  r : (word == Str.ofString "regular") = false ∨ word = Str.ofString "regular" ∧ MachOk g items
/-- the words that none of the rest asks of -/
def plainW (w : Str) : Bool := (valueAt pairsK w).isNone && !(w == Str.ofString "cumulative") && !(w == Str.ofString "disjunctive") && !([Str.ofString "max", Str.ofString "min"].any fun y => y == w) && !(w == Str.ofString "table") && !(w == Str.ofString "regular")
theorem tail_plain {g : Heap} {word : Str} {v0 : Value} {items : List Value} (h : plainW word = true) : TailOk g word v0 items := by
  simp only [plainW, Bool.and_eq_true, Bool.not_eq_true'] at h
  obtain ⟨⟨⟨⟨⟨a, b⟩, c⟩, d⟩, e⟩, f⟩ := h
  exact ⟨.inl (Option.isNone_iff_eq_none.mp a), .inl b, .inl c, .inl d, .inl e, .inl f⟩
theorem plain_of {l : List Str} {x : Str} (hall : (l.all plainW) = true) (h : anyOf l x) : plainW x = true := List.all_eq_true.mp hall x (anyOf_eq h)
theorem words_of {l : List Str} {x : Str} (f : Str → Bool) (hall : (l.all f) = true) (h : anyOf l x) : f x = true := List.all_eq_true.mp hall x (anyOf_eq h)
theorem lenEq_of {g : Heap} {l : List Value} {i j : Nat} {v w : Value} {a b : List Int} (hi : i ≤ 10) (hj : j ≤ 10) (hv : l[i]? = some v) (hw : l[j]? = some w) (ha : TupIn g v a) (hb : TupIn g w b) (e : a.length = b.length) (h3 : a.length ≤ 3) : LenEq g l i j := by
  obtain ⟨x, vs, rfl, hx, ix⟩ := ha
  obtain ⟨y, ws, rfl, hy, iy⟩ := hb
  have := ix.length
  have := iy.length
  exact ⟨hi, hj, x, y, vs, ws, hv, hx, hw, hy, by omega, by omega⟩
theorem tup2_at {g : Heap} {a : Addr} {o : Obj} {xs : Array Value} {n : Nat} (h : g.get? a = some o) (hc : o.cls = .type "tuple") (hd : o.data = .seq xs n) : IsTup g a xs := ⟨o, h, hc, n, hd⟩
section
variable {w : World} {h : Heap}
theorem pt12 (X : (mk.heap_1 w.params).In h) (l : List Value) (hl : LenEq h l 1 2) {word : Str} (hw : anyOf (linWords ++ [Str.ofString "disjunctive", Str.ofString "inverse"]) word) : PairsOk h word l := by
  walk_at "m_fill"
  rcases List.mem_cons.mp (anyOf_eq hw) with rfl | hw
  · exact .inr ⟨40, [.ref 39], by decide +kernel, ⟨_, X 40 _ (by k_is), rfl, _, rfl⟩, fun v hv => ⟨39, 1, 2, _, _, List.mem_singleton.mp hv, ⟨_, X 39 _ (by k_is), rfl, _, rfl⟩, hl⟩⟩
  rcases List.mem_cons.mp hw with rfl | hw
  · exact .inr ⟨42, [.ref 41], by decide +kernel, ⟨_, X 42 _ (by k_is), rfl, _, rfl⟩, fun v hv => ⟨41, 1, 2, _, _, List.mem_singleton.mp hv, ⟨_, X 41 _ (by k_is), rfl, _, rfl⟩, hl⟩⟩
  rcases List.mem_cons.mp hw with rfl | hw
  · exact .inr ⟨44, [.ref 43], by decide +kernel, ⟨_, X 44 _ (by k_is), rfl, _, rfl⟩, fun v hv => ⟨43, 1, 2, _, _, List.mem_singleton.mp hv, ⟨_, X 43 _ (by k_is), rfl, _, rfl⟩, hl⟩⟩
  rcases List.mem_cons.mp hw with rfl | hw
  · exact .inr ⟨52, [.ref 51], by decide +kernel, ⟨_, X 52 _ (by k_is), rfl, _, rfl⟩, fun v hv => ⟨51, 1, 2, _, _, List.mem_singleton.mp hv, ⟨_, X 51 _ (by k_is), rfl, _, rfl⟩, hl⟩⟩
  · rcases List.mem_cons.mp hw with rfl | hw
    · exact .inr ⟨54, [.ref 53], by decide +kernel, ⟨_, X 54 _ (by k_is), rfl, _, rfl⟩, fun v hv => ⟨53, 1, 2, _, _, List.mem_singleton.mp hv, ⟨_, X 53 _ (by k_is), rfl, _, rfl⟩, hl⟩⟩
    · cases hw
theorem pt_card (X : (mk.heap_1 w.params).In h) (l : List Value) (hl : LenEq h l 2 3) (hl2 : LenEq h l 2 4) : PairsOk h (Str.ofString "cardinality") l := by
  walk_at "m_fill"
  refine .inr ⟨47, [.ref 45, .ref 46], by decide +kernel, ⟨_, X 47 _ (by k_is), rfl, _, rfl⟩, fun v hv => ?_⟩
  rcases List.mem_cons.mp hv with rfl | hv
  · exact ⟨45, 2, 3, _, _, rfl, ⟨_, X 45 _ (by k_is), rfl, _, rfl⟩, hl⟩
  · exact ⟨46, 2, 4, _, _, List.mem_singleton.mp hv, ⟨_, X 46 _ (by k_is), rfl, _, rfl⟩, hl2⟩
theorem pt_cumul (X : (mk.heap_1 w.params).In h) (l : List Value) (hl : LenEq h l 1 2) (hl2 : LenEq h l 1 3) : PairsOk h (Str.ofString "cumulative") l := by
  walk_at "m_fill"
  refine .inr ⟨50, [.ref 48, .ref 49], by decide +kernel, ⟨_, X 50 _ (by k_is), rfl, _, rfl⟩, fun v hv => ?_⟩
  rcases List.mem_cons.mp hv with rfl | hv
  · exact ⟨48, 1, 2, _, _, rfl, ⟨_, X 48 _ (by k_is), rfl, _, rfl⟩, hl⟩
  · exact ⟨49, 1, 3, _, _, List.mem_singleton.mp hv, ⟨_, X 49 _ (by k_is), rfl, _, rfl⟩, hl2⟩
end
theorem datAll1 {al : Led} {vs : List Value} {d : Dat} {ds : List Dat} (h : DatAll al vs (d :: ds)) : ∃ v ws, vs = v :: ws ∧ DatIn al v d ∧ DatAll al ws ds := by cases h with | cons a b => exact ⟨_, _, rfl, a, b⟩
theorem datAll0 {al : Led} {vs : List Value} (h : DatAll al vs []) : vs = [] := by cases h; rfl
theorem tail_of {w : World} {g : Heap} {al : Led} {word : Str} {qs : List P0} {v0 : Value} {items : List Value} (X : (mk.heap_1 w.params).In g) (h : Ok0 word qs) (hal : ∀ q ∈ al, g.get? q.1 = some q.2) (hit : DatAll al items (qs.map (P0.told id))) : TailOk g word v0 items := by
  have tup : ∀ {v : Value} {is : List Int}, DatIn al v (tupI is) → TupIn g v is := fun h => tupIn_of hal h
  cases h with
  | @lin a is b hw hl hv =>
    obtain ⟨v1, ws, rfl, h1, hit⟩ := datAll1 hit
    obtain ⟨v2, ws, rfl, h2, hit⟩ := datAll1 hit
    simp only [P0.told, List.map_id] at h1 h2
    have e := words_of (fun x => !(x == Str.ofString "cumulative") && !(x == Str.ofString "disjunctive") && !([Str.ofString "max", Str.ofString "min"].any fun y => y == x) && !(x == Str.ofString "table") && !(x == Str.ofString "regular")) (by decide +kernel) hw
    simp only [Bool.and_eq_true, Bool.not_eq_true'] at e
    exact ⟨pt12 X _ (lenEq_of (by decide) (by decide) rfl rfl (tup h1) (tup h2) hl (by rw [hl]; exact hv.2)) (anyOf_sub hw (by decide +kernel)), .inl e.1.1.1.1, .inl e.1.1.1.2, .inl e.1.1.2, .inl e.1.2, .inl e.2⟩
  | tri hw => exact tail_plain (plain_of (by decide +kernel) hw)
  | abs hw => rw [eq_of_beq hw]; exact tail_plain (by decide +kernel)
  | el hw => rw [eq_of_beq hw]; exact tail_plain (by decide +kernel)
  | elof hw => rw [eq_of_beq hw]; exact tail_plain (by decide +kernel)
  | prec hw => rw [eq_of_beq hw]; exact tail_plain (by decide +kernel)
  | @two is js hw hl hv hu =>
    obtain ⟨v1, ws, rfl, h1, hit⟩ := datAll1 hit
    obtain ⟨v2, ws, rfl, h2, hit⟩ := datAll1 hit
    simp only [P0.told, List.map_id] at h1 h2
    have e := words_of (fun x => (!(x == Str.ofString "cumulative") && !(x == Str.ofString "disjunctive") && !([Str.ofString "max", Str.ofString "min"].any fun y => y == x) && !(x == Str.ofString "table") && !(x == Str.ofString "regular")) && ((x == Str.ofString "inverse") || (valueAt pairsK x).isNone)) (by decide +kernel) hw
    simp only [Bool.and_eq_true, Bool.not_eq_true', Bool.or_eq_true] at e
    obtain ⟨e, ep⟩ := e
    refine ⟨?_, .inl e.1.1.1.1, .inl e.1.1.1.2, .inl e.1.1.2, .inl e.1.2, .inl e.2⟩
    rcases ep with ep | ep
    · rw [eq_of_beq ep]
      exact pt12 X _ (lenEq_of (by decide) (by decide) rfl rfl (tup h1) (tup h2) hl hv.2) (by decide +kernel)
    · exact .inl (Option.isNone_iff_eq_none.mp ep)
  | one hw => exact tail_plain (plain_of (by decide +kernel) hw)
  | alld hw => rw [eq_of_beq hw]; exact tail_plain (by decide +kernel)
  | @table is rows hw hv hr hl =>
    obtain ⟨v1, ws, rfl, h1, hit⟩ := datAll1 hit
    obtain ⟨v2, ws, rfl, h2, hit⟩ := datAll1 hit
    cases datAll0 hit
    simp only [P0.told, List.map_id] at h1 h2
    obtain ⟨r, rs, k, rfl, hm, hall⟩ := datIn_tup h2
    rw [eq_of_beq hw]
    refine ⟨.inl (by decide +kernel), .inl (by decide +kernel), .inl (by decide +kernel), .inl (by decide +kernel), .inr ⟨rfl, v1, is, r, rs, rfl, tup h1, hv.2, ⟨_, hal _ hm, rfl, _, rfl⟩, by rw [hall.length]; exact hl, fun v hv => ?_⟩, .inl (by decide +kernel)⟩
    obtain ⟨j, hj, e⟩ := List.getElem_of_mem hv
    obtain ⟨d, hd, hvd⟩ := datAll_at hall (j := j) (v := v) (by rw [← e]; exact List.getElem?_eq_getElem hj)
    obtain ⟨a, rfl, ha⟩ := hr d (List.mem_of_getElem? hd)
    exact ⟨a, tup hvd, ha⟩
  | @disj is a hw hv hl h0 =>
    obtain ⟨v1, ws, rfl, h1, hit⟩ := datAll1 hit
    obtain ⟨v2, ws, rfl, h2, hit⟩ := datAll1 hit
    cases datAll0 hit
    simp only [P0.told, List.map_id] at h1 h2
    rw [eq_of_beq hw]
    have h3 := hv.2
    exact ⟨pt12 X _ (lenEq_of (by decide) (by decide) rfl rfl (tup h1) (tup h2) hl.symm h3) (by decide +kernel), .inl (by decide +kernel), .inr ⟨rfl, v1, v2, a, rfl, tup h2, fun i hi => (h0 i hi).1, by omega⟩, .inl (by decide +kernel), .inl (by decide +kernel), .inl (by decide +kernel)⟩
  | count hw => rw [eq_of_beq hw]; exact tail_plain (by decide +kernel)
  | @card is a b c hw hv hab hac hl =>
    obtain ⟨v1, ws, rfl, h1, hit⟩ := datAll1 hit
    obtain ⟨v2, ws, rfl, h2, hit⟩ := datAll1 hit
    obtain ⟨v3, ws, rfl, h3, hit⟩ := datAll1 hit
    obtain ⟨v4, ws, rfl, h4, hit⟩ := datAll1 hit
    simp only [P0.told, List.map_id] at h1 h2 h3 h4
    rw [eq_of_beq hw]
    exact ⟨pt_card X _ (lenEq_of (by decide) (by decide) rfl rfl (tup h2) (tup h3) hab hl) (lenEq_of (by decide) (by decide) rfl rfl (tup h2) (tup h4) hac hl), .inl (by decide +kernel), .inl (by decide +kernel), .inl (by decide +kernel), .inl (by decide +kernel), .inl (by decide +kernel)⟩
  | @cumul is a b c hw hv ha hb h0 h0' hc hc' =>
    obtain ⟨v1, ws, rfl, h1, hit⟩ := datAll1 hit
    obtain ⟨v2, ws, rfl, h2, hit⟩ := datAll1 hit
    obtain ⟨v3, ws, rfl, h3, hit⟩ := datAll1 hit
    obtain ⟨v4, ws, rfl, h4, hit⟩ := datAll1 hit
    cases datAll0 hit
    simp only [P0.told, List.map_id] at h1 h2 h3 h4
    obtain ⟨t4, rfl⟩ := datIn_int h4
    rw [eq_of_beq hw]
    have hl3 := hv.2
    refine ⟨pt_cumul X _ (lenEq_of (by decide) (by decide) rfl rfl (tup h1) (tup h2) ha.symm hl3) (lenEq_of (by decide) (by decide) rfl rfl (tup h1) (tup h3) hb.symm hl3), .inr ⟨rfl, v1, v2, v3, c, t4, a, b, rfl, tup h2, tup h3, fun i hi => ?_, by omega, by omega⟩, .inl (by decide +kernel), .inl (by decide +kernel), .inl (by decide +kernel), .inl (by decide +kernel)⟩
    rcases List.mem_append.mp hi with hi | hi
    · exact (h0 i hi).1
    · rcases List.mem_append.mp hi with hi | hi
      · exact (h0' i hi).1
      · rw [List.mem_singleton.mp hi]; exact hc
  | @agg is j hw hne hv hj =>
    obtain ⟨v1, ws, rfl, h1, hit⟩ := datAll1 hit
    obtain ⟨v2, ws, rfl, h2, hit⟩ := datAll1 hit
    cases datAll0 hit
    simp only [P0.told, List.map_id] at h1 h2
    have e := words_of (fun x => (!(x == Str.ofString "cumulative") && !(x == Str.ofString "disjunctive") && !(x == Str.ofString "table") && !(x == Str.ofString "regular")) && (valueAt pairsK x).isNone) (by decide +kernel) hw
    simp only [Bool.and_eq_true, Bool.not_eq_true'] at e
    obtain ⟨e, ep⟩ := e
    refine ⟨.inl (Option.isNone_iff_eq_none.mp ep), .inl e.1.1.1, .inl e.1.1.2, ?_, .inl e.1.2, .inl e.2⟩
    have hpos : 0 < is.length := List.length_pos_iff.mpr hne
    by_cases e1 : word = Str.ofString "max"
    · exact .inr ⟨.inl e1, v1, v2, is, rfl, tup h1, hpos, hv.2⟩
    by_cases e2 : word = Str.ofString "min"
    · exact .inr ⟨.inr e2, v1, v2, is, rfl, tup h1, hpos, hv.2⟩
    · refine .inl ?_
      simp [Ne.symm (a := word) e1, Ne.symm (a := word) e2]
  | @reg is r1 r2 st fi hw hv hr1 hr2 s1 s2 f1 f2 =>
    obtain ⟨v1, ws, rfl, h1, hit⟩ := datAll1 hit
    obtain ⟨v2, ws, rfl, h2, hit⟩ := datAll1 hit
    obtain ⟨v3, ws, rfl, h3, hit⟩ := datAll1 hit
    obtain ⟨v4, ws, rfl, h4, hit⟩ := datAll1 hit
    obtain ⟨v5, ws, rfl, h5, hit⟩ := datAll1 hit
    obtain ⟨v6, ws, rfl, h6, hit⟩ := datAll1 hit
    cases datAll0 hit
    simp only [P0.told, List.map_id] at h1 h2 h3 h4 h5 h6
    obtain ⟨t2, rfl⟩ := datIn_int h2
    obtain ⟨t3, rfl⟩ := datIn_int h3
    obtain ⟨ts, rfl⟩ := datIn_int h5
    rw [eq_of_beq hw]
    refine ⟨.inl (by decide +kernel), .inl (by decide +kernel), .inl (by decide +kernel), .inl (by decide +kernel), .inl (by decide +kernel), .inr ⟨rfl, ?_⟩⟩
    have row : ∀ {v : Value} {d : Dat}, DatIn al v d → RowD d → ∃ a x y t u, v = .ref a ∧ IsTup g a #[.int x t, .int y u] ∧ (0 ≤ x ∧ x < 3) ∧ (0 ≤ y ∧ y < 3) := by
      intro v d hd hr
      obtain ⟨is, rfl, hl, h0⟩ := hr
      match is, hl, h0 with
      | [x, y], _, h0 =>
      obtain ⟨a, vs, k, rfl, hm, hall⟩ := datIn_tup hd
      obtain ⟨x1, ws, rfl, hx, hall⟩ := datAll1 hall
      obtain ⟨y1, ws, rfl, hy, hall⟩ := datAll1 hall
      cases datAll0 hall
      obtain ⟨t, rfl⟩ := datIn_int hx
      obtain ⟨u, rfl⟩ := datIn_int hy
      exact ⟨a, x, y, t, u, rfl, ⟨_, hal _ hm, rfl, _, rfl⟩, h0 x (.head _), h0 y (.tail _ (.head _))⟩
    obtain ⟨rows, vs, k, rfl, hm, hall⟩ := datIn_tup h4
    obtain ⟨x1, ws, rfl, hx, hall⟩ := datAll1 hall
    obtain ⟨y1, ws, rfl, hy, hall⟩ := datAll1 hall
    cases datAll0 hall
    obtain ⟨a1, x11, x12, u11, u12, rfl, g1, b11, b12⟩ := row hx hr1
    obtain ⟨a2, x21, x22, u21, u22, rfl, g2, b21, b22⟩ := row hy hr2
    obtain ⟨fin, fs, k2, rfl, hm2, hall⟩ := datIn_tup h6
    obtain ⟨f, ws, rfl, hf, hall⟩ := datAll1 hall
    cases datAll0 hall
    obtain ⟨tf, rfl⟩ := datIn_int hf
    exact ⟨v1, rows, a1, a2, fin, t2, t3, st, ts, x11, x12, x21, x22, u11, u12, u21, u22, fi, tf, rfl, ⟨_, hal _ hm, rfl, _, rfl⟩, g1, g2, ⟨_, hal _ hm2, rfl, _, rfl⟩, b11, b12, b21, b22, ⟨s1, s2⟩, ⟨f1, f2⟩⟩
end
section
open PyProof.V PySem.Spec LCg
def SPost (x : Str) (r : Value) (led : Led) : Prop := led = [] ∧ ∃ t, r = .str x t
theorem machOk_keeps {g h : Heap} {items : List Value} (k : ∀ b o, g.get? b = some o → h.get? b = some o) (M : MachOk g items) : MachOk h items := by
  obtain ⟨v1, rows, r1, r2, fin, t2, t3, st, ts, x11, x12, x21, x22, u11, u12, u21, u22, fi, tf, rfl, a, b, c, d, e⟩ := M
  exact ⟨v1, rows, r1, r2, fin, t2, t3, st, ts, x11, x12, x21, x22, u11, u12, u21, u22, fi, tf, rfl, a.keeps k, b.keeps k, c.keeps k, d.keeps k, e⟩
theorem allT_M {prog : Program} {w : World} {A : Around} {E : Value → Shared → Prop} {s : Shared} {h₀ : Heap} {L : Addr} {m : Str → Option Value} {news : Led} {D : Addr} {ys : List Value} {Q : Value → Shared → Prop} (hh : A.handled = none) (F : Fr h₀ L s.heap m) (N : News h₀ L s.heap news) (hm : (D, lst ys) ∈ news) (hr : ∀ (i : Nat) (y : Value), ys[i]? = some y → y = Value.bool true)
    (h : ∀ h' tk, Fr h₀ L h' m → News h₀ L h' news → Q (.bool true) { s with heap := h', toks := tk }) : wpAny (model prog w) A (call (.builtin "all") [.ref D]) Q E s := by
  refine LSm.all_bools (bs := List.replicate ys.length true) F N hh ⟨_, (N _ hm).1, rfl, _, rfl⟩ (bools_true hr) ?_
  intro h5 tk5 F N
  rw [show (List.replicate ys.length true).all id = true by simp]
  exact h h5 tk5 F N
theorem machF_call {w : World} {dp un : Nat} {fr : Option (List Env)} {gd : Option (List Code)} {s : Shared} {b : Addr} {v0 : Value} {items : List Value} (hroom : dp + 1 < recursionLimit) (hb : IsTup s.heap b (v0 :: items).toArray) (hM : MachOk s.heap items) :
    Calls w ⟨none, dp, fr, gd, un⟩ 83 [.ref b] s [] (SPost (Str.ofString "")) := by
  walk_at "m_enterC"
  intro g h₁ tk cells G F N Y hlow hkeep
  (try dsimp only)
  have GG := G
  have hsg : ∀ b o, s.heap.get? b = some o → g.get? b = some o := fun b o e => hkeep b o e (fun _ h => nomatch h)
  obtain ⟨X, mean, mg, mb, T⟩ := G
  have hM := machOk_keeps hsg hM
  have hb := hb.keeps hsg
  obtain ⟨v1, rows, r1, r2, fin, t2, t3, st, ts, x11, x12, x21, x22, u11, u12, u21, u22, fi, tf, rfl, m1, m2, m3, m4, b11, b12, b21, b22, bs, bf⟩ := hM
  obtain ⟨o₁, o₂, hE, d1, d2⟩ := CellsAre.two Y
  subst hE
  (try simp only [List.cons_append, List.nil_append] at N)
  (try k_fold)
  iterate 9 (walk_at "m_1")
  refine sliceN_T (s := ⟨_, _, _, _, _⟩) 2 (by k_asm) (by k_asm) hb (by decide) (by simp) ?_ (by with_unfolding_all rfl) (by kmk_pure) (by rw [sizeLine_eq]; simp)
  intro D h2 F N
  (try simp only [List.drop_succ_cons, List.drop_zero] at N)
  (try k_fold)
  iterate 29 (walk_at "m_1")
  refine lenTup_M (by k_asm) m1 2 rfl (by decide) ?_
  iterate 3 (walk_at "m_1")
  walk_at "m_1"
  (try k_fold)
  iterate 7 (walk_at "m_1")
  obtain ⟨oS, oL, hS, hL, NE⟩ : ∃ oS oL : Obj, oS.data = .cell (some (.int 2 t2)) ∧ oL.data = .cell (some (.int 2 t3)) ∧ News g s.heap.objs.size _ ([(D, _)] ++ [(s.heap.objs.size + 1 + 1, oL), (s.heap.objs.size + 1, oS)]) := ⟨_, _, by assumption, by assumption, by assumption⟩
  refine listComp_T (by k_asm) (by with_unfolding_all rfl) (by decide) (by rfl) (by decide) (by rfl) ?_
  walk_at "m_1"
  refine compT_flat (fun i y => y = .bool true) [(s.heap.objs.size + 1 + 1, oL), (s.heap.objs.size + 1, oS)] rfl (by k_asm) (by k_asm) m1 (by rw [sizeLine_eq]; simp) (by walk_at "m_sub") ?_ ?_
  · intro g' i2 v C oC m₂ h2 tk2 news Q E hv hNC hx F N hC hmust ret
    have hcell := hmust _ (.head _)
    have hrow : ∃ r x y t u, v = .ref r ∧ IsTup g r #[.int x t, .int y u] := by
      match i2, hv with
      | 0, hv => cases hv; exact ⟨_, _, _, _, _, rfl, m2⟩
      | 1, hv => cases hv; exact ⟨_, _, _, _, _, rfl, m3⟩
      | n + 2, hv => simp at hv
    obtain ⟨r, x, y, t, u, rfl, hr⟩ := hrow
    (try k_fold)
    iterate 7 (walk_at "m_1")
    refine lenTup_M (by k_asm) hr 2 rfl (by decide) ?_
    (try k_fold)
    walk_at "m_1"
    walk_at "m_1"
    walk_at "m_1"
    refine ret _ _ _ ?_ (by k_asm) (by k_asm)
    first | rfl | (simp; done) | decide
  · intro D h2 tk2 ys2 F N hap hl2 hr2
    (try k_fold)
    walk_at "m_1"
    refine allT_M rfl (by k_asm) (by k_asm) (.head _) hr2 ?_
    intro h5 tk5 F N
    (try k_fold)
    iterate 15 (walk_at "m_1")
    refine listComp2_T (P := fun v => ∃ (n : Int) (t : Tok), v = Value.int n t ∧ 0 ≤ n ∧ n < 3) (by k_asm) 2 (fun y => y = .bool true) (by decide) (by with_unfolding_all rfl) (by decide) (by rfl) (by decide) (by rfl) (by rfl) m1 ?_ (by rw [sizeLine_eq]; simp) ?_
    · intro v hv
      rcases List.mem_cons.mp hv with rfl | hv
      · refine ⟨_, _, rfl, m2, by simp, fun y hy => ?_⟩
        rcases List.mem_cons.mp hy with rfl | hy
        · exact ⟨_, _, rfl, b11⟩
        · rw [List.mem_singleton.mp hy]; exact ⟨_, _, rfl, b12⟩
      · rw [List.mem_singleton.mp hv]
        refine ⟨_, _, rfl, m3, by simp, fun y hy => ?_⟩
        rcases List.mem_cons.mp hy with rfl | hy
        · exact ⟨_, _, rfl, b21⟩
        · rw [List.mem_singleton.mp hy]; exact ⟨_, _, rfl, b22⟩
    walk_at "m_1"
    refine ⟨[(s.heap.objs.size + 1 + 1, oL), (s.heap.objs.size + 1, oS)], rfl, rfl, by k_asm, news_sub (by k_asm) (by walk_at "m_sub"), ?_, ?_⟩
    · intro g' v C oC m₂ h2 tk2 nw Q E hv hNC hx F N hC hmust ret
      obtain ⟨n, t, rfl, hn0, hn3⟩ := hv
      have hcell := hmust (s.heap.objs.size + 1, oS) (.tail _ (.head _))
      (try k_fold)
      dsimp only
      iterate 4 (walk_at "m_1")
      walk_at "m_1"
      walk_at "m_1"
      rw [if_pos (decide_eq_true hn0)]
      iterate 2 (walk_at "m_1")
      walk_at "m_1"
      refine ret _ _ _ ?_ (by k_asm) (by k_asm)
      show Value.bool _ = _
      rw [decide_eq_true (show n ≤ 2 by omega)]
    · intro D h2 tk2 ys2 F N hr2
      (try k_fold)
      walk_at "m_1"
      refine allT_M rfl (by k_asm) (by k_asm) (.head _) (fun i y hy => hr2 y (List.mem_of_getElem? hy)) ?_
      intro h5 tk5 F N
      (try k_fold)
      iterate 12 (walk_at "m_1")
      refine listComp_L (by k_asm) (by with_unfolding_all rfl) (by decide) (by rfl) (by decide) (by rfl) ?_
      iterate 7 (walk_at "m_1")
      refine addL_M (vs := [Value.int st ts]) (ws := [Value.int fi tf]) (by k_asm) (by k_asm) (News.isTup (by k_asm) (.head _)) (m4.keeps (Fr.keep (by k_asm))) (by simp) (by simp) (by rw [sizeLine_eq]; simp) ?_
      intro D h5 kk F N
      skip
      refine compL_flat (fun i y => y = .bool true) [(s.heap.objs.size + 1 + 1, oL), (s.heap.objs.size + 1, oS)] rfl (by k_asm) (by k_asm) (.head _) (by rw [sizeLine_eq]; simp) (by walk_at "m_sub") ?_ ?_
      · intro g' i2 v C oC m₂ h2 tk2 news Q E hv hNC hx F N hC hmust ret
        have hcell := hmust (s.heap.objs.size + 1, oS) (.tail _ (.head _))
        have hrow : ∃ n t, v = .int n t ∧ 1 ≤ n ∧ n ≤ 2 := by
          match i2, hv with
          | 0, hv => cases hv; exact ⟨_, _, rfl, bs⟩
          | 1, hv => cases hv; exact ⟨_, _, rfl, bf⟩
          | n + 2, hv => simp at hv
        obtain ⟨n, t, rfl, hn1, hn2⟩ := hrow
        dsimp only
        iterate 4 (walk_at "m_1")
        walk_at "m_1"
        walk_at "m_1"
        rw [if_pos (decide_eq_true hn1)]
        iterate 2 (walk_at "m_1")
        walk_at "m_1"
        refine ret _ _ _ ?_ (by k_asm) (by k_asm)
        show Value.bool _ = _
        rw [decide_eq_true hn2]
      · intro D h2 tk2 ys2 F N hap hl2 hr2
        (try k_fold)
        walk_at "m_1"
        refine allT_M rfl (by k_asm) (by k_asm) (.head _) hr2 ?_
        intro h5 tk5 F N
        (try k_fold)
        k_steps
        exact done_of (led := []) (by k_asm) (by k_asm) (fun _ h => nomatch h) ⟨rfl, _, rfl⟩
end
local macro_rules | `(tactic| walk_at "m_isi") => `(tactic| (k_here; (with_reducible show wpAny _ _ (call (Value.builtin "isinstance") [Value.ref _, Value.type "tuple"]) _ _ _); k_dflt (refine' isTup_M ?F ?t ?_; (case F => k_asm); (case t => with_reducible assumption)); k_whole))
section
open PyProof.V PySem.Spec
local macro_rules | `(tactic| walk_at "subscriptTail Name Constant ref int") => `(tactic| walk_at "m_s0")
local macro_rules | `(tactic| walk_at "call builtin:isinstance") => `(tactic| walk_at "m_isi")
def FaultSpec (w : World) (dd : Nat) (T : Int → Int) (word : Str) (ps : List P1) : Prop :=
  ∀ (dp un : Nat) (fr : Option (List Env)) (gd : Option (List Code)) (s : Shared) (al : Led) (b : Addr) (u : Tok), dp + dd < recursionLimit → DatIn al (.ref b) (told1 T word ps) → (∀ q ∈ al, s.heap.get? q.1 = some q.2) →
    Calls w ⟨none, dp, fr, gd, un⟩ 88 [.ref b, .int 6 u] s [] (SPost (Str.ofString ""))
theorem flat_str {v : Value} {x : Str} (h : Flat v (.str x)) : ∃ t, v = .str x t := let ⟨t, e, _⟩ := reads_str_inv (h ({} : Heap)); ⟨t, e⟩
/-- the part of a word's form within one of its places -/
def FitsFn (w : World) (dd : Nat) (c : Nat) (d : Dat) : Prop :=
  ∀ (dp un : Nat) (fr : Option (List Env)) (gd : Option (List Code)) (s : Shared) (al : Led) (v : Value) (tc u : Tok), dp + dd < recursionLimit → DatIn al v d → (∀ q ∈ al, s.heap.get? q.1 = some q.2) → Calls w ⟨none, dp, fr, gd, un⟩ 78 [.str ⟨#[c]⟩ tc, v, .int 6 u] s [] (BPost true)
theorem lenStr_M {prog : Program} {w : World} {A : Around} {E : Value → Shared → Prop} {s : Shared} {x : Str} {t : Tok} {Q : Value → Shared → Prop} (n : Nat) (hn : x.cps.size = n) (h6 : n ≤ 2000) (h : Q (.int (n : Int) (s.toks + 1)) { s with toks := s.toks + 1 + 1 }) :
    wpAny (model prog w) A (call (.builtin "len") [.str x t]) Q E s := by
  subst hn
  exact len_str (by show ¬ ((x.cps.size : Int) ≥ 2 ^ 63); have := Int.lt_of_le_of_lt (Int.ofNat_le.mpr h6) (show ((2000 : Nat) : Int) < 2 ^ 63 by decide); omega) h
theorem str_use {w : World} {A : Around} {f : Addr} {args : List Value} {s : Shared} {x : Str} (C : Calls w A f args s [] (SPost x)) {h₀ : Heap} {L : Addr} {m : Str → Option Value} {Q E : Value → Shared → Prop} {news : Led}
    (G : G0 w h₀) (F : Fr h₀ L s.heap m) (N : News h₀ L s.heap news)
    (ret : ∀ t h' tk', Fr h₀ L h' m → News h₀ L h' news → Q (.str x t) { s with heap := h', toks := tk' }) :
    wpAny (model PySem.Challenge.rw_pc0027_01.row.prog w) A (call (.ref f) args) Q E s :=
  C h₀ L m news Q E G F N (fun _ _ _ h => nomatch h) fun r led h' tk' F' N' ⟨el, t, e⟩ => by
    subst e; subst el
    exact ret t h' tk' F' N'
theorem fault_x {w : World} {dd : Nat} {word : Str} {ps : List P1} {cs : List Nat} (hdd : 1 ≤ dd) (hsm : Small ps) (hlook : lookup (.str word) formsD = some (.str ⟨cs.toArray⟩)) (hfit : FitAll (FitsFn w dd) cs (ps.map (P1.told id))) (htl : ∀ (g : Heap) (al : Led) (v0 : Value) (items : List Value), (mk.heap_1 w.params).In g → (∀ q ∈ al, g.get? q.1 = some q.2) → DatAll al items (ps.map (P1.told id)) → TailOk g word v0 items) : FaultSpec w (dd + 1) id word ps := by
  intro dp un fr gd s al b u hroom hb hal
  walk_at "m_enterC"
  intro g h₁ tk cells G F N Y hlow hkeep
  (try dsimp only)
  have GG := G
  have hsg : ∀ b o, s.heap.get? b = some o → g.get? b = some o := fun b o e => hkeep b o e (fun _ h => nomatch h)
  have halg : ∀ q ∈ al, g.get? q.1 = some q.2 := fun q hq => hsg _ _ (hal q hq)
  obtain ⟨X, mean, mg, mb, TT⟩ := G
  obtain ⟨o₁, hE, d1⟩ := CellsAre.one Y
  subst hE
  (try simp only [List.cons_append, List.nil_append] at N)
  obtain ⟨_, vs0, kb, hbe, hbm, hball⟩ := datIn_tup hb
  cases hbe
  cases hball with
  | cons h0 hitems =>
  rename_i v0 items
  obtain ⟨t0, rfl⟩ := datIn_str h0
  have hbl : IsTup g b (Value.str word t0 :: items).toArray := ⟨_, halg _ hbm, rfl, _, rfl⟩
  have hil : items.length = ps.length := by rw [hitems.length, List.length_map]
  have hsm1 := hsm.1
  have hcs : cs.length = ps.length := by rw [hfit.1, List.length_map]
  have hcl : (⟨cs.toArray⟩ : Str).cps.size = ps.length := by simp [hcs]
  have hFT := forms_tab X
  (try k_fold)
  iterate 24 (walk_at "m_1")
  refine lenTup_M (by k_asm) hbl (ps.length + 1) (by simp [hil]) (by omega) ?_
  iterate 3 (walk_at "m_1")
  walk_at "m_1"
  · rename_i a
    exfalso
    omega
  iterate 24 (walk_at "m_1")
  refine notin_tab PyProof.V.same_str (strKind_is _ _ _ _) (hFT.keep (Fr.keep (by k_asm))) ?_
  rw [hlook]
  (try simp only [Option.isSome_some, Bool.not_true])
  (try k_fold)
  iterate 22 (walk_at "m_1")
  refine item_tab (enc := PyData.str) PyProof.V.same_str (strKind_is _ _ _ _) (hFT.keep (Fr.keep (by k_asm))) hlook ?_ (by with_unfolding_all rfl) (by kmk_pure)
  intro v hv
  obtain ⟨tv, rfl⟩ := flat_str hv
  (try k_fold)
  iterate 21 (walk_at "m_1")
  refine lenTup_M (by k_asm) hbl (ps.length + 1) (by simp [hil]) (by omega) ?_
  (try k_fold)
  iterate 7 (walk_at "m_1")
  refine lenStr_M ps.length hcl (by omega) ?_
  iterate 5 (walk_at "m_1")
  walk_at "m_1"
  · rename_i a
    exfalso
    omega
  (try k_fold)
  iterate 4 (walk_at "m_1")
  refine For_turns (by k_asm) ?_
  iterate 6 (walk_at "m_1")
  refine enum_M (rest := [(s.heap.objs.size + 1, o₁)]) rfl (by k_asm) (by k_asm) (by walk_at "m_sub")
    (fun i m nx => m (Str.ofString "name") = some (.str word t0) ∧ m (Str.ofString "many") = some (.int 6 u) ∧ nx = [(s.heap.objs.size + 1, o₁)])
    ⟨rfl, rfl, rfl⟩ ?turn ?done
  case turn =>
    rintro i P c tt uu m₁ nx h₁ tk₁ own wr hi hP hc ⟨hm1, hm2, rfl⟩ hown hw hnx F N
    rw [map_form hm1] at F
    rw [map_form hm2] at F
    rw [hcl] at hi
    have hci : cs[i]? = some c := by simpa using hc
    have hpi : ps[i]? = some ps[i] := by simp [hi]
    have hdi : (ps.map (P1.told id))[i]? = some (ps[i].told id) := by rw [List.getElem?_map, hpi]; rfl
    obtain ⟨y, hyi⟩ : ∃ y, items[i]? = some y := ⟨_, List.getElem?_eq_getElem (by omega)⟩
    obtain ⟨d', hd', hy⟩ := datAll_at hitems hyi
    rw [hdi] at hd'
    cases hd'
    (try k_fold)
    iterate 25 (walk_at "m_1")
    refine itemN_T (i + 1) (by k_asm) hbl (by omega) (show (Value.str word t0 :: items)[i + 1]? = some y by rw [List.getElem?_cons_succ]; exact hyi) (by omega) ?_ (by with_unfolding_all rfl)
    (try k_fold)
    iterate 5 (walk_at "m_1")
    refine test_use (hfit.2 i c _ hci hdi _ _ _ _ _ al _ _ _ (by walk_at "m_om") hy (fun q hq => Fr.keep (by k_asm) _ _ (halg q hq))) GG (by k_asm) (by k_asm) ?_
    intro h8 tk8 F N
    (try k_fold)
    k_steps
    refine turnEnd_of (nx := [(s.heap.objs.size + 1, o₁)]) (by k_asm) (by k_asm) (by walk_at "m_sub") (by walk_at "m_sub") hnx ⟨rfl, rfl, rfl⟩
  case done =>
    rintro h' tk m' nx F N ⟨hm1, hm2, rfl⟩
    rw [map_form hm1] at F
    rw [map_form hm2] at F
    have TL := htl g al (.str word t0) items X halg hitems
    have hlt : (Value.str word t0 :: items).length ≤ sizeLine := by rw [sizeLine_eq]; simp only [List.length_cons]; omega
    refine cut_M (by k_asm) (fun m nx => m (Str.ofString "name") = some (.str word t0) ∧ nx = [(s.heap.objs.size + 1, o₁)]) ?s1 ?s2
    case s1 =>
      skip
      refine For_turns (by k_asm) ?_
      iterate 2 (walk_at "m_1")
      refine pairs_method X (by k_asm) ?_
      iterate 8 (walk_at "m_1")
      rcases TL.p with hp | ⟨pa, prs, hp, hpa, hprs⟩
      · refine pairs_get X (by k_asm) none hp ?_
        (try simp only [Option.getD_none])
        k_steps
        exact cutEnd_of (by k_asm) (by k_asm) (by walk_at "m_sub") ⟨rfl, rfl⟩
      · refine pairs_get X (by k_asm) (some (.ref pa)) hp ?_
        simp only [Option.getD_some]
        refine iterT_M (rest := [(s.heap.objs.size + 1, o₁)]) rfl (by k_asm) (by k_asm) hpa (by walk_at "m_sub") (fun i m nx => m (Str.ofString "name") = some (.str word t0) ∧ nx = [(s.heap.objs.size + 1, o₁)]) ⟨rfl, rfl⟩ ?turn ?done
        case turn =>
          rintro i v m₁ nx h₁ tk₁ own wr hv ⟨hm1, rfl⟩ hown hw hnx F N
          rw [map_form hm1] at F
          obtain ⟨T, i', j', t, u, rfl, hT, hi, hj, a, b', vs, ws, h1, h2, h3, h4, h5, h6⟩ := hprs v (List.mem_of_getElem? hv)
          (try k_fold)
          iterate 20 (walk_at "m_1")
          refine itemN_T i' (by k_asm) hbl rfl h1 (by omega) ?_ (by with_unfolding_all rfl)
          walk_at "m_1"
          refine lenTup_M (by k_asm) h2 vs.length rfl (by omega) ?_
          iterate 7 (walk_at "m_1")
          refine itemN_T j' (by k_asm) hbl rfl h3 (by omega) ?_ (by with_unfolding_all rfl)
          walk_at "m_1"
          refine lenTup_M (by k_asm) h4 ws.length rfl (by omega) ?_
          iterate 2 (walk_at "m_1")
          walk_at "m_1"
          · exfalso
            rename_i e
            omega
          k_steps
          refine turnEnd_of (nx := [(s.heap.objs.size + 1, o₁)]) (by k_asm) (by k_asm) (by walk_at "m_sub") (by walk_at "m_sub") hnx ⟨rfl, rfl⟩
        case done =>
          rintro h' tk m' nx F N ⟨hm1, rfl⟩
          exact cutEnd_of (by k_asm) (by k_asm) (by walk_at "m_sub") ⟨hm1, rfl⟩
    case s2 =>
    rintro h' tk m' nx F N ⟨hm1, rfl⟩
    rw [map_form hm1] at F
    refine cut_M (by k_asm) (fun m nx => m (Str.ofString "name") = some (.str word t0) ∧ nx = [(s.heap.objs.size + 1, o₁)]) ?s1 ?s2
    case s1 =>
      have hTc := TL.c
      rcases hTc with e1 | ⟨rfl, v1, v2, v3, n, tn, a, b', rfl, ha, hb', h0, hla, hlb⟩
      · (try k_fold)
        k_steps
        exact cutEnd_of (by k_asm) (by k_asm) (by walk_at "m_sub") ⟨rfl, rfl⟩
      · (try k_fold)
        iterate 19 (walk_at "m_1")
        obtain ⟨a2, vs2, rfl, h2, i2⟩ := ha
        obtain ⟨a3, vs3, rfl, h3, i3⟩ := hb'
        have hl2 := i2.length
        have hl3 := i3.length
        refine itemN_T 2 (by k_asm) hbl rfl rfl (by omega) ?_ (by with_unfolding_all rfl)
        iterate 3 (walk_at "m_1")
        refine itemN_T 3 (by k_asm) hbl rfl rfl (by omega) ?_ (by with_unfolding_all rfl)
        skip
        refine addT_M (x := [(s.heap.objs.size + 1, o₁)]) (by k_asm) (by k_asm) (by walk_at "m_sub") (TupAt.base h2) (TupAt.base h3) (by rw [sizeLine_eq]; omega) ?_
        intro r h8 y F N hxy hT
        iterate 7 (walk_at "m_1")
        refine sliceN_T (s := ⟨_, _, _, _, _⟩) 4 (by k_asm) (by k_asm) hbl (by decide) (by simp) ?_ (by with_unfolding_all rfl) (by kmk_pure) hlt
        intro D h9 F N
        (try simp only [List.drop_succ_cons, List.drop_zero] at N)
        skip
        refine addT_M (ws := [Value.int n tn]) (by k_asm) N (fun q hq => hq) (hT.mono (fun q hq => .tail _ hq)) (TupAt.led (.head _)) (by rw [sizeLine_eq, List.length_append]; simp only [List.length_cons, List.length_nil]; omega) ?_
        intro r2 h10 y2 F N2 hxy2 hT2
        walk_at "m_1"
        refine minT_M rfl (by k_asm) N2 (fun q hq => hq) hT2 (ns := (a ++ b') ++ [n]) (IntsAre.append (IntsAre.append i2 i3) (.cons n tn .nil)) (by rw [List.length_append, List.length_append]; simp only [List.length_cons]; omega) ?_
        intro h11 M uM tk11 F N hM
        have hM0 : 0 ≤ M := h0 M (by rw [← List.append_assoc]; exact hM)
        k_steps
        exact cutEnd_of (by k_asm) (by k_asm) (by walk_at "m_sub") ⟨rfl, rfl⟩
    case s2 =>
    rintro h' tk m' nx F N ⟨hm1, rfl⟩
    rw [map_form hm1] at F
    dsimp only
    refine cut_M (by k_asm) (fun m nx => m (Str.ofString "name") = some (.str word t0) ∧ nx = [(s.heap.objs.size + 1, o₁)]) ?s1 ?s2
    case s1 =>
      rcases TL.d with e1 | ⟨rfl, v1, v2, a, rfl, ha, h0, hla⟩
      · (try k_fold)
        k_steps
        exact cutEnd_of (by k_asm) (by k_asm) (by walk_at "m_sub") ⟨rfl, rfl⟩
      · (try k_fold)
        iterate 18 (walk_at "m_1")
        obtain ⟨a2, vs2, rfl, h2, i2⟩ := ha
        have hl2 := i2.length
        refine itemN_T 2 (by k_asm) hbl rfl rfl (by omega) ?_ (by with_unfolding_all rfl)
        iterate 5 (walk_at "m_1")
        rename_i D8 h8 F8 N8 l80 l81 l82
        refine addT_M (ws := [Value.int 0 _]) F8 N8 (fun q hq => hq) (TupAt.base h2) (TupAt.led (.head _)) (by rw [sizeLine_eq]; simp only [List.length_cons, List.length_nil]; omega) ?_
        intro r2 h10 y2 F N2 hxy2 hT2
        walk_at "m_1"
        refine minT_M rfl (by k_asm) N2 (fun q hq => hq) hT2 (ns := a ++ [0]) (IntsAre.append i2 (.cons 0 _ .nil)) (by rw [List.length_append]; simp only [List.length_cons]; omega) ?_
        intro h11 M uM tk11 F N hM
        have hM0 : 0 ≤ M := by
          rcases List.mem_append.mp hM with hM | hM
          · exact h0 M hM
          · rw [List.mem_singleton.mp hM]; exact Int.le_refl _
        k_steps
        exact cutEnd_of (by k_asm) (by k_asm) (by walk_at "m_sub") ⟨rfl, rfl⟩
    case s2 =>
    rintro h' tk m' nx F N ⟨hm1, rfl⟩
    rw [map_form hm1] at F
    dsimp only
    refine cut_M (by k_asm) (fun m nx => m (Str.ofString "name") = some (.str word t0) ∧ nx = [(s.heap.objs.size + 1, o₁)]) ?s1 ?s2
    case s1 =>
      rcases TL.m with e1 | ⟨rfl | rfl, v1, v2, a, rfl, ha, h0, hla⟩
      · (try k_fold)
        k_steps
        exact cutEnd_of (by k_asm) (by k_asm) (by walk_at "m_sub") ⟨rfl, rfl⟩
      all_goals
        (try k_fold)
        iterate 23 (walk_at "m_1")
        obtain ⟨a1, vs1, rfl, h1, i1⟩ := ha
        have hl1 := i1.length
        refine itemN_T 1 (by k_asm) hbl rfl rfl (by omega) ?_ (by with_unfolding_all rfl)
        walk_at "m_1"
        refine lenTup_M (by k_asm) h1 vs1.length rfl (by omega) ?_
        iterate 3 (walk_at "m_1")
        walk_at "m_1"
        · exfalso
          rename_i e
          omega
        k_steps
        exact cutEnd_of (by k_asm) (by k_asm) (by walk_at "m_sub") ⟨rfl, rfl⟩
    case s2 =>
    rintro h' tk m' nx F N ⟨hm1, rfl⟩
    rw [map_form hm1] at F
    dsimp only
    refine cut_M (by k_asm) (fun m nx => m (Str.ofString "name") = some (.str word t0) ∧ nx = [(s.heap.objs.size + 1, o₁)]) ?s1 ?s2
    case s1 =>
      rcases TL.t with e1 | ⟨rfl, v1, a, r, rs, rfl, ha, hla, hr, hrl, hrs⟩
      · (try k_fold)
        k_steps
        exact cutEnd_of (by k_asm) (by k_asm) (by walk_at "m_sub") ⟨rfl, rfl⟩
      · obtain ⟨a1, vs1, rfl, h1, i1⟩ := ha
        have hl1 := i1.length
        (try k_fold)
        iterate 15 (walk_at "m_1")
        refine listComp_T (by k_asm) (by with_unfolding_all rfl) (by decide) (by rfl) (by decide) (by rfl) ?_
        iterate 3 (walk_at "m_1")
        refine itemN_T 2 (by k_asm) hbl rfl rfl (by omega) ?_ (by with_unfolding_all rfl)
        skip
        refine compT_flat (fun i y => y = .bool true) [(s.heap.objs.size + 1, o₁)] rfl (by k_asm) (by k_asm) hr (by rw [sizeLine_eq]; omega) (by walk_at "m_sub") ?_ ?_
        · intro g' i2 v C oC m₂ h2 tk2 news Q E hv hNC hx F N hC hmust ret
          have hcell := hmust _ (.head _)
          obtain ⟨is, ⟨ai, vi, rfl, hi, ii⟩, hil2⟩ := hrs v (List.mem_of_getElem? hv)
          have hli := ii.length
          dsimp only
          iterate 7 (walk_at "m_1")
          refine lenTup_M (by k_asm) hi vi.length rfl (by omega) ?_
          iterate 7 (walk_at "m_1")
          refine itemN_T 1 (by k_asm) hbl rfl rfl (by omega) ?_ (by with_unfolding_all rfl)
          walk_at "m_1"
          refine lenTup_M (by k_asm) h1 vs1.length rfl (by omega) ?_
          skip
          walk_at "m_1"
          refine ret _ _ _ ?_ (by k_asm) (by k_asm)
          show Value.bool _ = _
          rw [show (vi.length : Int) = vs1.length by omega]
          simp
        · intro D h2 tk2 ys2 F N hap hl2 hr2
          (try k_fold)
          walk_at "m_1"
          refine allT_M rfl (by k_asm) (by k_asm) (.head _) hr2 ?_
          intro h5 tk5 F N
          (try k_fold)
          k_steps
          exact cutEnd_of (by k_asm) (by k_asm) (by walk_at "m_sub") ⟨rfl, rfl⟩
    case s2 =>
    rintro h' tk m' nx F N ⟨hm1, rfl⟩
    rw [map_form hm1] at F
    dsimp only
    rcases TL.r with e1 | ⟨rfl, hM⟩
    · (try k_fold)
      k_steps
      exact done_of (led := []) (by k_asm) (by k_asm) (fun _ h => nomatch h) ⟨rfl, _, rfl⟩
    · (try k_fold)
      iterate 16 (walk_at "m_1")
      refine str_use (machF_call (by walk_at "m_om") (hbl.keeps (Fr.keep (by k_asm))) (machOk_keeps (Fr.keep (by k_asm)) hM)) GG (by k_asm) (by k_asm) ?_
      intro t9 h9 tk9 F N
      (try k_fold)
      k_steps
      exact done_of (led := []) (by k_asm) (by k_asm) (fun _ h => nomatch h) ⟨rfl, _, rfl⟩
end
section
open PyProof.V PySem.Spec
local macro_rules | `(tactic| walk_at "subscriptTail Name Constant ref int") => `(tactic| walk_at "m_s0")
local macro_rules | `(tactic| walk_at "call builtin:isinstance") => `(tactic| walk_at "m_isi")
theorem fitsFn_of {w : World} {dd c : Nat} {d : Dat} (h : Fit0 c d) (hdd : 3 ≤ dd) : FitsFn w dd c d := fun _ _ _ _ _ _ _ _ _ hroom hd hal => fits_call (by omega) h hd hal
theorem fits_t {w : World} {dd : Nat} {v : Str} {qs : List P0} (hv : anyOf linWords v) (hq : qs.length ≤ 1000) (hF : FaultSpec w dd id v (qs.map .p)) : FitsFn w (dd + 1) 116 (.tuple (.str v :: qs.map (P0.told id))) := by
  intro dp un fr gd s al v1 tc u hroom hd hal
  obtain ⟨b, rfl⟩ := datIn_ref hd
  walk_at "m_enterC"
  intro g h₁ tk cells G F N Y hlow hkeep
  (try dsimp only)
  have GG := G
  have hsg : ∀ b o, s.heap.get? b = some o → g.get? b = some o := fun b o e => hkeep b o e (fun _ h => nomatch h)
  have halg : ∀ q ∈ al, g.get? q.1 = some q.2 := fun q hq => hsg _ _ (hal q hq)
  obtain ⟨X, mean, mg, mb, T⟩ := G
  obtain ⟨o₁, hE, d1⟩ := CellsAre.one Y
  subst hE
  (try simp only [List.cons_append, List.nil_append] at N)
  have hb2 : DatIn al (.ref b) (told1 id v (qs.map P1.p)) := by rw [told1, told_p]; exact hd
  obtain ⟨_, vs0, kb, hbe, hbm, hball⟩ := datIn_tup hd
  cases hbe
  cases hball with
  | cons h0 hitems =>
  rename_i v0 items
  obtain ⟨t0, rfl⟩ := datIn_str h0
  have hil : items.length = qs.length := by rw [hitems.length, List.length_map]
  have hbl : IsTup g b (Value.str v t0 :: items).toArray := ⟨_, halg _ hbm, rfl, _, rfl⟩
  obtain ⟨t4, t5, t6, hst⟩ := linear_tup X
  (try k_fold)
  iterate 82 (walk_at "m_1")
  refine lenTup_M (by k_asm) hbl (qs.length + 1) (by simp [hil]) (by omega) ?_
  iterate 11 (walk_at "m_1")
  refine in_tuple_strs (ys := [Str.ofString "linear_le", Str.ofString "linear_eq", Str.ofString "linear_ne"]) (hst.keeps (Fr.keep (by k_asm))) (.cons _ _ (.cons _ _ (.cons _ _ .nil))) ?_
  rw [show ([Str.ofString "linear_le", Str.ofString "linear_eq", Str.ofString "linear_ne"].any fun y => y == v) = true from hv]
  (try k_fold)
  iterate 14 (walk_at "m_1")
  refine str_use (hF _ _ _ _ _ al b _ (by walk_at "m_om") hb2 (fun q hq => Fr.keep (by k_asm) _ _ (halg q hq))) GG (by k_asm) (by k_asm) ?_
  intro t9 h9 tk9 F N
  (try k_fold)
  k_steps
  exact done_of (led := []) (by k_asm) (by k_asm) (fun _ h => nomatch h) ⟨rfl, rfl⟩
theorem fitAll_mono {f g : Nat → Dat → Prop} {cs : List Nat} {ds : List Dat} (h : FitAll f cs ds) (i : ∀ c d, f c d → g c d) : FitAll g cs ds := ⟨h.1, fun j c d a b => i c d (h.2 j c d a b)⟩
theorem small_len {ps : List P1} (h : Small ps) : ps.length ≤ 10 := h.1
theorem fault_flat {w : World} {v : Str} {qs : List P0} (h : Ok0 v qs) : FaultSpec w 4 id v (qs.map .p) := by
  obtain ⟨cs, hl, hf⟩ := form0 h
  refine fault_x (by decide) (small0 h) hl (by rw [told_p]; exact fitAll_mono hf fun c d h => fitsFn_of h (by decide)) fun g al v0 items X hal hit => ?_
  rw [told_p] at hit
  exact tail_of X h hal hit
theorem fault_all {w : World} {word : Str} {ps : List P1} (h : Ok1 word ps) : FaultSpec w 6 id word ps := by
  cases h with
  | flat h0 =>
    intro dp un fr gd s al b u hroom
    exact fault_flat h0 dp un fr gd s al b u (by omega)
  | @rei i v qs hw hi hv hq =>
    have hlen := small_len (small0 hq)
    rw [List.length_map] at hlen
    exact fault_x (cs := [120, 116]) (by decide) (small1 (.rei hw hi hv hq)).1 (forms_of (by decide +kernel) hw)
      (fitAll_cons (fitsFn_of (.x hi.1 hi.2) (by decide)) (fitAll_cons (fits_t hv (by omega) (fault_flat hq)) fitAll_nil))
      fun g al v0 items X hal hit => tail_plain (plain_of (by decide +kernel) hw)
end
section
open PyProof.V PySem.Spec LCg
theorem FeedFn.useL {w : World} {f : Addr} {args : List Value} {dd k : Nat} {D : Dat → Prop} (C : FeedFn w f args dd k D) {dp un : Nat} {fr : Option (List Env)} {gd : Option (List Code)} {s : Shared} {feed c : Addr} {fo oc : Obj} {p kc : Nat}
    {h₀ : Heap} {L : Addr} {m : Str → Option Value} {Q E : Value → Shared → Prop} {news : Led} {ws : List Value} {ns : List Int} (cold : Led)
    (hd : dp + dd < recursionLimit) (hp : p + k < 100000) (hF : FeedObj w fo c p) (hi : IntsAre ws ns) (hl : ns.length ≤ 60) (hne : c ≠ feed) (G : G0 w h₀) (F : Fr h₀ L s.heap m) (N : News h₀ L s.heap news)
    (hcm : (c, oc) ∈ news) (hcc : oc.cls = .type "list") (hcd : oc.data = .seq ws.toArray kc) (hm : (feed, fo) ∈ news) (hs : ∀ q ∈ cold, q ∈ news) (hap : ∀ q ∈ cold, q.1 ≠ feed)
    (ret : ∀ r fo' tl p' d h' tk', Fr h₀ L h' m → News h₀ L h' ((feed, fo') :: (tl ++ cold)) → FeedObj w fo' c p' → p' ≤ p + k → (∀ q ∈ tl, L < q.1) → (∀ q ∈ tl, ∀ q' ∈ news, q'.1 < q.1) → DatIn tl r d → D d → Q r { s with heap := h', toks := tk' }) :
    wpAny (model PySem.Challenge.rw_pc0027_01.row.prog w) ⟨none, dp, fr, gd, un⟩ (call (.ref f) (.ref feed :: args)) Q E s := by
  have lt : ∀ q ∈ news, q.1 < s.heap.objs.size := fun q hq => Heap.lt_size (N q hq).1
  refine C dp un fr gd s feed c fo p hd hp hF ⟨ws, ns, ⟨oc, (N _ hcm).1, hcc, kc, hcd⟩, hi, hl⟩ hne h₀ L m cold Q E G F ?_ ?_ ?_
  · intro q hq
    rcases List.mem_append.mp hq with hq | hq
    · rw [List.mem_singleton.mp hq]; exact N _ hm
    · exact N q (hs q hq)
  · intro q hq q' hq'
    rw [List.mem_singleton.mp hq']; exact hap q hq
  · rintro r led h' tk' F' N' ⟨fo', tl, p', d, rfl, hF', hp', hfr, hd', hD⟩
    exact ret r fo' tl p' d h' tk' F' N' hF' hp' (fun q hq => Nat.lt_trans F.ns.lt (hfr q hq)) (fun q hq q' hq' => Nat.lt_trans (lt q' hq') (hfr q hq)) hd' hD
section
variable {prog : Program} {w : World} {A : Around} {E : Value → Shared → Prop} {s : Shared} {env : Env} {g : Heap} {body : List Stmt} {Q : Flow → Shared → Prop}
/-- for x in range(n), by an invariant -/
theorem rangeFor_M {x : Str} {px : Pos} {r : Addr} {n : Nat} {t u v : Tok} {m : Str → Option Value} {news rest : Led}
    (hh : A.handled = none) (F : Fr g env.locals s.heap m) (N : News g env.locals s.heap news) (hr : IsRange s.heap r 0 (n : Int) 1 t u v) (hn : n ≤ 10) (hrs : ∀ q ∈ rest, q ∈ news)
    (J : Nat → (Str → Option Value) → Led → Prop) (h0 : J 0 m rest)
    (turn : ∀ i tt m₁ nx h₁ tk₁ own wr, i < n → J i m₁ nx → (∀ p ∈ own, p.1 ∈ wr) → (∀ b ∈ wr, ∃ o, (b, o) ∈ own) → (∀ b ∈ wr, b = s.heap.objs.size) → (∀ p ∈ nx, p.1 ∉ wr) → Fr g env.locals h₁ m₁ → News g env.locals h₁ (own ++ nx) →
      wpAny (model prog w) A (assign (.Name x px) env (.int (i : Int) tt)) (fun _ s₃ => wpAny (model prog w) A (execs body env) (TurnEnd g env.locals wr own (J (i + 1)) { s with heap := h₁, toks := tk₁ } Q) E s₃) E { s with heap := h₁, toks := tk₁ })
    (done : ∀ h' tk m' nx, Fr g env.locals h' m' → News g env.locals h' nx → J n m' nx → Q .next { s with heap := h', toks := tk }) :
    wpAny (model prog w) A (pyIter (.ref r)) (fun it s₂ => TurnsAt prog w A g env (.Name x px) body Q E it s₂) E s := by
  obtain ⟨hsm, hrs2⟩ := range_facts hn
  refine wpAny_pyIter_range hr hsm ?_
  have W := KTurns.ofWalks (target := .Name x px) (range_walks (prog := prog) (w := w) (A := A) (I := s.heap.objs.size) hh 0 n) fun i v s Q E st q => wpAny_pure q
  have up : ∀ b o, s.heap.get? b = some o → (s.heap.push { cls := .type "range_iterator", data := .fields #[rawInt 0, rawInt (Builtin.Range.rangeSize 0 (n : Int) 1), rawInt 1] }).get? b = some o := fun b o e => Heap.get?_push_of_some _ e
  refine turns_M (m := m) (news := rest) W ?_ ?_ ?_ ?_ ?_ (F.push _) (fun q hq => ⟨up _ _ (N q (hrs q hq)).1, (N q (hrs q hq)).2⟩) J h0 ?_ done
  · intro hm
    exact absurd F.ns.lt ((List.mem_singleton.mp hm) ▸ Nat.lt_irrefl _)
  · intro b hb
    rw [List.mem_singleton.mp hb]; exact next_is_new F
  · rintro i h hit' b hb
    rw [List.mem_singleton.mp hb]
    exact ⟨_, hit'⟩
  · intro q hq hm
    exact absurd (Heap.lt_size (N q (hrs q hq)).1) ((List.mem_singleton.mp hm) ▸ Nat.lt_irrefl _)
  · show IsRangeIter _ _ _ _ _
    have := Heap.get?_push_size s.heap (o := { cls := .type "range_iterator", data := .fields #[rawInt 0, rawInt (Builtin.Range.rangeSize 0 (n : Int) 1), rawInt 1] }) rfl
    rw [hrs2] at this ⊢
    simpa using this
  · rintro i v m₁ nx h₁ tk₁ own hi ⟨tt, hv⟩ hj hown hw hnx F₁ N₁
    rw [Int.zero_add] at hv
    subst hv
    exact turn i tt m₁ nx h₁ tk₁ own _ hi hj hown hw (fun b hb => List.mem_singleton.mp hb) hnx F₁ N₁
end
theorem words_tup {w : World} {h : Heap} (X : (mk.heap_1 w.params).In h) : ∃ l : List Value, IsTup h 89 l.toArray ∧ l.length = 31 ∧ ∀ v ∈ l, ∃ x t, v = .str x t ∧ anyOf allWords x := by
  walk_at "m_fill"
  refine ⟨[_, _, _, _, _, _, _, _, _, _, _, _, _, _, _, _, _, _, _, _, _, _, _, _, _, _, _, _, _, _, _], ⟨_, X 89 _ (by k_is), rfl, _, rfl⟩, rfl, ?_⟩
  have one : ∀ {y : Str} {t : Tok}, anyOf allWords y → ∃ x u, Value.str y t = .str x u ∧ anyOf allWords x := fun {y t} h => ⟨y, t, rfl, h⟩
  repeat' (first | exact List.forall_mem_nil _ | (refine List.forall_mem_cons.mpr ⟨one (by decide +kernel), ?_⟩))
/-- the item of a tuple of words at a place -/
theorem words_at {l : List Value} {i : Int} (hl : l.length = 31) (h : ∀ v ∈ l, ∃ x t, v = .str x t ∧ anyOf allWords x) (h0 : 0 ≤ i) (h1 : i < 31) : ∃ (j : Nat) (x : Str) (t : Tok), i = (j : Int) ∧ l[j]? = some (.str x t) ∧ anyOf allWords x := by
  obtain ⟨j, rfl⟩ := Int.eq_ofNat_of_zero_le h0
  have hj : j < l.length := by omega
  obtain ⟨x, t, e, hx⟩ := h l[j] (List.getElem_mem hj)
  exact ⟨j, x, t, rfl, by rw [List.getElem?_eq_getElem hj, e], hx⟩
end
section
open PyProof.V PySem.Spec LCg
/-- signs glued -/
theorem glued_ones (l : List Nat) : Txt.join (Str.ofString "") (l.map fun c => (⟨#[c]⟩ : Str)) = ⟨l.toArray⟩ := by
  show Builtin.Str.glued (Str.ofString "") _ = _
  unfold Builtin.Str.glued
  have key : ∀ (l : List Nat) (acc : Array Nat), (l.map fun c => (⟨#[c]⟩ : Str)).foldl (fun acc p => acc ++ (Str.ofString "").cps ++ p.cps) acc = acc ++ l.toArray := by
    intro l
    induction l with
    | nil => intro acc; simp
    | cons c l ih =>
      intro acc
      rw [List.map_cons, List.foldl_cons, ih]
      have e0 : (Str.ofString "").cps = #[] := by decide +kernel
      rw [e0]
      apply Array.ext'
      simp
  cases l with
  | nil => rfl
  | cons c l =>
    have := key l #[c]
    simp only [List.map_cons, List.drop_succ_cons, List.drop_zero, List.headD_cons]
    rw [this]
    apply congrArg
    apply Array.ext'
    simp
theorem join_kinds (ps : List P1) : Txt.join (Str.ofString "") (ps.map P1.kind) = ⟨(ps.map P1.ch).toArray⟩ := by
  rw [← glued_ones, List.map_map]
  congr 1
  exact List.map_congr_left fun q _ => (ch_kind q).symm
theorem kind_one (q : P1) : q.kind.length = 1 := by rw [← ch_kind]; rfl
theorem carried_kinds : ∀ {ys : List Value} {ps : List P1}, ys.length = ps.length → (∀ (i : Nat) (y : Value), ys[i]? = some y → ∃ q t, ps[i]? = some q ∧ y = .str q.kind t) → CarriedAll ys (ps.map fun q => PyData.str q.kind)
  | [], [], _, _ => .nil
  | y :: ys, p :: ps, hl, h => by
    obtain ⟨q, t, e, rfl⟩ := h 0 y rfl
    cases e
    exact .cons (.str _ _) (carried_kinds (by simpa using hl) fun i z hz => h (i + 1) z hz)
section
variable {prog : Program} {w : World} {A : Around} {E : Value → Shared → Prop} {s : Shared} {h₀ : Heap} {L : Addr} {m : Str → Option Value} {env : Env} {news : Led}
/-- built[1:] of a list of the ledger -/
theorem slice1_L {value slice : PySem.Expr} {l : Addr} {v0 : Value} {items : List Value} {u : Tok} {Q : Value → Shared → Prop} (F : Fr h₀ L s.heap m) (N : News h₀ L s.heap news) (hl : s.heap.IsList l (v0 :: items).toArray)
    (h : ∀ D h', Fr h₀ L h' m → News h₀ L h' ((D, { cls := .type "list", data := .seq items.toArray }) :: news) → (∀ q ∈ news, q.1 < D) → L < D → Q (.ref D) { s with heap := h' })
    (hs : subscripted slice false (.ref l) (.ref s.heap.objs.size) = operate [.ref s.heap.objs.size, .ref l] (getItem (.ref l) (.ref s.heap.objs.size)))
    (ht : ∀ r, letTemporaryGo value (.ref l) r = pure ()) (hsz : items.length + 1 ≤ sizeLine) :
    wpAny (model prog w) A (subscriptTail value slice (.ref l) (.ref s.heap.objs.size)) Q E { s with heap := s.heap.push { cls := .type "slice", data := .fields #[.int 1 u, .none, .none] } } := by
  refine slice_list (lo := some (1 : Nat)) (hi := none) F N hl (.int 1 u) .none (fun h' F' N' => ?_) hs ht (by simpa using hsz)
  have e : slicePick (v0 :: items).toArray (some ((1 : Nat) : Int)) none none = items.toArray := by
    rw [slicePick_from _ 1 (by simp)]; simp
  rw [e] at N'
  exact h _ h' F' N' (fun q hq => Nat.lt_succ_of_lt (Heap.lt_size (N q hq).1)) (Nat.lt_succ_of_lt F.ns.lt)
/-- a comprehension over pairs that lets the ledger be -/
theorem compP_flat {elt : PySem.Expr} {x x₂ : Str} {scope : Scope} {cl : List (Str × Addr)} {S : Led → Prop} {P : Nat → Value → Prop} {Fin : List Value → Led → Prop} (n : Nat) (K : Nat → Value → Prop) (R : Nat → Value → Prop)
    (hP : ∀ i v, P i v → ∃ (t : Addr) (ot : Obj) (v₁ v₂ : Value) (nt : Nat), v = .ref t ∧ (t, ot) ∈ news ∧ ot.cls = .type "tuple" ∧ ot.data = .seq #[v₁, v₂] nt ∧ K i v₁) (hS : S news)
    (helt : ∀ i v₁ C oC m₂ h tk nw (Q E : Value → Shared → Prop), K i v₁ → NsObj oC m₂ → m₂ x = some v₁ → Fr h₀ L h m → News h₀ L h nw → (C, oC) ∈ nw → (∀ y h' tk', R i y → Fr h₀ L h' m → News h₀ L h' nw → Q y { s with heap := h', toks := tk' }) →
      wpAny (model prog w) A (eval elt (compEnvC scope cl C env)) Q E { s with heap := h, toks := tk })
    (fin : ∀ ys, ys.length = n → (∀ i y, ys[i]? = some y → R i y) → Fin ys news) : LCp.CompRestP prog w A h₀ L m env elt x x₂ scope cl s S P Fin n 0 [] news := by
  have go : ∀ k i ys, i + k = n → ys.length = i → (∀ j y, ys[j]? = some y → R j y) → LCp.CompRestP prog w A h₀ L m env elt x x₂ scope cl s S P Fin k i ys news := by
    intro k
    induction k with
    | zero => intro i ys hik hl hr; exact LCp.CompRestP.zero (fin ys (by omega) hr)
    | succ k ih =>
      intro i ys hik hl hr
      refine LCp.CompRestP.succ fun v hv => ?_
      obtain ⟨t, ot, v₁, v₂, nt, e, hm, hc, hd, hK⟩ := hP i v hv
      refine ⟨t, ot, v₁, v₂, nt, e, hm, hc, hd, fun I oI C oC D m₂ h tk E' hC hx _ F N off ne => ?_⟩
      refine helt i v₁ C oC m₂ h tk _ _ E' hK hC hx F N (.tail _ (.head _)) fun y h' tk' hy F' N' => ?_
      refine CompEnd.intro F' N' news (fun q hq => hq) off hS (ih (i + 1) _ (by omega) (by rw [List.length_append, hl]; rfl) fun j z hz => ?_)
      rcases Nat.lt_trichotomy j ys.length with hj | hj | hj
      · rw [List.getElem?_append_left hj] at hz; exact hr j z hz
      · subst hj
        simp at hz; subst hz; rw [hl]; exact hy
      · rw [List.getElem?_eq_none (by rw [List.length_append, List.length_singleton]; omega)] at hz; cases hz
  exact go n 0 [] (Nat.zero_add _) rfl fun j y h => by simp at h
/-- a comprehension over a dict of the ledger -/
theorem listComp_D {elt iter : PySem.Expr} {x : Str} {px : Pos} {scope : Scope} {cl : List (Str × Addr)} {pos : Pos} {Q : Value → Shared → Prop} (_F₀ : Fr h₀ L s.heap m)
    (hclos : closureFor scope env = pure cl) (hcell : ∀ y ∈ scope.names, y.2 ≠ .cell) (hkind : scope.kind = .function)
    (hnames : ∀ y ∈ scope.names, y.2 = .local → scope.names.lookup y.1 = some .local) (hx : scope.names.lookup x = some .local)
    (h : wpAny (model prog w) A (eval iter env) (fun xv s₁ => ∃ d od kvs news, xv = .ref d ∧ A.handled = none ∧ Fr h₀ L s₁.heap m ∧ News h₀ L s₁.heap news ∧ (d, od) ∈ news ∧ od.IsDictOf (intKind prog w) kvs ∧ (d == sysModules) = false ∧ kvs.length ≤ sizeLine ∧
      ∀ g', CompRest prog w A h₀ L m env elt x scope cl { s₁ with heap := g' } (fun nw => (d, od) ∈ nw) (fun i v => ∃ k y t, kvs[i]? = some (k, y) ∧ v = .int k t) (FinE h₀ L m { s₁ with heap := g' } Q) kvs.length 0 [] news) E s)
    (hs : ∀ x, foldedSetIterable iter env x = pure x := by intro _; rfl) :
    wpAny (model prog w) A (eval (.ListComp elt [⟨.Name x px, iter, [], 0⟩] scope pos) env) Q E s := by
  rw [eval_ListComp]
  refine wpAny_comprehension_free (use := none) rfl hs hclos hkind hnames (wpAny_mono h (fun xv s₁ h₁ => ?_) fun _ _ e => e)
  obtain ⟨d, od, kvs, news, rfl, hh, F, N, hm, hd, lo, hsz, R⟩ := h₁
  obtain ⟨ep, ha⟩ := KdkAt.of hd
  have hda := ha.dictAt (N _ hm).1
  have hlt : d < s₁.heap.objs.size := Heap.lt_size (N _ hm).1
  refine wpAny_pyIter_dict lo hda ?_
  have W := Walks.dictKeys (prog := prog) (w := w) (knd := intKind prog w) hh s₁.heap.objs.size d (Nat.ne_of_lt hlt) kvs ep
  have W' : Walks prog w A s₁.heap.objs.size [s₁.heap.objs.size, d] [s₁.heap.objs.size] kvs.length (fun i v => ∃ k y t, kvs[i]? = some (k, y) ∧ v = .int k t) (fun i h => h.IsKeyIter s₁.heap.objs.size d i kvs.length ep ∧ h.DictAt (intKind prog w) d kvs ep) :=
    { sub := W.sub, frame := W.frame, done := W.done, self := W.self,
      item := fun i s Q E hi st hQ => W.item i s Q E hi st fun v h' tk ⟨k, y, hk, hv⟩ => hQ v h' tk (by
        obtain ⟨t, rfl⟩ := Value.isInt_shape hv
        exact ⟨k, y, t, hk, rfl⟩) }
  refine block_U (S := fun nw => (d, od) ∈ nw) W' hsz (fun i h st => by obtain ⟨o, e, _⟩ := st.1; exact ⟨o, e⟩) (fun i h h' o nw st e e' k N' S' => ⟨by obtain ⟨o', q, r⟩ := st.1; rw [e] at q; cases q; exact ⟨o, e', r⟩, ha.dictAt (N' _ S').1⟩) hcell hkind hx
    ⟨⟨_, Heap.get?_push_size _ rfl, rfl, rfl⟩, hda.at' fun o e => Heap.get?_push_of_some _ e⟩ (fun b hb => ?_)
    (F.push _) (N.grown fun b o e => Heap.get?_push_of_some _ e) (Nat.ne_of_lt F.ns.lt) (next_is_new F) (fun p hp => Nat.ne_of_lt (Heap.lt_size (N p hp).1)) hm (R _) ?_
  · show b < (s₁.heap.push _).objs.size
    rw [Heap.size_push]
    rcases List.mem_cons.mp hb with rfl | hb
    · exact Nat.lt_succ_self _
    · rw [List.mem_singleton.mp hb]; exact Nat.lt_succ_of_lt hlt
  · intro D C h tk m' ys news' F' N' o1 hn hC₀ hD₀ hCL hDL hCD offC fin
    refine ⟨m', hn, fun h'' hs'' => fin D h'' tk (F'.change hs'' hCL hC₀) (fun p hp => ?_) o1⟩
    refine ⟨hs''.extBut _ _ ?_ (N' p hp).1, (N' p hp).2⟩
    rcases List.mem_cons.mp hp with rfl | hp
    · exact Ne.symm hCD
    · exact offC p hp
/-- != of two that hold the same -/
theorem neSame_M {a b : Value} {d : Dat} {n₁ n₂ : Led} {Q : Value → Shared → Prop} (N : News h₀ L s.heap news) (Da : DatIn n₁ a d) (sa : ∀ p ∈ n₁, p ∈ news) (Db : DatIn n₂ b d) (sb : ∀ p ∈ n₂, p ∈ news) (hd : kqdOk 8 d = true) (hu : A.units + 64 < cLine) (h : Q (.bool false) s) :
    wpAny (model prog w) A (compareOp .NotEq a b) Q E s := by
  obtain ⟨as, ra⟩ := kqd_in N 8 (Da.mono sa) hd
  obtain ⟨bs, rb⟩ := kqd_in N 8 (Db.mono sb) hd
  have la := kqd_lay 8 d hd
  have e : PyData.eqv (kqdP d) (kqdP d) = true := (kqd_eqv 8 d d 8 hd hd).mpr rfl
  refine ne_dataH ra rb ?_ ?_ hu (by rw [e]; exact h)
  · unfold SeqAt.shaped; rw [la.1, Bool.true_and]; exact decide_eq_true (Nat.le_trans la.2 (by decide))
  · unfold SeqAt.shaped; rw [la.1, Bool.true_and]; exact decide_eq_true (Nat.le_trans la.2 (by decide))
end
/-- the three round -/
def rot (a b c i : Int) : Int := if i = a then b else if i = b then c else if i = c then a else i
def rotD (a b c : Int) : List (PyData × PyData) := [(.int a, .int b), (.int b, .int c), (.int c, .int a)]
theorem rot_look (a b c i : Int) : (lookup (.int i) (rotD a b c)).getD (.int i) = .int (rot a b c i) := by
  unfold rotD rot
  simp only [PySem.Spec.lookup, same_int]
  by_cases h1 : i = a
  · subst h1; simp
  · have h1' : ¬ a = i := fun e => h1 e.symm
    by_cases h2 : i = b
    · subst h2; simp [h1, h1']
    · have h2' : ¬ b = i := fun e => h2 e.symm
      by_cases h3 : i = c
      · subst h3; simp [h1, h2, h1', h2']
      · have h3' : ¬ c = i := fun e => h3 e.symm
        simp [h1, h2, h3, h1', h2', h3']
/-- and back -/
def kor (a b c i : Int) : Int := if i = b then a else if i = c then b else if i = a then c else i
def korD (a b c : Int) : List (PyData × PyData) := [(.int b, .int a), (.int c, .int b), (.int a, .int c)]
theorem kor_look (a b c i : Int) : (lookup (.int i) (korD a b c)).getD (.int i) = .int (kor a b c i) := by
  unfold korD kor
  simp only [PySem.Spec.lookup, same_int]
  by_cases h1 : i = b
  · subst h1; simp
  · have h1' : ¬ b = i := fun e => h1 e.symm
    by_cases h2 : i = c
    · subst h2; simp [h1, h1']
    · have h2' : ¬ c = i := fun e => h2 e.symm
      by_cases h3 : i = a
      · subst h3; simp [h1, h2, h1', h2']
      · have h3' : ¬ a = i := fun e => h3 e.symm
        simp [h1, h2, h3, h1', h2', h3']
theorem kor_rot {a b c : Int} (h1 : a ≠ b) (h2 : b ≠ c) (h3 : a ≠ c) : kor a b c ∘ rot a b c = id := by
  funext i
  show kor a b c (rot a b c i) = i
  unfold kor rot
  repeat' split
  all_goals omega
theorem fmod6 (a : Int) : a.fmod 6 = a % 6 := Int.fmod_eq_emod_of_nonneg a (by decide)
/-- what told may be compared by -/
theorem ok_ints (n : Nat) (is : List Int) : kqdOk (n + 1) (tupI is) = true := by
  unfold tupI
  simp only [kqdOk, List.all_map]
  exact List.all_eq_true.mpr fun i _ => by cases n <;> rfl
theorem words_ok {v : Str} (h : anyOf allWords v) : PyData.strOk v = true := words_of (fun y => PyData.strOk y) (by decide +kernel) h
end
section
open PyProof.V PySem.Spec LCg
def DOk (d : Dat) : Prop := ∀ n, kqdOk (n + 3) d = true
theorem dok_int (i : Int) : DOk (.int i) := fun _ => rfl
theorem dok_ints (is : List Int) : DOk (tupI is) := fun n => ok_ints (n + 2) is
theorem dok_rows {rows : List Dat} (h : ∀ r ∈ rows, ∃ is : List Int, r = tupI is) : DOk (.tuple rows) := fun n => by
  simp only [kqdOk]
  refine List.all_eq_true.mpr fun r hr => ?_
  obtain ⟨is, rfl⟩ := h r hr
  exact ok_ints (n + 1) is
theorem dok_str {x : Str} (h : PyData.strOk x = true) : DOk (.str x) := fun n => by simp only [kqdOk]; exact h
theorem dok0 {w : Str} {ps : List P0} {T : Int → Int} (h : Ok0 w ps) : ∀ p ∈ ps, DOk (p.told T) := by
  have hv : ∀ i, DOk ((P0.v i).told T) := fun i => dok_int _
  have hV : ∀ is, DOk ((P0.V is).told T) := fun is => dok_ints _
  have hn : ∀ {d}, DOk d → DOk ((P0.n d).told T) := fun h => h
  cases h with
  | lin => exact List.forall_mem_cons.mpr ⟨hn (dok_ints _), List.forall_mem_cons.mpr ⟨hV _, List.forall_mem_cons.mpr ⟨hn (dok_int _), List.forall_mem_nil _⟩⟩⟩
  | tri => exact List.forall_mem_cons.mpr ⟨hv _, List.forall_mem_cons.mpr ⟨hv _, List.forall_mem_cons.mpr ⟨hv _, List.forall_mem_nil _⟩⟩⟩
  | abs => exact List.forall_mem_cons.mpr ⟨hv _, List.forall_mem_cons.mpr ⟨hv _, List.forall_mem_nil _⟩⟩
  | el => exact List.forall_mem_cons.mpr ⟨hv _, List.forall_mem_cons.mpr ⟨hV _, List.forall_mem_cons.mpr ⟨hv _, List.forall_mem_nil _⟩⟩⟩
  | elof => exact List.forall_mem_cons.mpr ⟨hv _, List.forall_mem_cons.mpr ⟨hn (dok_ints _), List.forall_mem_cons.mpr ⟨hv _, List.forall_mem_nil _⟩⟩⟩
  | prec => exact List.forall_mem_cons.mpr ⟨hn (dok_int _), List.forall_mem_cons.mpr ⟨hn (dok_int _), List.forall_mem_cons.mpr ⟨hV _, List.forall_mem_nil _⟩⟩⟩
  | two => exact List.forall_mem_cons.mpr ⟨hV _, List.forall_mem_cons.mpr ⟨hV _, List.forall_mem_nil _⟩⟩
  | one => exact List.forall_mem_cons.mpr ⟨hV _, List.forall_mem_nil _⟩
  | alld _ _ hx => exact List.forall_mem_cons.mpr ⟨hV _, List.forall_mem_cons.mpr ⟨hn (dok_str (words_of (fun y => PyData.strOk y) (by decide +kernel) hx)), List.forall_mem_nil _⟩⟩
  | table _ _ hr => exact List.forall_mem_cons.mpr ⟨hV _, List.forall_mem_cons.mpr ⟨hn (dok_rows fun r h => let ⟨a, e, _⟩ := hr r h; ⟨a, e⟩), List.forall_mem_nil _⟩⟩
  | disj => exact List.forall_mem_cons.mpr ⟨hV _, List.forall_mem_cons.mpr ⟨hn (dok_ints _), List.forall_mem_nil _⟩⟩
  | count => exact List.forall_mem_cons.mpr ⟨hV _, List.forall_mem_cons.mpr ⟨hn (dok_int _), List.forall_mem_cons.mpr ⟨hv _, List.forall_mem_nil _⟩⟩⟩
  | card => exact List.forall_mem_cons.mpr ⟨hV _, List.forall_mem_cons.mpr ⟨hn (dok_ints _), List.forall_mem_cons.mpr ⟨hn (dok_ints _), List.forall_mem_cons.mpr ⟨hn (dok_ints _), List.forall_mem_nil _⟩⟩⟩⟩
  | cumul => exact List.forall_mem_cons.mpr ⟨hV _, List.forall_mem_cons.mpr ⟨hn (dok_ints _), List.forall_mem_cons.mpr ⟨hn (dok_ints _), List.forall_mem_cons.mpr ⟨hn (dok_int _), List.forall_mem_nil _⟩⟩⟩⟩
  | agg => exact List.forall_mem_cons.mpr ⟨hV _, List.forall_mem_cons.mpr ⟨hv _, List.forall_mem_nil _⟩⟩
  | reg _ _ r1 r2 =>
    refine List.forall_mem_cons.mpr ⟨hV _, List.forall_mem_cons.mpr ⟨hn (dok_int _), List.forall_mem_cons.mpr ⟨hn (dok_int _), List.forall_mem_cons.mpr ⟨hn (dok_rows fun r h => ?_), List.forall_mem_cons.mpr ⟨hn (dok_int _), List.forall_mem_cons.mpr ⟨hn (dok_ints [_]), List.forall_mem_nil _⟩⟩⟩⟩⟩⟩
    rcases List.mem_cons.mp h with rfl | h
    · obtain ⟨is, e, _⟩ := r1; exact ⟨is, e⟩
    · rw [List.mem_singleton.mp h]; obtain ⟨is, e, _⟩ := r2; exact ⟨is, e⟩
theorem ok_told {w : Str} {ps : List P1} {T : Int → Int} (hw : anyOf allWords w) (h : Ok1 w ps) : kqdOk 8 (told1 T w ps) = true := by
  have one : ∀ (n : Nat) {x : Str}, anyOf allWords x → kqdOk (n + 1) (.str x) = true := fun n x hx => by simp only [kqdOk]; exact words_ok hx
  simp only [told1, kqdOk, List.all_cons, Bool.and_eq_true]
  refine ⟨words_ok hw, List.all_eq_true.mpr fun d hd => ?_⟩
  obtain ⟨p, hp, rfl⟩ := List.mem_map.mp hd
  cases h with
  | flat h0 =>
    obtain ⟨q, hq, rfl⟩ := List.mem_map.mp hp
    exact dok0 h0 q hq 4
  | rei hr hi hv hq =>
    rcases List.mem_cons.mp hp with rfl | hp
    · rfl
    · rw [List.mem_singleton.mp hp]
      simp only [P1.told, kqdOk, List.all_cons, Bool.and_eq_true]
      refine ⟨words_ok (lin_all hv), List.all_eq_true.mpr fun d hd => ?_⟩
      obtain ⟨q, hq', rfl⟩ := List.mem_map.mp hd
      exact dok0 hq q hq' 3
/-- all that law asks of the parts of a built constraint -/
structure Facts (word : Str) (ps : List P1) : Prop where
  hw : anyOf allWords word
  ok : Ok1 word ps
  sh : ShapeIs word ps
  sm : Small ps
  inn : ∀ v qs, P1.t v qs ∈ ps → ShapeIs v (qs.map .p) ∧ Small (qs.map .p)
  nm : ∀ i ∈ ps.flatMap P1.names, 0 ≤ i ∧ i < 6
  nl : (ps.flatMap P1.names).length ≤ 20
theorem facts_of {word : Str} {ps : List P1} (hw : anyOf allWords word) (h : Ok1 word ps) : Facts word ps :=
  ⟨hw, h, (shape1 h).1, (small1 h).1, fun v qs hm => ⟨(shape1 h).2 v qs hm, (small1 h).2 v qs hm⟩, (names1 h).1, (names1 h).2⟩
theorem pick_le (p : Int → Bool) : (pick p).length ≤ 6 := pick_length p
theorem found_le : ∀ (ps : List P1) (T : Int → Int), (∀ q ∈ ps, (q.found T).length ≤ 20) → (ps.flatMap (P1.found T)).length ≤ 20 * ps.length
  | [], _, _ => by simp
  | q :: ps, T, h => by
    have h1 := h q (.head _)
    have h2 := found_le ps T fun x hx => h x (.tail _ hx)
    rw [List.flatMap_cons, List.length_append, List.length_cons]
    omega
theorem found_one {ps : List P1} {T : Int → Int} (hl : (ps.flatMap P1.names).length ≤ 20) : ∀ q ∈ ps, (q.found T).length ≤ 20 := by
  intro q hq
  cases q with
  | p x =>
    obtain ⟨a, b, rfl⟩ := List.append_of_mem hq
    rw [List.flatMap_append, List.flatMap_cons, List.length_append, List.length_append] at hl
    show (x.names.map T).length ≤ 20
    rw [List.length_map]
    have : (P1.names (.p x)).length = x.names.length := rfl
    omega
  | t v qs => exact Nat.le_trans (pick_le _) (by decide)
theorem Facts.named {w : World} {word : Str} {ps : List P1} (f : Facts word ps) : NamedSpec w 2 word ps := named_all f.sm (Nat.le_trans f.nl (by decide)) fun v qs h => (f.inn v qs h).2
theorem Facts.plain {w : World} {word : Str} {ps : List P1} {T : Int → Int} (f : Facts word ps) : PlainSpec w 2 T word ps := plain_all f.sm fun v qs h => (f.inn v qs h).2
theorem Facts.ren {w : World} {word : Str} {ps : List P1} {T0 T : Int → Int} (f : Facts word ps) : RenSpec w 3 T0 T word ps := ren_all f.sh f.sm f.inn
theorem Facts.vars {w : World} {word : Str} {ps : List P1} (f : Facts word ps) : VarsSpec w 3 id word ps :=
  vars_all f.sh f.sm (Nat.le_trans (found_le ps id (found_one f.nl)) (by have := f.sm.1; omega)) f.nm fun v qs h => by
    refine ⟨(f.inn v qs h).1, (f.inn v qs h).2, ?_⟩
    have h2 : ((qs.map P1.p).flatMap P1.names).length ≤ 20 := by rw [names_p]; exact Nat.le_trans (names_in h) f.nl
    exact Nat.le_trans (found_le _ id (found_one h2)) (by have := (f.inn v qs h).2.1; omega)
theorem Facts.fault {w : World} {word : Str} {ps : List P1} (f : Facts word ps) : FaultSpec w 6 id word ps := fault_all f.ok
theorem rot_ne {a s : Int} (h0 : 0 ≤ a) (h6 : a < 6) (s0 : 0 ≤ s) (s2 : s < 2) : (a ≠ (a + (1 + s)).fmod 6 ∧ (a + (1 + s)).fmod 6 ≠ (a + 2 * (1 + s)).fmod 6 ∧ a ≠ (a + 2 * (1 + s)).fmod 6) ∧ 0 ≤ (a + (1 + s)).fmod 6 ∧ (a + (1 + s)).fmod 6 < 6 ∧ 0 ≤ (a + 2 * (1 + s)).fmod 6 ∧ (a + 2 * (1 + s)).fmod 6 < 6 := by
  have ha : a = 0 ∨ a = 1 ∨ a = 2 ∨ a = 3 ∨ a = 4 ∨ a = 5 := by omega
  have hs : s = 0 ∨ s = 1 := by omega
  rcases ha with rfl | rfl | rfl | rfl | rfl | rfl <;> rcases hs with rfl | rfl <;> decide
section
variable {prog : Program} {w : World} {A : Around} {E : Value → Shared → Prop} {s : Shared} {h₀ : Heap} {L : Addr} {m : Str → Option Value} {news : Led}
theorem made_rot {d : Addr} {o : Obj} {a b c : Int} {t1 t2 t3 u1 u2 u3 : Tok} {Q : Value → Shared → Prop} (F : Fr h₀ L s.heap m) (N : News h₀ L s.heap ((d, o) :: news)) (hlt : ∀ p ∈ news, p.1 < d) (hd : o.IsDictOf (intKind prog w) []) (n1 : a ≠ b) (n2 : b ≠ c) (n3 : a ≠ c)
    (h : ∀ h' o' tk v1 v2 v3, Fr h₀ L h' m → News h₀ L h' ((d, o') :: news) → o'.IsDictOf (intKind prog w) [(a, .int b v1), (b, .int c v2), (c, .int a v3)] → Q (.ref d) { s with heap := h', toks := tk }) :
    KdnMade prog w (intKind prog w) d Q [(.int a u1, .int b t1), (.int b u2, .int c t2), (.int c u3, .int a t3)] s := by
  refine kdn_made_int (g := fun o' => (d, o') :: news) F N (UpdF.head fun p hp => Nat.ne_of_lt (hlt p hp)) hd rfl ?_ fun h' o' F' N' hd' => h h' o' _ t1 t2 t3 F' N' hd'
  show [a, b, c].Nodup
  simp only [List.nodup_cons, List.mem_cons, List.not_mem_nil, or_false, not_or, not_false_eq_true, List.nodup_nil, and_true]
  exact ⟨⟨n1, n3⟩, n2⟩
end
theorem rot_at0 (a b c : Int) : PySem.Spec.lookup (.int a) (rotD a b c) = some (.int b) := by simp [rotD, PySem.Spec.lookup, same_int]
theorem rot_at1 {a b c : Int} (h : a ≠ b) : PySem.Spec.lookup (.int b) (rotD a b c) = some (.int c) := by simp [rotD, PySem.Spec.lookup, same_int, h]
theorem rot_at2 {a b c : Int} (h1 : a ≠ c) (h2 : b ≠ c) : PySem.Spec.lookup (.int c) (rotD a b c) = some (.int a) := by simp [rotD, PySem.Spec.lookup, same_int, h1, h2]
/-- a tuple of two ints, as a datum -/
def pr2 (p : Int × Int) : Dat := .tuple [.int p.1, .int p.2]
theorem pairs_of {news : Led} : ∀ {vs : List Value} {ks : List (Int × Int)}, DatAll news vs (ks.map pr2) → ∃ prs : List (Int × Value), prs.length = vs.length ∧
    (∀ (i : Nat) v, vs[i]? = some v → ∃ T k t x n, v = .ref T ∧ prs[i]? = some (k, x) ∧ (T, ({ cls := .type "tuple", data := .seq #[.int k t, x] n } : Obj)) ∈ news) ∧
    FlatPairs PyData.int prs (ks.map fun p => (PyData.int p.1, PyData.int p.2)) ∧ prs.map (·.1) = ks.map (·.1)
  | [], [], _ => ⟨[], rfl, fun i v h => by simp at h, .nil, rfl⟩
  | v :: vs, k :: ks, h => by
    cases h with
    | cons h0 hr =>
      obtain ⟨prs, hl, hp, hf, hm⟩ := pairs_of hr
      obtain ⟨T, n, w1, w2, rfl, hmem, h1, h2⟩ := datIn_pair h0
      obtain ⟨t1, rfl⟩ := datIn_int h1
      obtain ⟨t2, rfl⟩ := datIn_int h2
      refine ⟨(k.1, .int k.2 t2) :: prs, by rw [List.length_cons, List.length_cons, hl], fun i v hv => ?_, .cons (Flat.int _ _) hf, by rw [List.map_cons, List.map_cons, hm]⟩
      cases i with
      | zero => cases hv; exact ⟨T, k.1, t1, .int k.2 t2, n, rfl, rfl, hmem⟩
      | succ i => exact hp i v hv
  | [], _ :: _, h => by cases h
  | _ :: _, [], h => by cases h
section
variable {w : World} {A : Around} {E : Value → Shared → Prop} {s : Shared} {h₀ : Heap} {L : Addr} {m : Str → Option Value} {news : Led}
theorem dict_pairs_M {l : Addr} {vs : List Value} {kl : Nat} {ks : List (Int × Int)} {Q : Value → Shared → Prop} (hh : A.handled = none) (hbig : h₀.NoLimit) (F : Fr h₀ L s.heap m) (N : News h₀ L s.heap news) (hl : (l, ({ cls := .type "list", data := .seq vs.toArray kl } : Obj)) ∈ news)
    (hd : DatAll news vs (ks.map pr2)) (hn : (ks.map (·.1)).Nodup) (hsz : vs.length ≤ 1000)
    (h : ∀ d h' o tk kvs, Fr h₀ L h' m → News h₀ L h' ((d, o) :: news) → (∀ q ∈ news, q.1 < d) → L < d → (d == sysModules) = false → o.IsDictOf (intKind PySem.Challenge.rw_pc0027_01.row.prog w) kvs → FlatPairs PyData.int kvs (ks.map fun p => (PyData.int p.1, PyData.int p.2)) → Q (.ref d) { s with heap := h', toks := tk }) :
    wpAny (model PySem.Challenge.rw_pc0027_01.row.prog w) A (call (.type "dict") [.ref l]) Q E s := by
  obtain ⟨prs, hpl, hp, hf, hm⟩ := pairs_of hd
  have hmg : merged [] prs = prs := merged_nil_of_nodup prs (by rw [hm]; exact hn)
  refine call_dict_pairs hh (N _ hl).1 rfl rfl rfl hpl.symm hsz (fun i v hv => ?_) fun h' tk hk hD => ?_
  · obtain ⟨T, k, t, x, n, e, hq, hmem⟩ := hp i v hv
    exact ⟨T, k, t, x, e, hq, ⟨_, (N _ hmem).1, rfl, n, rfl⟩⟩
  · rw [hmg] at hD
    obtain ⟨o, ho, hdo⟩ := Heap.dictOf_iff.mp hD
    have lt : ∀ q ∈ news, q.1 < s.heap.objs.size := fun q hq => Heap.lt_size (N q hq).1
    refine h _ h' o tk prs (F.keeps hk) (fun q hq => ?_) lt F.ns.lt (F.notModules (modules_low hbig)) hdo hf
    rcases List.mem_cons.mp hq with rfl | hq
    · exact ⟨ho, Nat.ne_of_gt F.ns.lt, next_is_new F⟩
    · exact ⟨hk _ _ (N q hq).1, (N q hq).2⟩
/-- a table of the ledger -/
theorem tabIs_of {d : Addr} {o : Obj} {kvs : List (Int × Value)} {D : List (PyData × PyData)} {T : Int → Int} {h' : Heap} (N : News h₀ L h' news) (hm : (d, o) ∈ news) (lo : (d == sysModules) = false) (hd : o.IsDictOf (intKind PySem.Challenge.rw_pc0027_01.row.prog w) kvs) (hf : FlatPairs PyData.int kvs D)
    (hT : ∀ i, (PySem.Spec.lookup (.int i) D).getD (.int i) = .int (T i)) : TabIs w h' d T :=
  ⟨D, ⟨lo, kvs, Heap.dictOf_iff.mpr ⟨o, (N _ hm).1, hd⟩, hf⟩, hT⟩
end
section
variable {prog : Program} {w : World} {A : Around} {E : Value → Shared → Prop} {s : Shared}
/-- an item of a tuple of the heap -/
theorem itemN_L {value slice : PySem.Expr} {t : Addr} {l : List Value} {k : Int} {u : Tok} {v : Value} {Q : Value → Shared → Prop} (j : Nat) (hl : IsTup s.heap t l.toArray) (hk : k = (j : Int)) (hv : l[j]? = some v) (hj : j ≤ 1000000) (h : Q v s)
    (hs : subscripted slice false (.ref t) (.int k u) = operate [.ref t, .int k u] (getItem (.ref t) (.int k u))) :
    wpAny (model prog w) A (subscriptTail value slice (.ref t) (.int k u)) Q E s := by
  subst hk
  have hlt : j < l.length := (List.getElem?_eq_some_iff.mp hv).1
  refine item_tupleT (l := l) (k := (j : Int)) (j := j) (x := v) hl (by omega) (by omega) ?_ hv h hs
  unfold seqIndex?
  have h1 : ¬ ((j : Int) < 0) := by omega
  simp [h1, hlt]
end
theorem datIn_list {led : Led} {v : Value} {ds : List Dat} (h : DatIn led v (.list ds)) : ∃ a vs k, v = .ref a ∧ (a, ({ cls := .type "list", data := .seq (List.toArray vs) k } : Obj)) ∈ led ∧ DatAll led vs ds := by cases h with | list hm hall => exact ⟨_, _, _, rfl, hm, hall⟩
theorem ok_list (is : List Int) : kqdOk 8 (.list (is.map .int)) = true := by
  simp only [kqdOk, List.all_map]
  exact List.all_eq_true.mpr fun i _ => rfl
theorem pair_at {led : Led} {ps : List P1} {items : List Value} (h : DatAll led items (ps.map P1.pair)) {i : Nat} {v : Value} (hv : items[i]? = some v) :
    ∃ (t : Addr) (ot : Obj) (v₁ v₂ : Value) (nt : Nat), v = .ref t ∧ (t, ot) ∈ led ∧ ot.cls = .type "tuple" ∧ ot.data = .seq #[v₁, v₂] nt ∧ ∃ q u, ps[i]? = some q ∧ v₁ = .str q.kind u := by
  obtain ⟨d, hd, hvd⟩ := datAll_at h hv
  rw [List.getElem?_map] at hd
  cases hp : ps[i]? with
  | none => rw [hp] at hd; cases hd
  | some p =>
    rw [hp] at hd
    have hd' : P1.pair p = d := Option.some.inj hd
    subst hd'
    obtain ⟨a, k, v1, v2, rfl, hm, hv1, hv2⟩ := datIn_pair hvd
    obtain ⟨u, rfl⟩ := datIn_str hv1
    exact ⟨a, _, _, _, k, rfl, hm, rfl, rfl, p, u, rfl, rfl⟩
end
section
open PyProof.V PySem.Spec LCg
theorem look_elim {α : Type} {o : Option α} {a b : α} {P : Prop} (h1 : o = some a) (h2 : o = some b) (h : a = b → P) : P := h (Option.some.inj (h1.symm.trans h2))
theorem law_body {w : World} {dp un : Nat} {fr : Option (List Env)} {gd : Option (List Code)} {s : Shared} {g : Heap} {L b fa : Addr} {cd : Value} {cells : Led}
    {name qual : Str} {params : Arguments} {body : List Stmt} {scope : Scope} {dV kV doc pm cdv ct oc : Value} {an od : Option Addr} {osl : Array (Option Value)} {vs : List Value} {ns : List Int} {Q : Flow → Shared → Prop} 
    (hb : (mk.heap_1 w.params).lookup 152 = some ⟨oc, od, .func (fnOf name qual params body scope dV kV doc pm an cdv ct), osl⟩) (hroom : dp + 12 < recursionLimit) (hun : un + 100 < cLine)
    (G : G0 w g) (F : Fr g L s.heap (bindL (envOfC qual scope L fa cd).kindOf [(Str.ofString "script", .ref b)] fun _ => none)) (N : News g L s.heap cells)
    (Y : CellsAre (bindC (envOfC qual scope L fa cd).kindOf [(Str.ofString "script", .ref b)] fun _ => none) (cellsFrom (L + 1) scope.names []) cells)
    (hl : g.IsList b vs.toArray) (hi : IntsAre vs ns) (h63 : ns.length ≤ 63) (ret : ∀ h' tk' m', Fr g L h' m' → Q (.ret (.bool true)) { s with heap := h', toks := tk' }) :
    wpAny (model PySem.Challenge.rw_pc0027_01.row.prog w) (Around.deeper ⟨none, dp, fr, gd, un⟩ (envOfC qual scope L fa cd)) (execs body (envOfC qual scope L fa cd)) Q (fun _ _ => False) s := by
  walk_at "m_fill"
  refine' look_elim ?k6 hb ?_
  case k6 => k_is
  intro hb1
  have e1 := congrArg (fun o : Obj => match o.data with | .func ⟨_, _, _, .stmts b, _, _, _, _, _, _, _, _, _, _, _⟩ => b | _ => []) hb1
  have e2 := congrArg (fun o : Obj => match o.data with | .func f => f.scope | _ => scope) hb1
  have e3 := congrArg (fun o : Obj => match o.data with | .func f => f.qualname | _ => qual) hb1
  dsimp only at e1 e2 e3
  subst e1 e2 e3
  clear hb hb1
  k_whole
  have GG := G
  obtain ⟨X, mean, mg, mb, TT⟩ := G
  obtain ⟨o₁, hE, d1⟩ := CellsAre.one Y
  subst hE
  (try simp only [List.cons_append, List.nil_append] at N)
  obtain ⟨heap₀, gens₀, drawn₀, toks₀, os₀⟩ := s
  dsimp only at F N ⊢
  (try k_fold)
  iterate 27 (walk_at "m_1")
  rename_i feed hx1 ox lox hdx lx S ws hx2 hI hlen hle l2 c kc hx3 l3 hx4 fo hfd hx5 F N
  refine For_turns F ?_
  iterate 7 (walk_at "m_1")
  have hcf : c ≠ feed := fun e => absurd l3.2.1 (by rw [e]; exact Nat.lt_irrefl _)
  have hLf : L + 1 ≠ feed := Nat.ne_of_lt lx
  have hLc : L + 1 ≠ c := Nat.ne_of_lt l3.2.2
  obtain ⟨wl, hwt, hwn, hwa⟩ := words_tup X
  have hns : (List.take 60 ns).length ≤ 60 := by rw [List.length_take]; omega
  have hO2 : (c, W.listOf ws.toArray kc) = (c, ({ cls := .type "list", data := .seq ws.toArray kc } : Obj)) := rfl
  refine rangeFor_M (n := 4) (rest := [(feed, fo), (c, W.listOf ws.toArray kc), (L + 1, o₁)]) rfl (by k_asm) (by k_asm) (by assumption) (by decide) (by walk_at "m_sub")
    (fun i m nx => m (Str.ofString "feed") = some (.ref feed) ∧ ∃ fo p o₁ xx, nx = [(feed, fo), (c, W.listOf ws.toArray kc), (L + 1, o₁)] ∧ FeedObj w fo c p ∧ p ≤ 100 * i ∧ o₁.data = .cell xx)
    ⟨rfl, fo, 0, o₁, _, rfl, ⟨_, hfd⟩, Nat.le_refl _, d1⟩ ?turn ?done
  case done =>
    rintro h' tk m' nx F N ⟨hm1, fo, p, o₁, xx, rfl, hF, hp, hx1⟩
    (try k_fold)
    k_steps
    exact ret _ _ _ (by k_asm)
  case turn =>
    clear hfd d1 Y
    rintro i tt m₁ nx h₁ tk₁ own wr hi4 ⟨hm1, fo, p, o₁, xx, rfl, hF0, hp0, d1⟩ hown hw hwr hnx F N
    rw [map_form hm1] at F
    have hfw : ∀ q ∈ own, q.1 ≠ feed := fun q hq e => hnx _ (.head _) (e ▸ hown q hq)
    have hcold : ∀ q ∈ own ++ [(c, W.listOf ws.toArray kc), (L + 1, o₁)], q.1 ≠ feed := List.forall_mem_append.mpr ⟨hfw, List.forall_mem_cons.mpr ⟨hcf, List.forall_mem_cons.mpr ⟨hLf, List.forall_mem_nil _⟩⟩⟩
    (try k_fold)
    iterate 22 (walk_at "m_1")
    refine FeedFn.useL (dip_fn (by decide) (by decide)) (own ++ [(c, W.listOf ws.toArray kc), (L + 1, o₁)]) (by walk_at "m_om") (by omega) hF0 hI hns hcf GG (by k_asm) (by k_asm) (by walk_at "m_in") rfl rfl (by k_mem) (by walk_at "m_sub") hcold ?_
    intro r fo1 A1 p1 dd1 h1 tk1 F N hF1 hp1 hA1 hs1 hd1 hD1
    obtain ⟨i1, rfl, hi1, hj1⟩ := hD1
    obtain ⟨t1, rfl⟩ := datIn_int hd1
    obtain ⟨j, word, tw, rfl, hwj, hwa1⟩ := words_at hwn hwa hi1 hj1
    skip
    refine itemN_T j (by k_asm) hwt rfl hwj (by omega) ?_ (by with_unfolding_all rfl)
    iterate 2 (walk_at "m_1")
    refine FeedFn.useL (built_fn hwa1) (own ++ [(c, W.listOf ws.toArray kc), (L + 1, o₁)]) (by walk_at "m_om") (by omega) hF1 hI hns hcf GG (by k_asm) (by k_asm) (by walk_at "m_in") rfl rfl (by k_mem) (by walk_at "m_sub") hcold ?_
    intro r fo2 A2 p2 dd2 h2 tk2 F N hF2 hp2 hA2 hs2 hd2 hD2
    obtain ⟨ps, rfl, hok⟩ := hD2
    obtain ⟨bl, rfl⟩ := datIn_refL hd2
    have fct := facts_of hwa1 hok
    clear hA1 hs1 hd1
    have hA2L : ∀ q ∈ A2, q.1 ≠ L + 1 := fun q hq => Nat.ne_of_gt (hs2 q hq (L + 1, o₁) (by walk_at "m_in"))
    have hownL : ∀ q ∈ own, q.1 ≠ L + 1 := fun q hq e => hnx (L + 1, o₁) (.tail _ (.tail _ (.head _))) (e ▸ hown q hq)
    have hA2f : ∀ q ∈ A2, q.1 ≠ feed := fun q hq => Nat.ne_of_gt (hs2 q hq (feed, fo1) (.head _))
    have hcold2 : ∀ q ∈ A2 ++ (own ++ [(c, W.listOf ws.toArray kc), (L + 1, o₁)]), q.1 ≠ feed := List.forall_mem_append.mpr ⟨hA2f, hcold⟩
    (try k_fold)
    iterate 15 (walk_at "m_1")
    refine FeedFn.useL (dip_fn (by decide) (by decide)) (A2 ++ (own ++ [(c, W.listOf ws.toArray kc), (L + 1, o₁)])) (by walk_at "m_om") (by omega) hF2 hI hns hcf GG (by k_asm) (by k_asm) (by walk_at "m_in") rfl rfl (by k_mem) (by walk_at "m_sub") hcold2 ?_
    intro r fo3 A3 p3 dd3 h3 tk3 F N hF3 hp3 hA3 hs3 hd3 hD3
    obtain ⟨i3, rfl, hi3, hj3⟩ := hD3
    obtain ⟨t3, rfl⟩ := datIn_int hd3
    (try k_fold)
    iterate 12 (walk_at "m_1")
    refine FeedFn.useL (dip_fn (by decide) (by decide)) (A2 ++ (own ++ [(c, W.listOf ws.toArray kc), (L + 1, o₁)])) (by walk_at "m_om") (by omega) hF3 hI hns hcf GG (by k_asm) (by k_asm) (by walk_at "m_in") rfl rfl (by k_mem) (by walk_at "m_sub") hcold2 ?_
    intro r fo4 A4 p4 dd4 h4 tk4 F N hF4 hp4 hA4 hs4 hd4 hD4
    obtain ⟨i5, rfl, hi5, hj5⟩ := hD4
    obtain ⟨t5, rfl⟩ := datIn_int hd4
    replace N : News g L h4 ((feed, fo4) :: (A2 ++ (own ++ [(c, W.listOf ws.toArray kc), (L + 1, o₁)]))) := news_sub N (by walk_at "m_sub")
    clear hA3 hs3 hd3 hA4 hs4 hd4
    obtain ⟨⟨n1, n2, n3⟩, nb0, nb6, nc0, nc6⟩ := rot_ne hi3 hj3 hi5 hj5
    (try k_fold)
    iterate 15 (walk_at "m_1")
    refine kdn_eval (knd := intKind _ _) (by k_asm) (by k_asm) (Top.nolimit TT) rfl rfl (List.cons_ne_nil _ _) (Nat.le_of_ble_eq_true rfl) ?_
    intro tbl h5 otb F N l5 lo5 hd5
    (try k_fold)
    iterate 40 (walk_at "m_1")
    refine made_rot F N l5 hd5 n1 n2 n3 ?_
    intro h6 otb2 tk6 v1 v2 v3 F N hd6
    clear hd5
    have hneT : ∀ q ∈ (tbl, otb2) :: (feed, fo4) :: (A2 ++ (own ++ [(c, W.listOf ws.toArray kc)])), q.1 ≠ L + 1 :=
      List.forall_mem_cons.mpr ⟨Nat.ne_of_gt (l5 (L + 1, o₁) (by walk_at "m_in")), List.forall_mem_cons.mpr ⟨Ne.symm hLf, List.forall_mem_append.mpr ⟨hA2L, List.forall_mem_append.mpr ⟨hownL, List.forall_mem_cons.mpr ⟨Ne.symm hLc, List.forall_mem_nil _⟩⟩⟩⟩⟩
    replace N : News g L h6 ((L + 1, o₁) :: (tbl, otb2) :: (feed, fo4) :: (A2 ++ (own ++ [(c, W.listOf ws.toArray kc)]))) := news_sub N (by walk_at "m_sub")
    k_dflt (refine' storeX_C ?F ?N ?c ?U ?d ?_ ?a ?b; (case a => rfl); (case b => rfl); (case F => exact F); (case N => exact N); (case c => rfl); (case U => exact UpdF.head hneT); (case d => exact d1))
    intro h7 o7 F N d7
    (try dsimp only at N)
    have hft : FlatPairs PyData.int [(i3, Value.int ((i3 + (1 + i5)).fmod 6) v1), ((i3 + (1 + i5)).fmod 6, Value.int ((i3 + 2 * (1 + i5)).fmod 6) v2), ((i3 + 2 * (1 + i5)).fmod 6, Value.int i3 v3)] (rotD i3 ((i3 + (1 + i5)).fmod 6) ((i3 + 2 * (1 + i5)).fmod 6)) := .cons (Flat.int _ _) (.cons (Flat.int _ _) (.cons (Flat.int _ _) .nil))
    iterate 8 (walk_at "m_1")
    refine listComp_D F (by with_unfolding_all rfl) (by decide) (by rfl) (by decide) (by rfl) ?_
    walk_at "m_1"
    refine ⟨tbl, otb2, _, _, rfl, rfl, by k_asm, by k_asm, by walk_at "m_in", hd6, lo5, by rw [sizeLine_eq]; simp, fun g' => ?_⟩
    refine compRest_ind 3 (fun i ys nw => ∃ tl, nw = tl ++ ((L + 1, o7) :: (tbl, otb2) :: (feed, fo4) :: (A2 ++ (own ++ [(c, W.listOf ws.toArray kc)]))) ∧ DatAll tl ys (([((i3 + (1 + i5)).fmod 6, i3), ((i3 + 2 * (1 + i5)).fmod 6, (i3 + (1 + i5)).fmod 6), (i3, (i3 + 2 * (1 + i5)).fmod 6)].take i).map pr2)) ?cturn ?cfin 3 0 [] _ rfl ⟨[], rfl, .nil⟩
    case cturn =>
      rintro ci ys nw v I oI C oC D m₂ h8 tk8 E' hci ⟨k, y, t, hk, rfl⟩ ⟨tl, rfl, hd⟩ hC hx F N off ne
      have hcell : (L + 1, o7) ∈ tl ++ ((L + 1, o7) :: (tbl, otb2) :: (feed, fo4) :: (A2 ++ (own ++ [(c, W.listOf ws.toArray kc)]))) := by walk_at "m_in"
      have hlook : ∃ y', PySem.Spec.lookup (.int k) (rotD i3 ((i3 + (1 + i5)).fmod 6) ((i3 + 2 * (1 + i5)).fmod 6)) = some (.int y') ∧ ([((i3 + (1 + i5)).fmod 6, i3), ((i3 + 2 * (1 + i5)).fmod 6, (i3 + (1 + i5)).fmod 6), (i3, (i3 + 2 * (1 + i5)).fmod 6)].take (ci + 1)) = ([((i3 + (1 + i5)).fmod 6, i3), ((i3 + 2 * (1 + i5)).fmod 6, (i3 + (1 + i5)).fmod 6), (i3, (i3 + 2 * (1 + i5)).fmod 6)].take ci) ++ [(y', k)] := by
        match ci, hk with
        | 0, hk => cases hk; exact ⟨_, rot_at0 _ _ _, rfl⟩
        | 1, hk => cases hk; exact ⟨_, rot_at1 n1, rfl⟩
        | 2, hk => cases hk; exact ⟨_, rot_at2 n3 n2, rfl⟩
        | n + 3, hk => simp at hk
      obtain ⟨y', hly, htk⟩ := hlook
      dsimp only
      iterate 5 (walk_at "m_1")
      refine item_tab (enc := PyData.int) PyProof.V.same_int (intKind_is _ _ _ _) ⟨lo5, _, Heap.dictOf_iff.mpr ⟨otb2, ((show News g L _ _ by k_asm) (tbl, otb2) (by walk_at "m_in")).1, hd6⟩, hft⟩ hly ?_ (by with_unfolding_all rfl) (by kmk_pure)
      intro v hv
      obtain ⟨t2, rfl⟩ := flat_int hv
      iterate 3 (walk_at "m_1")
      refine newTuple_M (by k_asm) (by k_asm) ?_ (by rw [sizeLine_eq]; simp)
      intro T9 h9 F9 N9 l9 L9
      rw [htk, List.map_append]
      have off3 := off.mem
      refine CompEnd.intro F9 N9 ((T9, { cls := .type "tuple", data := .seq [Value.int y' t2, Value.int k t].toArray }) :: (tl ++ ((L + 1, o7) :: (tbl, otb2) :: (feed, fo4) :: (A2 ++ (own ++ [(c, W.listOf ws.toArray kc)]))))) (by walk_at "m_sub") (Off3.of (List.forall_mem_cons.mpr ⟨⟨Nat.ne_of_gt (l9 (I, oI) (by walk_at "m_in")), Nat.ne_of_gt (l9 (C, oC) (by walk_at "m_in")), Nat.ne_of_gt (l9 (D, lst ys) (by walk_at "m_in"))⟩, off3⟩)) (by walk_at "m_in")
        ⟨(T9, { cls := .type "tuple", data := .seq [Value.int y' t2, Value.int k t].toArray }) :: tl, rfl, (hd.mono fun q hq => .tail _ hq).append (DatAll.one (DatIn.tuple (.head _) (.cons (DatIn.int _ _) (.cons (DatIn.int _ _) .nil))))⟩
    case cfin =>
      rintro ys nw ⟨tl, rfl, hd⟩ D h8 tk8 F N off
      have hyl := hd.length
      (try k_fold)
      walk_at "m_1"
      refine dict_pairs_M (ks := [((i3 + (1 + i5)).fmod 6, i3), ((i3 + 2 * (1 + i5)).fmod 6, (i3 + (1 + i5)).fmod 6), (i3, (i3 + 2 * (1 + i5)).fmod 6)]) rfl (Top.nolimit TT) (by k_asm) (by k_asm) (.head _) (hd.mono fun q hq => .tail _ (List.mem_append_left _ hq)) ?nd (by rw [hyl]; simp) ?_
      case nd =>
        simp only [List.map_cons, List.map_nil, List.nodup_cons, List.mem_cons, List.not_mem_nil, or_false, not_or, not_false_eq_true, List.nodup_nil, and_true]
        exact ⟨⟨n2, Ne.symm n1⟩, Ne.symm n3⟩
      intro bck h10 obk tk10 kvb F N l10 L10 lo10 hd10 hf10
      (try k_fold)
      iterate 10 (walk_at "m_1")
      rename_i emp hE oE FE NE loE hsE fsE hiE fiE l1E
      refine pure_use (fct.plain (T := id) _ _ _ _ _ A2 bl emp (by walk_at "m_om") hd2 (fun q hq => (NE q (by walk_at "m_in")).1) (tabIs_of NE (.head _) loE hiE fiE (fun i => rfl))) GG (by k_asm) (by k_asm) ?_
      intro r ldT dT h11 tk11 F N hlT hfT hdT hDT
      subst hDT
      obtain ⟨td, vsT, kT, rfl, hmT, hallT⟩ := datIn_tup hdT
      obtain ⟨v0, itT, rfl, hw0, hitT⟩ := datAll1 hallT
      obtain ⟨tw0, rfl⟩ := datIn_str hw0
      obtain ⟨bl', vsB, kB, hbe, hmB, hallB⟩ := datIn_list hd2
      cases hbe
      obtain ⟨vB0, itB, rfl, hwB, hitB⟩ := datAll1 hallB
      have hbl8 : itB.length = ps.length := by rw [hitB.length, List.length_map]
      have hps10 := fct.sm.1
      replace N : News g L h11 (ldT ++ ((bck, obk) :: (L + 1, o7) :: (tbl, otb2) :: (feed, fo4) :: (A2 ++ (own ++ [(c, W.listOf ws.toArray kc)])))) := news_sub N (by walk_at "m_sub")
      clear NE hd
      have inT : ∀ {q : Addr × Obj} {nw : Led}, q ∈ ldT ++ A2 → (∀ q ∈ ldT, q ∈ nw) → (∀ q ∈ A2, q ∈ nw) → q ∈ nw := fun h h1 h2 => (List.mem_append.mp h).elim (h1 _) (h2 _)
      (try k_fold)
      iterate 23 (walk_at "m_1")
      refine itemN_L 0 ⟨_, ((show News g L _ _ by k_asm) _ (inT hmT (by walk_at "m_sub") (by walk_at "m_sub"))).1, rfl, _, rfl⟩ rfl rfl (by decide) ?_ (by with_unfolding_all rfl)
      iterate 2 (walk_at "m_1")
      refine shape_use (by walk_at "m_om") GG (by k_asm) (by k_asm) ?_
      intro tsh h12 tk12 F N
      (try k_fold)
      iterate 5 (walk_at "m_1")
      refine LCp.ListComp_P (F₀ := by k_asm) (by with_unfolding_all rfl) (by decide) (by rfl) (by decide) (by rfl) (by rfl) (by decide) ?_
      iterate 7 (walk_at "m_1")
      refine slice1_L (s := ⟨_, _, _, _, _⟩) (by k_asm) (by k_asm) ⟨_, ((show News g L _ _ by k_asm) _ (show (bl, _) ∈ _ by walk_at "m_in")).1, rfl, _, rfl⟩ ?_ (by with_unfolding_all rfl) (by kmk_pure) (by rw [sizeLine_eq]; omega)
      intro Dsl h13 F N l13 L13
      skip
      refine LCp.SrcLP.ledger (by rfl) (by k_asm) (by k_asm) (by k_mem) (by rw [sizeLine_eq]; simp; omega) ?_
      intro g'
      refine compP_flat _ (fun i v => ∃ q u, ps[i]? = some q ∧ v = .str q.kind u) (fun i v => ∃ q u, ps[i]? = some q ∧ v = .str q.kind u) ?hP ?hS ?helt ?hfin
      case hP =>
        intro i v hv
        obtain ⟨t, ot, v₁, v₂, nt, e, hm, hc, hd, hq⟩ := pair_at hitB (show itB[i]? = some v by simpa using hv)
        exact ⟨t, ot, v₁, v₂, nt, e, by walk_at "m_in", hc, hd, hq⟩
      case hS => exact .inr ⟨_, .head _, rfl, _, rfl⟩
      case helt =>
        rintro i v₁ C oC m₂ h14 tk14 nw Q E ⟨q, u, hq, rfl⟩ hC hx F N hmC ret
        dsimp only
        walk_at "m_1"
        exact ret _ _ _ ⟨q, u, hq, rfl⟩ (by k_asm) (by k_asm)
      case hfin =>
        intro ys2 hyl2 hyr2 D2 h14 tk14 F N off2
        (try k_fold)
        replace N : News g L h14 ((D2, lst ys2) :: (ldT ++ ((bck, obk) :: (L + 1, o7) :: (tbl, otb2) :: (feed, fo4) :: (A2 ++ (own ++ [(c, W.listOf ws.toArray kc)]))))) := news_sub N (by walk_at "m_sub")
        have hjn := (join_kinds ps).trans fct.sh.symm
        walk_at "m_1"
        refine KT.join_1 (l := ps) (g := P1.kind) (ys := ys2) ⟨_, (N _ (.head _)).1, rfl, _, rfl⟩ (carried_kinds (by rw [hyl2]; simpa using hbl8) hyr2) (fun a _ => kind_one a) (by omega) ?_
        intro tj kj ljn
        rw [hjn]
        (try k_fold)
        iterate 3 (walk_at "m_1")
        walk_at "m_1"
        · rename_i a
          simp at a
        iterate 11 (walk_at "m_1")
        refine str_use (fct.fault _ _ _ _ _ (ldT ++ A2) td _ (by walk_at "m_om") hdT (fun q hq => ((show News g L _ _ by k_asm) q (inT hq (by walk_at "m_sub") (by walk_at "m_sub"))).1)) GG (by k_asm) (by k_asm) ?_
        intro tf h15 tk15 F N
        (try k_fold)
        replace N : News g L h15 (ldT ++ ((bck, obk) :: (L + 1, o7) :: (tbl, otb2) :: (feed, fo4) :: (A2 ++ (own ++ [(c, W.listOf ws.toArray kc)])))) := news_sub N (by walk_at "m_sub")
        iterate 19 (walk_at "m_1")
        refine named_use (fct.vars _ _ _ _ _ (ldT ++ A2) td (by walk_at "m_om") hdT (fun q hq => ((show News g L _ _ by k_asm) q (inT hq (by walk_at "m_sub") (by walk_at "m_sub"))).1)) GG (by k_asm) (by k_asm) ?_
        intro a1 w1 k1 h16 tk16 F N L16 l16 hv1
        (try k_fold)
        iterate 15 (walk_at "m_1")
        refine named_use (fct.named _ _ _ _ _ A2 bl (by walk_at "m_om") hd2 (fun q hq => ((show News g L _ _ by k_asm) q (by walk_at "m_in")).1)) GG (by k_asm) (by k_asm) ?_
        intro a2 w2 k2 h17 tk17 F N L17 l17 hv2
        (try k_fold)
        walk_at "m_1"
        refine set_M rfl (by k_asm) (by k_asm) (.head _) hv2 fct.nm ?_
        intro a3 o3 h18 tk18 F N l18 L18 hS3
        walk_at "m_1"
        refine sortedSet_M rfl (by k_asm) (by k_asm) hS3 ⟨o3, .head _⟩ L18 ?_
        intro a4 w4 k4 h19 tk19 F N l19 L19 hv4
        rw [List.map_id] at hv1
        skip
        refine neSame_M (d := .list ((pick (hasB (ps.flatMap P1.names))).map .int)) (n₁ := [(a1, { cls := .type "list", data := .seq (List.toArray w1) k1 })]) (n₂ := [(a4, { cls := .type "list", data := .seq (List.toArray w4) k4 })]) (by k_asm) (DatIn.list (.head _) (hv1.mono (List.forall_mem_nil _))) (by walk_at "m_sub") (DatIn.list (.head _) (hv4.mono (List.forall_mem_nil _))) (by walk_at "m_sub") (ok_list _) (by dsimp only [Around.deeper]; omega) ?_
        replace N : News g L h19 (ldT ++ ((bck, obk) :: (L + 1, o7) :: (tbl, otb2) :: (feed, fo4) :: (A2 ++ (own ++ [(c, W.listOf ws.toArray kc)])))) := news_sub N (by walk_at "m_sub")
        (try k_fold)
        iterate 14 (walk_at "m_1")
        refine pure_use (fct.ren (T0 := id) (T := rot i3 ((i3 + (1 + i5)).fmod 6) ((i3 + 2 * (1 + i5)).fmod 6)) _ _ _ _ _ (ldT ++ A2) td tbl (by walk_at "m_om") hdT (fun q hq => ((show News g L _ _ by k_asm) q (inT hq (by walk_at "m_sub") (by walk_at "m_sub"))).1) (tabIs_of (show News g L _ _ by k_asm) (show (tbl, otb2) ∈ _ by walk_at "m_in") lo5 hd6 hft (rot_look _ _ _))) GG (by k_asm) (by k_asm) ?_
        intro r ldM dM h20 tk20 F N hlM hfM hdM hDM
        subst hDM
        obtain ⟨md, rfl⟩ := datIn_ref hdM
        (try k_fold)
        iterate 17 (walk_at "m_1")
        refine pure_use (fct.plain (T := rot i3 ((i3 + (1 + i5)).fmod 6) ((i3 + 2 * (1 + i5)).fmod 6)) _ _ _ _ _ A2 bl tbl (by walk_at "m_om") hd2 (fun q hq => ((show News g L _ _ by k_asm) q (by walk_at "m_in")).1) (tabIs_of (show News g L _ _ by k_asm) (show (tbl, otb2) ∈ _ by walk_at "m_in") lo5 hd6 hft (rot_look _ _ _))) GG (by k_asm) (by k_asm) ?_
        intro r ldP dP h21 tk21 F N hlP hfP hdP hDP
        subst hDP
        skip
        refine neSame_M (by k_asm) hdM (List.forall_mem_append.mpr ⟨by walk_at "m_sub", List.forall_mem_append.mpr ⟨by walk_at "m_sub", by walk_at "m_sub"⟩⟩) hdP (List.forall_mem_append.mpr ⟨by walk_at "m_sub", by walk_at "m_sub"⟩) (ok_told fct.hw fct.ok) (by dsimp only [Around.deeper]; omega) ?_
        replace N : News g L h21 (ldM ++ (ldT ++ ((bck, obk) :: (L + 1, o7) :: (tbl, otb2) :: (feed, fo4) :: (A2 ++ (own ++ [(c, W.listOf ws.toArray kc)]))))) := news_sub N (by walk_at "m_sub")
        (try k_fold)
        iterate 13 (walk_at "m_1")
        refine pure_use (fct.ren (T0 := rot i3 ((i3 + (1 + i5)).fmod 6) ((i3 + 2 * (1 + i5)).fmod 6) ∘ id) (T := kor i3 ((i3 + (1 + i5)).fmod 6) ((i3 + 2 * (1 + i5)).fmod 6)) _ _ _ _ _ (ldM ++ (ldT ++ A2)) md bck (by walk_at "m_om") hdM (fun q hq => ((show News g L _ _ by k_asm) q ((List.mem_append.mp hq).elim (fun h => by walk_at "m_in") fun h => inT h (by walk_at "m_sub") (by walk_at "m_sub"))).1) (tabIs_of (show News g L _ _ by k_asm) (show (bck, obk) ∈ _ by walk_at "m_in") lo10 hd10 hf10 (kor_look _ _ _))) GG (by k_asm) (by k_asm) ?_
        intro r ldR dR h22 tk22 F N hlR hfR hdR hDR
        subst hDR
        rw [show kor i3 ((i3 + (1 + i5)).fmod 6) ((i3 + 2 * (1 + i5)).fmod 6) ∘ (rot i3 ((i3 + (1 + i5)).fmod 6) ((i3 + 2 * (1 + i5)).fmod 6) ∘ id) = id from kor_rot n1 n2 n3] at hdR
        walk_at "m_1"
        refine neSame_M (by k_asm) hdR (List.forall_mem_append.mpr ⟨by walk_at "m_sub", List.forall_mem_append.mpr ⟨by walk_at "m_sub", List.forall_mem_append.mpr ⟨by walk_at "m_sub", by walk_at "m_sub"⟩⟩⟩) hdT (List.forall_mem_append.mpr ⟨by walk_at "m_sub", by walk_at "m_sub"⟩) (ok_told fct.hw fct.ok) (by dsimp only [Around.deeper]; omega) ?_
        replace N : News g L h22 ((feed, fo4) :: (own ++ [(c, W.listOf ws.toArray kc), (L + 1, o7)])) := news_sub N (by walk_at "m_sub")
        (try k_fold)
        k_steps
        refine turnEnd_of (nx := [(feed, fo4), (c, W.listOf ws.toArray kc), (L + 1, o7)]) (by k_asm) (by k_asm) (by walk_at "m_sub") (by walk_at "m_sub") ?_ ⟨rfl, fo4, p4, o7, _, rfl, hF4, by omega, d7⟩
        exact List.forall_mem_cons.mpr ⟨hnx (feed, fo) (.head _), List.forall_mem_cons.mpr ⟨hnx (c, W.listOf ws.toArray kc) (.tail _ (.head _)), List.forall_mem_cons.mpr ⟨hnx (L + 1, o₁) (.tail _ (.tail _ (.head _))), List.forall_mem_nil _⟩⟩⟩

theorem law_top {w : World} {s : Shared} {g : Heap} {L b fa : Addr} {cd : Value} {cells : Led}
    {name qual : Str} {params : Arguments} {body : List Stmt} {scope : Scope} {dV kV doc pm cdv ct oc : Value} {an od : Option Addr} {osl : Array (Option Value)} {vs : List Value} {ns : List Int} {Q : Flow → Shared → Prop} {E : Value → Shared → Prop}
    (hb : (mk.heap_1 w.params).lookup 152 = some ⟨oc, od, .func (fnOf name qual params body scope dV kV doc pm an cdv ct), osl⟩)
    (G : G0 w g) (F : Fr g L s.heap (bindL (envOfC qual scope L fa cd).kindOf [(Str.ofString "script", .ref b)] fun _ => none)) (N : News g L s.heap cells)
    (Y : CellsAre (bindC (envOfC qual scope L fa cd).kindOf [(Str.ofString "script", .ref b)] fun _ => none) (cellsFrom (L + 1) scope.names []) cells)
    (hl : g.IsList b vs.toArray) (hi : IntsAre vs ns) (h63 : ¬ ((63 : Nat) : Int) < ((ns.length : Nat) : Int)) (ret : ∀ h' tk' m', Fr g L h' m' → Q (.ret (.bool true)) { s with heap := h', toks := tk' }) :
    wpAny (model PySem.Challenge.rw_pc0027_01.row.prog w) (Around.deeper callerA (envOfC qual scope L fa cd)) (execs body (envOfC qual scope L fa cd)) Q E s :=
  wpAny_mono (law_body hb (by decide) (by decide) G F N Y hl hi (by omega) ret) (fun _ _ h => h) fun _ _ h => h.elim
end
set_option Elab.async true
def fin.tw17020601201472085653 : Unit := ()
def fin.tw11112386831996348380 : Unit := ()
def fin.tw13729143995475384800 : Unit := ()
def fin.tw3856959637817057344 : Unit := ()
def fin.tw4698916972681325765 : Unit := ()
def fin.tw1412459407091105835 : Unit := ()
def fin.tw10891054232620793217 : Unit := ()
def fin.tw1963134401048803436 : Unit := ()
def fin.tw17656766251404061198 : Unit := ()
def fin.tw544173102793226557 : Unit := ()
def fin.tw11336253725339858928 : Unit := ()
def fin.tw17416127249078093707 : Unit := ()
def fin.tw17570709534508481193 : Unit := ()
def fin.tw10875463905939285979 : Unit := ()
def fin.tw3599858809825778643 : Unit := ()
def fin.tw3817654288837886093 : Unit := ()
def fin.tw14365839007642131201 : Unit := ()
def fin.tw2462912638960843985 : Unit := ()
def fin.tw6968583824967984638 : Unit := ()
def fin.tw12740692763255036000 : Unit := ()
def fin.tw14574801432027512755 : Unit := ()
def fin.tw10874316729293906858 : Unit := ()
def fin.tw16115155874713506467 : Unit := ()
def fin.tw8352470293576582857 : Unit := ()
def fin.tw3810338749695602999 : Unit := ()
def fin.tw15815952407149668801 : Unit := ()
def fin.tw16196181902256332553 : Unit := ()
def fin.tw1613116972386908190 : Unit := ()
def fin.tw11414674201277728305 : Unit := ()
def fin.tw18105285910621931680 : Unit := ()
def fin.tw12464766053444552404 : Unit := ()
def fin.tw11154830654865731599 : Unit := ()
def fin.tw5486226609284752418 : Unit := ()
def fin.tw9746901515087519452 : Unit := ()
def fin.tw17628183408451194143 : Unit := ()
def fin.tw3105451386036433885 : Unit := ()
def fin.tw14431720936831517352 : Unit := ()
def fin.tw13870153662132920491 : Unit := ()
def fin.tw12409915417874342407 : Unit := ()
def fin.tw744865244796547220 : Unit := ()
def fin.tw10383673109516279431 : Unit := ()
def fin.tw10098057777631523497 : Unit := ()
def fin.tw17717364068325071970 : Unit := ()
def fin.tw1887099378405440850 : Unit := ()
def fin.tw3343445320678177929 : Unit := ()
def fin.tw4878226113927451544 : Unit := ()
def fin.tw18295790063311454060 : Unit := ()
def fin.tw12572496214493544662 : Unit := ()
def fin.tw7380833856163905736 : Unit := ()
def fin.tw13948639791554836966 : Unit := ()
def fin.tw6956187926921108005 : Unit := ()
def fin.tw8486029173102831156 : Unit := ()
theorem fin : PySem.Challenge.rw_pc0027_01.Holds := by
  w_on; o_law; o_head (kHook mk.heap_1 [2, 3, 15, 17, 18, 20, 21, 22, 25, 26, 27, 29, 30, 32, 33, 34, 35, 36, 38, 39, 40, 41, 42, 43, 44, 45, 46, 47, 48, 49, 50, 51, 52, 53, 54, 55, 57, 58, 60, 61, 62, 65, 66, 67, 69, 70, 72, 73, 74, 77, 78, 79, 82, 83, 84, 87, 88, 89, 90, 92, 93, 95, 96, 97, 99, 100, 102, 103, 104, 107, 108, 109, 112, 113, 114, 116, 117, 119, 120, 121, 124, 125, 126, 129, 130, 131, 134, 135, 136, 139, 140, 141, 143, 144, 146, 147, 148, 151, 152] (fun _ => by kernel_rfl)); (case hw => w_witness2)
  w_strict (k_go0; all_goals (
    rename_i hFF oTB hTB hNN hYY
    refine' law_top ?zb ?zG ?zF ?zN ?zY ?zl ?zi ?z63 ?zret
    case zF => exact hFF
    case zN => exact hNN
    case zY => exact hYY
    case zG => exact ⟨by assumption, _, _, _, by assumption⟩
    case zl => assumption
    case zi => assumption
    case z63 => assumption
    case zb => k_is
    case zret =>
      intro h' tk' m' F'
      dsimp only
      k_end; wrow_close))
end Mine
theorem PySem.Challenge.cw_pc0027_01_holds : PySem.Challenge.rw_pc0027_01.Holds := by
  exact Mine.fin
