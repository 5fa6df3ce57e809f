import PyProof.Rows.All
import Wide.All
import OpenK.AllK
import Wide.FinOn
import PySem.Challenge.RW_np0001_01
set_option Elab.async false
section
open PySem PySem.W PyProof.Rows
set_option Elab.async false
namespace Mine
set_option maxRecDepth 100000 in
set_option maxHeartbeats 8000000 in
open_top hd for PySem.Challenge.rw_np0001_01
end Mine

end
theorem Mine.topOff : True := by
  w_top off
  trivial
section
open PySem PySem.Spec PySem.Calls PySem.W PyProof.Rows
set_option Elab.async false
set_option maxRecDepth 100000
namespace Mine

noncomputable abbrev Pg : Program := PySem.Challenge.rw_np0001_01.row.prog
noncomputable abbrev Vw : Program := topProg
noncomputable abbrev Lo : List Str := looseW hd.view_39 [Str.ofString "Face"] ++ (recsOf hd.view_39).map (·.name) ++ (litsOf hd.view_39).map (·.1) ++ (clssOf hd.view_39 (looseW hd.view_39 [Str.ofString "Face"])).map (·.name)

/-- the heap g is a part of h -/
abbrev Sub (g h : Heap) : Prop := ∀ b o, g.get? b = some o → h.get? b = some o
/-- all of h but the addresses `av` stands in h' -/
abbrev KB (av : List Nat) (h h' : Heap) : Prop := ∀ b o, b ∉ av → h.get? b = some o → h'.get? b = some o

theorem ltSz {h : Heap} {a : Nat} {o : Obj} (e : h.get? a = some o) : a < h.objs.size := Heap.lt_size e
theorem Sub.refl (h : Heap) : Sub h h := fun _ _ e => e
theorem Sub.trans {a b c : Heap} (x : Sub a b) (y : Sub b c) : Sub a c := fun b o e => y b o (x b o e)
theorem KB.refl (av) (h : Heap) : KB av h h := fun _ _ _ e => e
theorem KB.trans {av} {a b c : Heap} (x : KB av a b) (y : KB av b c) : KB av a c := fun b o n e => y b o n (x b o n e)
theorem KB.mono {av bv} {a b : Heap} (x : KB av a b) (hs : ∀ c ∈ av, c ∈ bv) : KB bv a b := fun b o n e => x b o (fun q => n (hs _ q)) e
theorem KB.of_sameBut {d} {h h' : Heap} (x : Heap.SameBut d h h') : KB [d] h h' := fun b _ n e => (x.2 b (fun q => n (q ▸ List.mem_singleton.mpr rfl))).trans e
theorem KB.of_sub {av} {h h' : Heap} (x : Sub h h') : KB av h h' := fun b o _ e => x b o e

/-- the ground: the text's own objects -/
structure Gd (w : World) (mean : ExcName → Option Value) (mg mb : Str → Option Value) (g : Heap) : Prop where
  X : (hd.heap_39 w.params).In g
  T : Top Vw Lo mean mg mb g
theorem Gd.sub {w mean mg mb} {g h : Heap} (G : Gd w mean mg mb g) (s : Sub g h) : Gd w mean mg mb h := ⟨G.X.keeps s, G.T.keeps s⟩

@[reducible] noncomputable def Ar (dp un : Nat) (fr : Option (List Env)) (gd : Option (List Code)) : Around := { handled := none, depth := dp, frames := fr, guards := gd, units := un }

section enter
variable {prog : Program} {w : World} {A : Around} {K : Frag} {p : Program} {loose : List Str} {mean : ExcName → Option Value} {mg mb : Str → Option Value}
  {g₀ : Heap} {s : Shared} {R : Result → Shared → Prop} {own : List (Addr × Obj)} {name qual : Str} {params : Arguments} {body : List Stmt} {scope : Scope}
  {dV kV doc pm cdv ct oc : Value} {an od : Option Addr} {osl : Array (Option Value)} {f : Addr} {args : Args} {binds : List (Str × Value)}

theorem enter0 (X : K.In g₀) (T : Top p loose mean mg mb g₀) (hg : Sub g₀ s.heap) (hown : ∀ q ∈ own, s.heap.get? q.1 = some q.2 ∧ g₀.get? q.1 = none)
    (ho : K.lookup f = some ⟨oc, od, .func (fnOf name qual params body scope dV kV doc pm an cdv ct), osl⟩) (hcd : codeIn K cdv qual = true) (hroom : A.depth < recursionLimit)
    (hbind : BindsTo s (fnOf name qual params body scope dV kV doc pm an cdv ct) args binds) (hloc : ∀ y ∈ binds, scope.names.lookup y.1 = some .local)
    (h : ∀ g L h₁, Fr g L h₁ (fun y => binds.reverse.lookup y) → News g L h₁ own → K.In g → Top p loose mean mg mb g → (∀ p ∈ own, p.1 < L) →
      KB (own.map (·.1)) s.heap g → Sub g₀ g →
      wpAny (model prog w) (A.deeper (envOf qual scope L f cdv)) (execs body (envOf qual scope L f cdv))
        (fun fl s' => R (.ok (.ret (match fl with | .ret v => v | _ => .none))) s') (fun _ _ => False) { s with heap := h₁, toks := s.toks + binds.length })
    (hcell : ∀ x ∈ scope.names, x.2 ≠ .cell) (hco : scope.isCoroutine = false) (hgen : scope.isGenerator = false) (hk : scope.kind = .function) :
    codeAny (model prog w) A (.call (.ref f) args) R s := by
  refine codeAny_call_def (fd := fnOf name qual params body scope dV kV doc pm an cdv ct) (body := body) (binds := binds) hroom (hg _ _ (X _ _ ho)) rfl (T.nolimit.keeps hg)
    (codeRec_of (X.keeps hg) hcd) rfl hbind hcell hloc (fun h₁ hns hk₁ => ?_) hco hgen hk
  have nm : ∀ b o, g₀.get? b = some o → b ∉ own.map (·.1) := fun b o e q => by
    obtain ⟨p, hp, rfl⟩ := List.mem_map.mp q
    rw [(hown p hp).2] at e; cases e
  have st : Sub g₀ (hideAll s.heap (own.map (·.1))) := fun b o e => hideAll_get _ (hg b o e) (nm b o e)
  exact wpAny_mono (h (hideAll s.heap (own.map (·.1))) s.heap.objs.size h₁ ⟨hns, fun b o e => hk₁ b o (of_hideAll _ e), Nat.le_of_eq (hideAll_size _ _)⟩
    (fun p hp => ⟨hk₁ _ _ (hown p hp).1, Nat.ne_of_lt (Heap.lt_size (hown p hp).1), hideAll_none _ (List.mem_map_of_mem hp)⟩) (X.keeps st) (T.keeps st)
    (fun p hp => Heap.lt_size (hown p hp).1) (fun b o n e => hideAll_get _ e n) st) (fun _ _ x => x) fun _ _ x => x.elim

theorem enterC (X : K.In g₀) (T : Top p loose mean mg mb g₀) (hg : Sub g₀ s.heap) (hown : ∀ q ∈ own, s.heap.get? q.1 = some q.2 ∧ g₀.get? q.1 = none)
    (ho : K.lookup f = some ⟨oc, od, .func (fnOf name qual params body scope dV kV doc pm an cdv ct), osl⟩) (hcd : codeIn K cdv qual = true) (hroom : A.depth < recursionLimit)
    (hbind : BindsTo s (fnOf name qual params body scope dV kV doc pm an cdv ct) args binds)
    (hkind : (binds.all fun y => scope.names.lookup y.1 == some .local || scope.names.lookup y.1 == some .cell) = true)
    (hnd : ((cellsFrom 0 scope.names []).map (·.1)).Nodup)
    (h : ∀ g L h₁ tk cells, Fr g L h₁ (bindL (envOfC qual scope L f cdv).kindOf binds fun _ => none) → News g L h₁ (cells ++ own) →
      CellsAre (bindC (envOfC qual scope L f cdv).kindOf binds fun _ => none) (cellsFrom (L + 1) scope.names []) cells → K.In g → Top p loose mean mg mb g → (∀ p ∈ own, p.1 < L) →
      KB (own.map (·.1)) s.heap g → Sub g₀ g →
      wpAny (model prog w) (A.deeper (envOfC qual scope L f cdv)) (execs body (envOfC qual scope L f cdv))
        (fun fl s' => R (.ok (.ret (match fl with | .ret v => v | _ => .none))) s') (fun _ _ => False) { s with heap := h₁, toks := tk })
    (hco : scope.isCoroutine = false) (hgen : scope.isGenerator = false) (hk : scope.kind = .function) :
    codeAny (model prog w) A (.call (.ref f) args) R s := by
  refine codeAny_call_function hroom (hg _ _ (X _ _ ho)) rfl hco hgen rfl (codeRec_of (X.keeps hg) hcd) (hbind _ _ _ _ ?_)
  refine wpAny_newFunctionEnv_cells hk (kindsX hkind _) fun env' he s' x => ?_
  subst he
  refine ⟨(T.nolimit.keeps hg).keeps x.toInCall.keep, codeAny_func ?_⟩
  obtain ⟨h₁, tk, rfl, _⟩ := x.done
  have hk₁ := x.toInCall.keep
  have nm : ∀ b o, g₀.get? b = some o → b ∉ own.map (·.1) := fun b o e q => by
    obtain ⟨p, hp, rfl⟩ := List.mem_map.mp q
    rw [(hown p hp).2] at e; cases e
  have st : Sub g₀ (hideAll s.heap (own.map (·.1))) := fun b o e => hideAll_get _ (hg b o e) (nm b o e)
  obtain ⟨cells, NC, Y⟩ := Cl.news (h₀ := s.heap) (Nat.le_refl _) fun n c hm => ⟨x.cell n c (lookup_of_mem_nodup (cellsFrom_names scope.names 0 (s.heap.objs.size + 1) [] [] rfl ▸ hnd) hm), x.above n c hm⟩
  refine wpAny_mono (h (hideAll s.heap (own.map (·.1))) s.heap.objs.size h₁ tk cells ⟨x.toInCall.ns, fun b o e => hk₁ b o (of_hideAll _ e), Nat.le_of_eq (hideAll_size _ _)⟩ (fun p hp => ?_) Y (X.keeps st) (T.keeps st)
    (fun p hp => Heap.lt_size (hown p hp).1) (fun b o n e => hideAll_get _ e n) st) (fun _ _ x => x) fun _ _ x => x.elim
  rcases List.mem_append.mp hp with hp | hp
  · refine ⟨(NC p hp).1, (NC p hp).2.1, ?_⟩
    cases q : (hideAll s.heap (own.map (·.1))).get? p.1 with
    | none => rfl
    | some o => have := of_hideAll _ q; rw [(NC p hp).2.2] at this; cases this
  · exact ⟨hk₁ _ _ (hown p hp).1, Nat.ne_of_lt (Heap.lt_size (hown p hp).1), hideAll_none _ (List.mem_map_of_mem hp)⟩
end enter

theorem exitKB {av} {h g h' : Heap} {L : Addr} {m : Str → Option Value} (k : KB av h g) (F : Fr g L h' m) : KB av h h' := fun b o n e => F.keep b o (k b o n e)

section upd
variable {g h h' : Heap} {L d : Addr} {m : Str → Option Value} {o o' : Obj} {rest : List (Addr × Obj)}
theorem frUpd (F : Fr g L h m) (N : News g L h ((d, o) :: rest)) (hs : KB [d] h h') : Fr g L h' m := by
  have hd := N _ (.head _)
  refine ⟨F.ns.at' fun o e => hs _ o (fun q => hd.2.1 (List.mem_singleton.mp q).symm) e, fun b o e => hs b o (fun q => ?_) (F.keep b o e), F.above⟩
  rw [List.mem_singleton.mp q, hd.2.2] at e; cases e
theorem newsUpd (N : News g L h ((d, o) :: rest)) (off : ∀ p ∈ rest, p.1 ≠ d) (hs : KB [d] h h') (ho : h'.get? d = some o') : News g L h' ((d, o') :: rest) := by
  have hd := N _ (.head _)
  intro p hp
  rcases List.mem_cons.mp hp with rfl | hp
  · exact ⟨ho, hd.2.1, hd.2.2⟩
  · exact ⟨hs _ _ (fun q => off p hp (List.mem_singleton.mp q)) (N p (.tail _ hp)).1, (N p (.tail _ hp)).2⟩
theorem frKB {av} (F : Fr g L h m) (k : KB av h h') (hL : L ∉ av) (hg : ∀ a ∈ av, g.get? a = none) : Fr g L h' m :=
  ⟨F.ns.at' fun o e => k _ o hL e, fun b o e => k b o (fun q => by rw [hg b q] at e; cases e) (F.keep b o e), F.above⟩
theorem newsKB {av} {news : List (Addr × Obj)} (N : News g L h news) (k : KB av h h') (off : ∀ p ∈ news, p.1 ∉ av) : News g L h' news :=
  fun p hp => ⟨k _ _ (off p hp) (N p hp).1, (N p hp).2⟩
theorem newsMono {news news' : List (Addr × Obj)} (N : News g L h news) (hs : ∀ p ∈ news', p ∈ news) : News g L h news' := fun p hp => N p (hs p hp)
end upd

/-- the pot: a list of the cells' list, the place, the seed -/
def PotO (c : Addr) (k : Nat) (o : Obj) : Prop :=
  ∃ (at' seed : Int) (t1 t2 : Tok) (n : Nat), o = { cls := .type "list", data := .seq [Value.ref c, .int at' t1, .int seed t2].toArray n } ∧ 0 ≤ at' ∧ at' ≤ k ∧ 0 ≤ seed ∧ seed < 100000
theorem PotO.le {c k k' o} (h : PotO c k o) (hk : k ≤ k') : PotO c k' o := by
  obtain ⟨a, b, t1, t2, n, e, h1, h2, h3, h4⟩ := h
  exact ⟨a, b, t1, t2, n, e, h1, by lia, h3, h4⟩
end Mine
namespace Mine
theorem isListUp {g h : Heap} {l : Addr} {items : Array Value} (s : Sub g h) (x : g.IsList l items) : h.IsList l items := x.at fun o e => s _ o e
theorem isListKB {av : List Addr} {g h : Heap} {l : Addr} {items : Array Value} (s : KB av g h) (n : l ∉ av) (x : g.IsList l items) : h.IsList l items := x.at fun o e => s _ o n e
theorem fa0 {α : Type} {P : α → Prop} : ∀ p ∈ ([] : List α), P p := fun _ h => nomatch h
theorem faC {α : Type} {P : α → Prop} {a : α} {l : List α} (h : P a) (k : ∀ p ∈ l, P p) : ∀ p ∈ a :: l, P p := List.forall_mem_cons.mpr ⟨h, k⟩
theorem inL {α : Type} {P : α → Prop} {l l1 : List α} (k : ∀ p ∈ l, p ∈ l1) : ∀ p ∈ l, p ∈ l1 ∨ P p := fun p h => .inl (k p h)
theorem fa1 {α : Type} {P : α → Prop} {a1 : α} (h1 : P a1) : ∀ p ∈ [a1], P p := faC h1 fa0
theorem fa2 {α : Type} {P : α → Prop} {a1 a2 : α} (h1 : P a1) (h2 : P a2) : ∀ p ∈ [a1, a2], P p := faC h1 (faC h2 fa0)
theorem fa3 {α : Type} {P : α → Prop} {a1 a2 a3 : α} (h1 : P a1) (h2 : P a2) (h3 : P a3) : ∀ p ∈ [a1, a2, a3], P p := faC h1 (faC h2 (faC h3 fa0))
theorem fa4 {α : Type} {P : α → Prop} {a1 a2 a3 a4 : α} (h1 : P a1) (h2 : P a2) (h3 : P a3) (h4 : P a4) : ∀ p ∈ [a1, a2, a3, a4], P p := faC h1 (faC h2 (faC h3 (faC h4 fa0)))
theorem fa5 {α : Type} {P : α → Prop} {a1 a2 a3 a4 a5 : α} (h1 : P a1) (h2 : P a2) (h3 : P a3) (h4 : P a4) (h5 : P a5) : ∀ p ∈ [a1, a2, a3, a4, a5], P p := faC h1 (faC h2 (faC h3 (faC h4 (faC h5 fa0))))
theorem fa6 {α : Type} {P : α → Prop} {a1 a2 a3 a4 a5 a6 : α} (h1 : P a1) (h2 : P a2) (h3 : P a3) (h4 : P a4) (h5 : P a5) (h6 : P a6) : ∀ p ∈ [a1, a2, a3, a4, a5, a6], P p := faC h1 (faC h2 (faC h3 (faC h4 (faC h5 (faC h6 fa0)))))
theorem fa7 {α : Type} {P : α → Prop} {a1 a2 a3 a4 a5 a6 a7 : α} (h1 : P a1) (h2 : P a2) (h3 : P a3) (h4 : P a4) (h5 : P a5) (h6 : P a6) (h7 : P a7) : ∀ p ∈ [a1, a2, a3, a4, a5, a6, a7], P p := faC h1 (faC h2 (faC h3 (faC h4 (faC h5 (faC h6 (faC h7 fa0))))))
theorem fa8 {α : Type} {P : α → Prop} {a1 a2 a3 a4 a5 a6 a7 a8 : α} (h1 : P a1) (h2 : P a2) (h3 : P a3) (h4 : P a4) (h5 : P a5) (h6 : P a6) (h7 : P a7) (h8 : P a8) : ∀ p ∈ [a1, a2, a3, a4, a5, a6, a7, a8], P p := faC h1 (faC h2 (faC h3 (faC h4 (faC h5 (faC h6 (faC h7 (faC h8 fa0)))))))
theorem fa9 {α : Type} {P : α → Prop} {a1 a2 a3 a4 a5 a6 a7 a8 a9 : α} (h1 : P a1) (h2 : P a2) (h3 : P a3) (h4 : P a4) (h5 : P a5) (h6 : P a6) (h7 : P a7) (h8 : P a8) (h9 : P a9) : ∀ p ∈ [a1, a2, a3, a4, a5, a6, a7, a8, a9], P p := faC h1 (faC h2 (faC h3 (faC h4 (faC h5 (faC h6 (faC h7 (faC h8 (faC h9 fa0))))))))
theorem fa10 {α : Type} {P : α → Prop} {a1 a2 a3 a4 a5 a6 a7 a8 a9 a10 : α} (h1 : P a1) (h2 : P a2) (h3 : P a3) (h4 : P a4) (h5 : P a5) (h6 : P a6) (h7 : P a7) (h8 : P a8) (h9 : P a9) (h10 : P a10) : ∀ p ∈ [a1, a2, a3, a4, a5, a6, a7, a8, a9, a10], P p := faC h1 (faC h2 (faC h3 (faC h4 (faC h5 (faC h6 (faC h7 (faC h8 (faC h9 (faC h10 fa0)))))))))
theorem fa11 {α : Type} {P : α → Prop} {a1 a2 a3 a4 a5 a6 a7 a8 a9 a10 a11 : α} (h1 : P a1) (h2 : P a2) (h3 : P a3) (h4 : P a4) (h5 : P a5) (h6 : P a6) (h7 : P a7) (h8 : P a8) (h9 : P a9) (h10 : P a10) (h11 : P a11) : ∀ p ∈ [a1, a2, a3, a4, a5, a6, a7, a8, a9, a10, a11], P p := faC h1 (faC h2 (faC h3 (faC h4 (faC h5 (faC h6 (faC h7 (faC h8 (faC h9 (faC h10 (faC h11 fa0))))))))))
theorem fa12 {α : Type} {P : α → Prop} {a1 a2 a3 a4 a5 a6 a7 a8 a9 a10 a11 a12 : α} (h1 : P a1) (h2 : P a2) (h3 : P a3) (h4 : P a4) (h5 : P a5) (h6 : P a6) (h7 : P a7) (h8 : P a8) (h9 : P a9) (h10 : P a10) (h11 : P a11) (h12 : P a12) : ∀ p ∈ [a1, a2, a3, a4, a5, a6, a7, a8, a9, a10, a11, a12], P p := faC h1 (faC h2 (faC h3 (faC h4 (faC h5 (faC h6 (faC h7 (faC h8 (faC h9 (faC h10 (faC h11 (faC h12 fa0)))))))))))
theorem nm0 {α : Type} {x : α} : x ∉ ([] : List α) := fun h => nomatch h
theorem nmC {α : Type} {x a : α} {l : List α} (h : x ≠ a) (k : x ∉ l) : x ∉ a :: l := fun q => (List.mem_cons.mp q).elim h k
theorem nS {α : Type} {x : Option α} {v : α} {p : Prop} (h : x = none) (e : x = some v) : p := nomatch (h.symm.trans e)
theorem nS2 {α β : Type} {f : α → Option β} {a b : α} {v : β} {p : Prop} (q : b = a) (h : f a = none) (e : f b = some v) : p := nS (x := f b) (q ▸ h) e
end Mine

end
open PySem PySem.W
local macro_rules | `(tactic| walk_at $s:str) => `(tactic| k_extra $s)
local macro_rules | `(tactic| k_ne) => `(tactic| k_extra "ne")
local macro_rules | `(tactic| k_mem) => `(tactic| k_extra "mem")
section
open PySem PySem.Spec PySem.Calls PySem.W PyProof.Rows
set_option Elab.async false
set_option maxRecDepth 100000
namespace Mine

abbrev Nv : Value → Shared → Prop := fun _ _ => False
theorem wpNv {α : Type} {M : Model} {A : Around} {t : Sem α} {Q : α → Shared → Prop} {E : Value → Shared → Prop} {s : Shared} (h : wpAny M A t Q Nv s) : wpAny M A t Q E s :=
  wpAny_mono h (fun _ _ x => x) fun _ _ x => x.elim
theorem wpQ {α : Type} {M : Model} {A : Around} {t : Sem α} {Q Q' : α → Shared → Prop} {s : Shared} (h : wpAny M A t Q Nv s) (k : ∀ a s', Q a s' → Q' a s') : wpAny M A t Q' Nv s :=
  wpAny_mono h k fun _ _ x => x

/-- an iterator at I: n items; V what is known of the i-th, St its own state, on the addresses fp; a step writes wr -/
structure ItS (prog : Program) (w : World) (A : Around) (target : Expr) (I : Addr) (fp wr : List Nat) (n : Nat) (V : Nat → Value → Heap → Prop) (St : Nat → Heap → Prop) : Prop where
  sub : ∀ b ∈ wr, b ∈ fp
  frame : ∀ i h h', St i h → (∀ b ∈ fp, ∀ o, h.get? b = some o → h'.get? b = some o) → St i h'
  item : ∀ i (s : Shared) (Q : Value → Shared → Prop), i < n → St i s.heap →
    (∀ v h' tk, V i v h' → St (i + 1) h' → KB wr s.heap h' → Q v { s with heap := h', toks := tk }) →
    wpAny (model prog w) A (pyNext (.ref I)) (fun r s₁ => ∃ v, r = some v ∧ wpAny (model prog w) A (letOwnedTupleGo target (.ref I) v) (fun _ s₂ => Q v s₂) Nv s₁) Nv s
  done : ∀ (s : Shared) (Q : Shared → Prop), St n s.heap → (∀ h' tk, KB wr s.heap h' → Q { s with heap := h', toks := tk }) → wpAny (model prog w) A (pyNext (.ref I)) (fun r s₁ => r = none ∧ Q s₁) Nv s
  self : ∀ i (s : Shared) (Q : Value → Shared → Prop), St i s.heap → Q (.ref I) s → wpAny (model prog w) A (pyIter (.ref I)) Q Nv s

theorem ItS.of {prog : Program} {w : World} {A : Around} {x : Str} {px : Pos} {I : Addr} {fp wr : List Nat} {n : Nat} {P : Nat → Value → Prop} {St : Nat → Heap → Prop} (W : Walks prog w A I fp wr n P St) :
    ItS prog w A (.Name x px) I fp wr n (fun i v _ => P i v) St where
  sub := W.sub
  frame := W.frame
  item := fun i s Q hi hst h => W.item i s _ _ hi hst fun v h' tk a b c => ⟨v, rfl, wpAny_pure (h v h' tk a b c)⟩
  done := fun s Q hst h => W.done s _ _ hst fun h' tk k => ⟨rfl, h h' tk k⟩
  self := fun i s Q hst h => W.self i s Q _ hst h

/-- a turn of a comprehension came to its end -/
inductive TurnI (C : Nat) (own : List Nat) (J : List Value → Heap → Prop) (G : Array GenState) (Dr : Drawn) (O : OsState) (h : Heap) (ys : List Value) (s' : Shared) : Prop
  | mk (h' : Heap) (tk : Nat) (m' : Str → Option Value) (f1 : s' = ⟨h', G, Dr, tk, O⟩) (f2 : KB (C :: own) h h') (f3 : h'.Ns C m') (f4 : J ys h')
def TurnD (C : Nat) (own : List Nat) (J : List Value → Heap → Prop) (s : Shared) (h : Heap) (ys : List Value) (s' : Shared) : Prop := TurnI C own J s.gens s.drawn s.os h ys s'

inductive CLp (St : Nat → Heap → Prop) (J : Nat → List Value → Heap → Prop) (D C n : Nat) (av : List Nat) (s : Shared) (k : Nat) (s' : Shared) : Prop
  | mk (i : Nat) (h : Heap) (tk : Nat) (m' : Str → Option Value) (ys : List Value) (f1 : s' = { s with heap := h, toks := tk }) (f2 : St i h) (f3 : h.PlainList D (List.toArray ys)) (f4 : h.Ns C m') (f5 : i ≤ n) (f6 : ys.length ≤ i) (f7 : k = n + 1 - i) (f8 : J i ys h) (f9 : KB av s.heap h)
inductive CTn (C : Nat) (wr own : List Nat) (St : Heap → Prop) (J : List Value → Heap → Prop) (s : Shared) (h : Heap) (ys : List Value) (s' : Shared) : Prop
  | mk (h₁ : Heap) (a : KB wr h h₁) (b : St h₁) (c : TurnD C own J s h₁ ys s')

section
variable {prog : Program} {w : World} {A : Around} {env : Env}

theorem comp_loopD {elt target iter : Expr} {ifs : List Expr} {scope : Scope} {pos : Pos} {s : Shared} {I D C : Nat} {fp wr own : List Nat} {n : Nat} {V : Nat → Value → Heap → Prop} {St : Nat → Heap → Prop}
    {cenv : Env} {m : Str → Option Value} {R : Result → Shared → Prop} {J : Nat → List Value → Heap → Prop} (W : ItS prog w A target I fp wr n V St)
    (hCe : cenv.locals = C) (hDC : D ≠ C) (hDf : D ∉ fp) (hCf : C ∉ fp) (hof : ∀ b ∈ own, b ∉ fp ∧ b ≠ D ∧ b ≠ C) (hst : St 0 s.heap) (hacc : s.heap.PlainList D #[]) (hn : s.heap.Ns C m)
    (hJ0 : J 0 [] s.heap) (hJ : ∀ i vs h h', J i vs h → KB (D :: C :: wr) h h' → J i vs h')
    (turn : ∀ i v ys h tk m₁, i < n → V i v h → St (i + 1) h → J i ys h → h.Ns C m₁ → (∃ zs : List Value, h.PlainList D zs.toArray) → KB (C :: D :: (own ++ wr)) s.heap h →
      wpAny (model prog w) A (assign target cenv v) (fun _ s₂ =>
        wpAny (model prog w) A (forIn ifs true fun c r => if r = true then do let ok ← isTrue c cenv (eval c cenv); pure (ForInStep.yield ok) else pure (ForInStep.yield r)) (fun ok s₃ =>
          if ok = true then wpAny (model prog w) A (eval elt cenv) (fun y s₄ => TurnD C own (J (i + 1)) s h (ys ++ [y]) s₄) Nv s₃ else TurnD C own (J (i + 1)) s h ys s₃) Nv s₂) Nv { s with heap := h, toks := tk })
    (done : ∀ ys h tk m₁, J n ys h → h.Ns C m₁ → h.PlainList D ys.toArray → KB (C :: D :: (own ++ wr)) s.heap h → R (.ok .next) { s with heap := h, toks := tk })
    (hsz : n ≤ sizeLine) :
    codeAny (model prog w) A (.compLoop (.ListComp elt [⟨target, iter, ifs, 0⟩] scope pos) 0 (.ref I) (.ref D) cenv) R s := by
  have hCw : C ∉ wr := fun h => hCf (W.sub _ h)
  have hDw : D ∉ wr := fun h => hDf (W.sub _ h)
  refine codeAny_loop rfl (CLp St J D C n (C :: D :: (own ++ wr)) s) ?_ (n + 1)
    ⟨0, s.heap, s.toks, m, [], rfl, hst, hacc, hn, Nat.zero_le _, Nat.le_refl _, rfl, hJ0, KB.refl _ _⟩
  rintro k s' ⟨i, h, tk, m', ys, rfl, hst', hacc', hn', hi, hys, rfl, hJi, hk⟩
  show wpAny _ A ((compTurn (.ListComp elt [⟨target, iter, ifs, 0⟩] scope pos) 0 (.ref I) (.ref D) cenv).onRaise (fun x => do noteFrame x cenv; theTreesLotGoes x)) _ _ _
  refine wpAny_noted (wpNv ?_)
  rw [compTurn_list]
  refine wpAny_bind (wpAny_standAt (wpAny_bind ?_))
  by_cases hlt : i < n
  · refine wpQ (W.item i _ (fun v s₂ => wpAny (model prog w) A (assign target cenv v) (fun _ s₂ =>
        wpAny (model prog w) A (forIn ifs true fun c r => if r = true then do let ok ← isTrue c cenv (eval c cenv); pure (ForInStep.yield ok) else pure (ForInStep.yield r)) (fun ok s₃ =>
          if ok = true then wpAny (model prog w) A (eval elt cenv) (fun y s₄ => CTn C wr own (St (i + 1)) (J (i + 1)) s h (ys ++ [y]) s₄) Nv s₃
          else CTn C wr own (St (i + 1)) (J (i + 1)) s h ys s₃) Nv s₂) Nv s₂) hlt hst' ?_) ?_
    · intro v h₁ tk₁ hV hst₁ hk₁
      have hn₁ : h₁.Ns C m' := hn'.at' fun o e => hk₁ C o hCw e
      refine wpQ (turn i v ys h₁ tk₁ m' hlt hV hst₁ (hJ _ _ _ _ hJi (hk₁.mono fun c hc => by simp [hc])) hn₁ ⟨ys, hacc'.at fun o e => hk₁ D o hDw e⟩ ?_) ?_
      · exact hk.trans (hk₁.mono fun c hc => by simp [hc])
      · intro _ s₂ h₂
        refine wpQ h₂ fun ok s₃ h₃ => ?_
        cases ok with
        | true =>
          simp only [if_true] at h₃ ⊢
          exact wpQ h₃ fun y s₄ h₄ => ⟨h₁, hk₁, hst₁, h₄⟩
        | false =>
          simp only [Bool.false_eq_true, if_false] at h₃ ⊢
          exact ⟨h₁, hk₁, hst₁, h₃⟩
    · rintro r s₁ ⟨v, rfl, h₁⟩
      dsimp only
      refine wpAny_bind (wpQ h₁ fun _ s₂ h₂ => wpAny_bind (wpQ h₂ fun _ s₃ h₃ => wpAny_bind (wpQ h₃ fun ok s₄ h₄ => ?_)))
      cases ok with
      | false =>
        simp only [Bool.false_eq_true, if_false] at h₄ ⊢
        obtain ⟨h₁, hk₁, hst₁, h₅, tk₅, m₅, rfl, hk₅, hn₅, hJ₅⟩ := h₄
        have hk1 : KB (C :: D :: (own ++ wr)) s.heap h₁ := hk.trans (hk₁.mono fun c hc => by simp [hc])
        refine wpAny_pure ⟨rfl, n + 1 - (i + 1), Nat.sub_lt_sub_left (Nat.lt_succ_of_lt hlt) (Nat.lt_succ_self i), i + 1, h₅, tk₅, m₅, ys, rfl, ?_, ?_, hn₅, hlt, by lia, rfl, hJ₅, ?_⟩
        · refine W.frame _ _ _ hst₁ fun b hb o e => hk₅ b o (fun q => ?_) e
          rcases List.mem_cons.mp q with q | q
          · exact hCf (q ▸ hb)
          · exact (hof b q).1 hb
        · refine hacc'.at fun o e => hk₅ D o (fun q => ?_) (hk₁ D o hDw e)
          rcases List.mem_cons.mp q with q | q
          · exact hDC q
          · exact (hof D q).2.1 rfl
        · exact hk1.trans (hk₅.mono fun c hc => by rcases List.mem_cons.mp hc with rfl | hc <;> simp_all)
      | true =>
        simp only [if_true] at h₄ ⊢
        refine wpAny_bind (wpAny_bind (wpQ h₄ fun y s₅ h₅ => ?_))
        obtain ⟨h₁, hk₁, hst₁, h₅, tk₅, m₅, rfl, hk₅, hn₅, hJ₅⟩ := h₅
        have hk1 : KB (C :: D :: (own ++ wr)) s.heap h₁ := hk.trans (hk₁.mono fun c hc => by simp [hc])
        have hacc₅ : h₅.PlainList D (List.toArray ys) := by
          refine hacc'.at fun o e => hk₅ D o (fun q => ?_) (hk₁ D o hDw e)
          rcases List.mem_cons.mp q with q | q
          · exact hDC q
          · exact (hof D q).2.1 rfl
        refine wpAny_bind (wpAny_list_append_plain (s := { s with heap := h₅, toks := tk₅ }) hacc₅ (hsz := by rw [List.size_toArray]; lia) fun h₆ hl₆ hs₆ => ?_)
        refine wpAny_pure (wpAny_pure ⟨rfl, n + 1 - (i + 1), Nat.sub_lt_sub_left (Nat.lt_succ_of_lt hlt) (Nat.lt_succ_self i), i + 1, h₆, tk₅, m₅, ys ++ [y], rfl, ?_, ?_, ?_, hlt, by simp; lia, rfl, ?_, ?_⟩)
        · refine W.frame _ _ _ hst₁ fun b hb o e => hs₆.extBut b o (fun q => hDf (q ▸ hb)) (hk₅ b o (fun q => ?_) e)
          rcases List.mem_cons.mp q with q | q
          · exact hCf (q ▸ hb)
          · exact (hof b q).1 hb
        · simpa using hl₆
        · exact hn₅.sameBut hs₆ (Ne.symm hDC)
        · exact hJ _ _ _ _ hJ₅ ((KB.of_sameBut hs₆).mono fun c hc => by simp_all)
        · exact (hk1.trans (hk₅.mono fun c hc => by rcases List.mem_cons.mp hc with rfl | hc <;> simp_all)).trans ((KB.of_sameBut hs₆).mono fun c hc => by simp_all)
  · have hin : i = n := by lia
    subst hin
    refine wpQ (W.done _ (fun s₁ => R (.ok .next) s₁) hst' fun h₁ tk₁ hk₁ => ?_) ?_
    · refine done ys h₁ tk₁ m' (hJ _ _ _ _ hJi (hk₁.mono fun c hc => by simp [hc])) (hn'.at' fun o e => hk₁ C o hCw e) (hacc'.at fun o e => hk₁ D o hDw e) ?_
      exact hk.trans (hk₁.mono fun c hc => by simp [hc])
    · rintro r s₁ ⟨rfl, h₁⟩
      exact wpAny_pure h₁
end
end Mine

end
section
open PySem PySem.Spec PySem.Calls PySem.W PyProof.Rows
set_option Elab.async false
set_option maxRecDepth 100000
namespace Mine

theorem kxCm2 : True := by
  k_with_none
  k_with "ne" => (refine neN ?_; (try dsimp only); first | with_reducible assumption | exact Ne.symm (by with_reducible assumption) | exact Nat.ne_of_lt (by with_reducible assumption) | exact Nat.ne_of_gt (by with_reducible assumption) | lia)
  k_with "mem" => first | exact nm0 | (refine nmC ?_ ?_; k_ne; k_mem) | (refine inL ?_; k_mem) | exact fa0 | (refine faC ?_ ?_; k_mem; k_mem)
  trivial
/-- what a comprehension wants where its iterator has been made -/
inductive CompAt (prog : Program) (w : World) (A : Around) (env : Env) (elt target : Expr) (ifs : List Expr) (scope : Scope) (cl : List (Str × Addr)) (s : Shared) (it : Value) (fin : Nat → List Value → Nat → List Nat → Heap → Nat → Prop) : Prop
  | mk (I : Addr) (fp : List Nat) (wr : List Nat) (own : List Nat) (n : Nat) (V : Nat → Value → Heap → Prop) (St : Nat → Heap → Prop) (f1 : it = .ref I) (f2 : ItS prog w A target I fp wr n V St) (f3 : n ≤ sizeLine) (f4 : St 0 s.heap) (f5 : (∀ b ∈ fp, b < s.heap.objs.size)) (f6 : (∀ b ∈ own, b ∉ fp ∧ b < s.heap.objs.size)) (f7 : ∀ D C : Nat, D = s.heap.objs.size → C = s.heap.objs.size + 1 → ∃ J : Nat → List Value → Heap → Prop, J 0 [] s.heap ∧ (∀ i vs h h', J i vs h → KB (D :: C :: wr) h h' → J i vs h') ∧ (∀ i v ys h tk m₁, i < n → V i v h → St (i + 1) h → J i ys h → h.Ns C m₁ → KB (own ++ wr) s.heap h → wpAny (model prog w) A (assign target (compEnvC scope cl C env) v) (fun _ s₂ => wpAny (model prog w) A (forIn ifs true fun c r => if r = true then do let ok ← isTrue c (compEnvC scope cl C env) (eval c (compEnvC scope cl C env)); pure (ForInStep.yield ok) else pure (ForInStep.yield r)) (fun ok s₃ => if ok = true then wpAny (model prog w) A (eval elt (compEnvC scope cl C env)) (fun y s₄ => TurnD C own (J (i + 1)) s h (ys ++ [y]) s₄) Nv s₃ else TurnD C own (J (i + 1)) s h ys s₃) Nv s₂) Nv { s with heap := h, toks := tk }) ∧ (∀ ys h tk, J n ys h → h.PlainList D ys.toArray → KB (own ++ wr) s.heap h → fin D ys C (own ++ wr) h tk))

inductive CompAtD (prog : Program) (w : World) (A : Around) (env : Env) (elt target : Expr) (ifs : List Expr) (scope : Scope) (cl : List (Str × Addr)) (s : Shared) (it : Value) (fin : Nat → List Value → Nat → List Nat → Heap → Nat → Prop) : Prop
  | mk (I : Addr) (fp : List Nat) (wr : List Nat) (own : List Nat) (n : Nat) (V : Nat → Value → Heap → Prop) (St : Nat → Heap → Prop) (f1 : it = .ref I) (f2 : ItS prog w A target I fp wr n V St) (f3 : n ≤ sizeLine) (f4 : St 0 s.heap) (f5 : (∀ b ∈ fp, b < s.heap.objs.size)) (f6 : (∀ b ∈ own, b ∉ fp ∧ b < s.heap.objs.size)) (f7 : ∀ D C : Nat, D = s.heap.objs.size → C = s.heap.objs.size + 1 → ∃ J : Nat → List Value → Heap → Prop, J 0 [] s.heap ∧ (∀ i vs h h', J i vs h → KB (D :: C :: wr) h h' → J i vs h') ∧ (∀ i v ys h tk m₁, i < n → V i v h → St (i + 1) h → J i ys h → h.Ns C m₁ → (∃ zs : List Value, h.PlainList D zs.toArray) → KB (own ++ wr) s.heap h → wpAny (model prog w) A (assign target (compEnvC scope cl C env) v) (fun _ s₂ => wpAny (model prog w) A (forIn ifs true fun c r => if r = true then do let ok ← isTrue c (compEnvC scope cl C env) (eval c (compEnvC scope cl C env)); pure (ForInStep.yield ok) else pure (ForInStep.yield r)) (fun ok s₃ => if ok = true then wpAny (model prog w) A (eval elt (compEnvC scope cl C env)) (fun y s₄ => TurnD C own (J (i + 1)) s h (ys ++ [y]) s₄) Nv s₃ else TurnD C own (J (i + 1)) s h ys s₃) Nv s₂) Nv { s with heap := h, toks := tk }) ∧ (∀ ys h tk, J n ys h → h.PlainList D ys.toArray → KB (own ++ wr) s.heap h → fin D ys C (own ++ wr) h tk))

theorem CompAt.toD {prog : Program} {w : World} {A : Around} {env : Env} {elt target : Expr} {ifs : List Expr} {scope : Scope} {cl : List (Str × Addr)} {s : Shared} {it : Value} {fin : Nat → List Value → Nat → List Nat → Heap → Nat → Prop} (x : CompAt prog w A env elt target ifs scope cl s it fin) : CompAtD prog w A env elt target ifs scope cl s it fin := by
  obtain ⟨I, fp, wr, own, n, V, St, a, b, c, d, e, f, k⟩ := x
  refine ⟨I, fp, wr, own, n, V, St, a, b, c, d, e, f, fun D C hD hC => ?_⟩
  obtain ⟨J, j0, j1, t, g⟩ := k D C hD hC
  exact ⟨J, j0, j1, fun i v ys h tk m₁ x1 x2 x3 x4 x5 _ x6 => t i v ys h tk m₁ x1 x2 x3 x4 x5 x6, g⟩
section
variable {prog : Program} {w : World} {A : Around} {env : Env}

theorem comp_blockOD {elt iter target : Expr} {ifs : List Expr} {scope : Scope} {cl : List (Str × Addr)} {pos : Pos} {s : Shared} {it : Value} {fin : Nat → List Value → Nat → List Nat → Heap → Nat → Prop} {RR : Value → Addr → Result → Shared → Prop}
    (hcell : ∀ y ∈ scope.names, y.2 ≠ .cell) (hkind : scope.kind = .function) (h : CompAtD prog w A env elt target ifs scope cl s it fin)
    (hRR : ∀ (D C : Nat) (av : List Nat) ys h' tk m', s.heap.get? D = none → s.heap.get? C = none → D ≠ C → h'.Ns C m' → h'.PlainList D (List.toArray ys) → KB av s.heap h' → (∀ b ∈ av, b < s.heap.objs.size) → fin D ys C av h' tk → (∀ h'', KB [C] h' h'' → fin D ys C av h'' tk) → RR (.ref D) C (.ok .next) { s with heap := h', toks := tk }) :
    wpAny (model prog w) A (newList []) (fun acc s₃ => wpAny (model prog w) A (newFunctionEnv scope env.globals cl [] env.qual none .none (some env)) (fun cenv s₄ =>
      codeAny (model prog w) A (.compStart (.ListComp elt [⟨target, iter, ifs, 0⟩] scope pos) 0 it acc { cenv with scope := relabel scope env }) (RR acc cenv.locals) s₄) Nv s₃) Nv s := by
  obtain ⟨I, fp, wr, own, n, V, St, rfl, W, hn, hst, hfp, hown, h⟩ := h
  obtain ⟨J, hJ0, hJ, turn, done⟩ := h _ _ rfl rfl
  refine wpAny_newObj_type (wpAny_newFunctionEnv hcell (by intro y hy; simp at hy) (fun h₁ hns₁ hsb₁ => ?_) hkind)
  dsimp only at hns₁ hsb₁ ⊢
  generalize hH2 : s.heap.push { cls := .type "list", dict := none, data := .seq ([] : List Value).toArray } = H2 at hns₁ hsb₁ ⊢
  have hC : H2.objs.size = s.heap.objs.size + 1 := by rw [← hH2, Heap.size_push]
  rw [hC] at hns₁ hsb₁ ⊢
  have fresh : ∀ a : Nat, s.heap.objs.size ≤ a → s.heap.get? a = none := fun a ha => by
    cases e : s.heap.get? a with
    | none => rfl
    | some o' => exact absurd (ltSz e) (Nat.not_lt.mpr ha)
  have old : ∀ b o, s.heap.get? b = some o → h₁.get? b = some o := fun b o e => hsb₁.extBut b o (neN (by have := ltSz e; lia)) (Heap.get?_push_of_some _ (hH2 ▸ Heap.get?_push_of_some _ e))
  have hacc : h₁.PlainList s.heap.objs.size #[] := ⟨_, hsb₁.extBut _ _ (neN (by lia)) (Heap.get?_push_of_some _ (hH2 ▸ Heap.get?_push_size _ rfl))⟩
  have hst₁ : St 0 h₁ := W.frame _ _ _ hst fun b _ o e => old b o e
  have hav : ∀ b ∈ own ++ wr, b < s.heap.objs.size := fun b hb => by
    rcases List.mem_append.mp hb with hb | hb
    · exact (hown b hb).2
    · exact hfp b (W.sub b hb)
  have drop : ∀ {h'' : Heap}, KB ((s.heap.objs.size + 1) :: s.heap.objs.size :: (own ++ wr)) h₁ h'' → KB (own ++ wr) s.heap h'' := fun k b o nb e => k b o (fun q => by
    have := ltSz e
    rcases List.mem_cons.mp q with q | q
    · lia
    · rcases List.mem_cons.mp q with q | q
      · lia
      · exact nb q) (old b o e)
  have loop : codeAny (model prog w) A (.compLoop (.ListComp elt [⟨target, iter, ifs, 0⟩] scope pos) 0 (.ref I) (.ref s.heap.objs.size) (compEnvC scope cl (s.heap.objs.size + 1) env))
      (RR (.ref s.heap.objs.size) (s.heap.objs.size + 1)) { s with heap := h₁, toks := s.toks + ([] : List (Str × Value)).length } := by
    refine comp_loopD (s := { s with heap := h₁, toks := s.toks + ([] : List (Str × Value)).length }) (C := s.heap.objs.size + 1) (D := s.heap.objs.size) (own := own) (J := J) W rfl (by lia) (fun q => ?_) (fun q => ?_) (fun b hb => ?_) hst₁ hacc hns₁
      (hJ _ _ _ _ hJ0 (KB.of_sub old)) hJ ?_ ?_ hn
    · exact Nat.lt_irrefl _ (hfp _ q)
    · have := hfp _ q; lia
    · have := hown b hb; exact ⟨this.1, by lia, by lia⟩
    · intro i v ys h tk m₁ hi hV hst' hJi hns hpz hk
      exact turn i v ys h tk m₁ hi hV hst' hJi hns hpz (drop hk)
    · intro ys h tk m₁ hJn hns hpl hk
      refine hRR _ _ (own ++ wr) ys h tk m₁ (fresh _ (Nat.le_refl _)) (fresh _ (by lia)) (by lia) hns hpl (drop hk) hav (done ys h tk hJn hpl (drop hk)) ?_
      intro h'' hk''
      refine done ys h'' tk (hJ _ _ _ _ hJn (hk''.mono fun c hc => by simp_all)) (hpl.at fun o e => hk'' _ _ (by first | k_mem | simp) e) (fun b o nb e => hk'' b o (fun q => ?_) (drop hk b o nb e))
      have := ltSz e; have := List.mem_singleton.mp q; lia
  exact codeAny_compStart_list loop (wpNv (W.self 0 _ _ hst₁ loop))

theorem comp_evalD {elt iter target : Expr} {ifs : List Expr} {scope : Scope} {cl : List (Str × Addr)} {pos : Pos} {s : Shared} {Q : Value → Shared → Prop} {E : Value → Shared → Prop}
    (hclos : closureFor scope env = pure cl) (hcell : ∀ y ∈ scope.names, y.2 ≠ .cell) (hkind : scope.kind = .function)
    (hnames : ∀ y ∈ scope.names, y.2 = .local → scope.names.lookup y.1 = some .local)
    (h : wpAny (model prog w) A (eval iter env) (fun xv s₁ => wpAny (model prog w) A (pyIter xv) (fun it s₂ => CompAtD prog w A env elt target ifs scope cl s₂ it (fun D _ _ _ h' tk => Q (.ref D) { s₂ with heap := h', toks := tk })) Nv s₁) Nv s)
    (hs : ∀ x, foldedSetIterable iter env x = pure x) :
    wpAny (model prog w) A (eval (.ListComp elt [⟨target, iter, ifs, 0⟩] scope pos) env) Q E s := by
  refine wpNv ?_
  rw [eval_ListComp]
  refine wpAny_comprehension_free (use := none) rfl hs hclos hkind hnames (wpQ h fun xv s₁ h₁ => wpQ h₁ fun it s₂ h₂ => ?_)
  refine comp_blockOD (RR := fun acc C => compPost (model prog w) A Nv none Q acc C) hcell hkind h₂ ?_
  intro D C av ys h' tk m' hD hC hDC hn hpl hk hav hf hf'
  exact ⟨m', hn, fun h'' hs'' => hf' h'' (KB.of_sameBut hs'')⟩

theorem comp_assignD {elt iter target : Expr} {y : Str} {py : Pos} {ifs : List Expr} {scope : Scope} {cl : List (Str × Addr)} {pos spos : Pos} {s : Shared} {Q : Flow → Shared → Prop} {E : Value → Shared → Prop}
    (hsw : swapsWith (.ListComp elt [⟨target, iter, ifs, 0⟩] scope pos) (some (.Name y py)) spos.line env = pure true)
    (hclos : closureFor scope env = pure cl) (hcell : ∀ y ∈ scope.names, y.2 ≠ .cell) (hkind : scope.kind = .function)
    (hnames : ∀ y ∈ scope.names, y.2 = .local → scope.names.lookup y.1 = some .local)
    (hy : env.kindOf y = some .local) (hp : (env.scope.kind == .class || (env.scope.kind == .module && env.locals != env.globals)) = false)
    (h : wpAny (model prog w) A (eval iter env) (fun xv s₁ => wpAny (model prog w) A (pyIter xv) (fun it s₂ => (∃ m, s₂.heap.Ns env.locals m) ∧ CompAtD prog w A env elt target ifs scope cl s₂ it (fun D _ C av h' tk => 
      ∃ m, h'.Ns env.locals m ∧ ∀ h'' tk'', h''.Ns env.locals (fun z => if z = y then some (.ref D) else m z) → KB [env.locals, C] h' h'' → Q .next { s₂ with heap := h'', toks := tk'' })) Nv s₁) Nv s)
    (hs : ∀ x, foldedSetIterable iter env x = pure x) :
    wpAny (model prog w) A (exec (.Assign [.Name y py] (.ListComp elt [⟨target, iter, ifs, 0⟩] scope pos) spos) env) Q E s := by
  refine wpNv ?_
  rw [exec_Assign_Name_used _ _ _ _ hsw]
  refine wpAny_bind (wpAny_standAt (wpAny_bind ?_))
  show wpAny _ A (do let _ ← comprehension (.ListComp elt [⟨target, iter, ifs, 0⟩] scope pos) scope env _ (newList []) false (eval iter env) (some (assign (.Name y py) env))) _ _ s
  refine wpAny_bind (wpQ (wpAny_comprehension_free (use := some (assign (.Name y py) env)) (Q := fun _ s' => Q .next s') rfl hs hclos hkind hnames
    (wpQ h fun xv s₁ h₁ => wpQ h₁ fun it s₂ h₂ => ?_)) (fun _ s' hq => wpAny_pure (wpAny_pure hq)))
  obtain ⟨⟨m₀, hL⟩, h₂⟩ := h₂
  refine comp_blockOD (RR := fun acc C => compPost (model prog w) A Nv (some (assign (.Name y py) env)) (fun _ s' => Q .next s') acc C) hcell hkind h₂ ?_
  intro D C av ys h' tk m' hD hC hDC hnC hpl hk hav hf hf'
  obtain ⟨m, hnL, hq⟩ := hf
  have hLC : env.locals ≠ C := by rintro rfl; obtain ⟨o, _, _, ho, _⟩ := hL; first | exact nS (hC) ho | (rw [hC] at ho; cases ho)
  show wpAny _ A (assign (.Name y py) env (.ref D)) _ _ _
  refine wpAny_assign_Name (wpAny_storeName_local hy hnL (fun h₂ hn₂ hs₂ => ?_) hp)
  refine ⟨m', hnC.sameBut hs₂ (Ne.symm hLC), fun h₃ hs₃ => ?_⟩
  exact hq h₃ _ (hn₂.sameBut hs₃ hLC) (((KB.of_sameBut hs₂).mono fun c hc => by simp_all).trans ((KB.of_sameBut hs₃).mono fun c hc => by simp_all))
theorem comp_eval {elt iter target : Expr} {ifs : List Expr} {scope : Scope} {cl : List (Str × Addr)} {pos : Pos} {s : Shared} {Q : Value → Shared → Prop} {E : Value → Shared → Prop}
    (hclos : closureFor scope env = pure cl) (hcell : ∀ y ∈ scope.names, y.2 ≠ .cell) (hkind : scope.kind = .function)
    (hnames : ∀ y ∈ scope.names, y.2 = .local → scope.names.lookup y.1 = some .local)
    (h : wpAny (model prog w) A (eval iter env) (fun xv s₁ => wpAny (model prog w) A (pyIter xv) (fun it s₂ => CompAt prog w A env elt target ifs scope cl s₂ it (fun D _ _ _ h' tk => Q (.ref D) { s₂ with heap := h', toks := tk })) Nv s₁) Nv s)
    (hs : ∀ x, foldedSetIterable iter env x = pure x) :
    wpAny (model prog w) A (eval (.ListComp elt [⟨target, iter, ifs, 0⟩] scope pos) env) Q E s :=
  comp_evalD hclos hcell hkind hnames (wpQ h fun _ _ h₁ => wpQ h₁ fun _ _ h₂ => h₂.toD) hs

theorem comp_assign {elt iter target : Expr} {y : Str} {py : Pos} {ifs : List Expr} {scope : Scope} {cl : List (Str × Addr)} {pos spos : Pos} {s : Shared} {Q : Flow → Shared → Prop} {E : Value → Shared → Prop}
    (hsw : swapsWith (.ListComp elt [⟨target, iter, ifs, 0⟩] scope pos) (some (.Name y py)) spos.line env = pure true)
    (hclos : closureFor scope env = pure cl) (hcell : ∀ y ∈ scope.names, y.2 ≠ .cell) (hkind : scope.kind = .function)
    (hnames : ∀ y ∈ scope.names, y.2 = .local → scope.names.lookup y.1 = some .local)
    (hy : env.kindOf y = some .local) (hp : (env.scope.kind == .class || (env.scope.kind == .module && env.locals != env.globals)) = false)
    (h : wpAny (model prog w) A (eval iter env) (fun xv s₁ => wpAny (model prog w) A (pyIter xv) (fun it s₂ => (∃ m, s₂.heap.Ns env.locals m) ∧ CompAt prog w A env elt target ifs scope cl s₂ it (fun D _ C av h' tk => 
      ∃ m, h'.Ns env.locals m ∧ ∀ h'' tk'', h''.Ns env.locals (fun z => if z = y then some (.ref D) else m z) → KB [env.locals, C] h' h'' → Q .next { s₂ with heap := h'', toks := tk'' })) Nv s₁) Nv s)
    (hs : ∀ x, foldedSetIterable iter env x = pure x) :
    wpAny (model prog w) A (exec (.Assign [.Name y py] (.ListComp elt [⟨target, iter, ifs, 0⟩] scope pos) spos) env) Q E s :=
  comp_assignD hsw hclos hcell hkind hnames hy hp (wpQ h fun _ _ h₁ => wpQ h₁ fun _ _ h₂ => ⟨h₂.1, h₂.2.toD⟩) hs
end
end Mine

end
section
open PySem PySem.Spec PySem.Calls PySem.W PyProof.Rows
set_option Elab.async false
set_option maxRecDepth 100000
namespace Mine

inductive ForAt (prog : Program) (w : World) (A : Around) (env : Env) (target : Expr) (body : List Stmt) (Q : Flow → Shared → Prop) (s : Shared) (it : Value) : Prop
  | mk (I : Nat) (fp : List Nat) (wr : List Nat) (own : List Nat) (n : Nat) (V : Nat → Value → Heap → Prop) (St : Nat → Heap → Prop) (J : Nat → Heap → Prop) (f1 : it = .ref I) (f2 : ItS prog w A target I fp wr n V St) (f3 : St 0 s.heap) (f4 : (∀ b ∈ own, b ∉ fp)) (f5 : env.locals ∉ fp) (f6 : J 0 s.heap) (f7 : (∀ i h h', J i h → KB wr h h' → J i h')) (f8 : (∀ i v h tk, i < n → V i v h → St (i + 1) h → J i h → KB (env.locals :: (own ++ wr)) s.heap h → wpAny (model prog w) A (assign target env v) (fun _ s₂ => wpAny (model prog w) A (execs body env) (fun f s₃ => match f with | .next | .cont => ∃ h' tk', s₃ = { s with heap := h', toks := tk' } ∧ KB (env.locals :: own) h h' ∧ J (i + 1) h' | .brk => Q .next s₃ | .ret v => Q (.ret v) s₃) Nv s₂) Nv { s with heap := h, toks := tk })) (f9 : (∀ h tk, J n h → KB (env.locals :: (own ++ wr)) s.heap h → Q .next { s with heap := h, toks := tk }))

inductive FLp (St : Nat → Heap → Prop) (J : Nat → Heap → Prop) (n : Nat) (av : List Nat) (s : Shared) (k : Nat) (s' : Shared) : Prop
  | mk (i : Nat) (h : Heap) (tk : Nat) (f1 : s' = { s with heap := h, toks := tk }) (f2 : St i h) (f3 : i ≤ n) (f4 : k = n + 1 - i) (f5 : J i h) (f6 : KB av s.heap h)
inductive FTn (wr own : List Nat) (St J : Heap → Prop) (s : Shared) (h : Heap) (s' : Shared) : Prop
  | mk (h₁ h' : Heap) (tk' : Nat) (a : KB wr h h₁) (b : St h₁) (c : s' = { s with heap := h', toks := tk' }) (d : KB own h₁ h') (e : J h')

section
variable {prog : Program} {w : World} {A : Around} {env : Env}

theorem for_loop {target : Expr} {body : List Stmt} {Q : Flow → Shared → Prop} {s : Shared} {it : Value} (h : ForAt prog w A env target body Q s it) :
    codeAny (model prog w) A (.forLoop target it body [] env) (fun r s' => match r with | .ok f => Q f s' | .error e => cameBackBy (model prog w) A env Nv e s') s := by
  obtain ⟨I, fp, wr, own, n, V, St, J, rfl, W, hst, hof, hLf, hJ0, hJ, turn, done⟩ := h
  have hLw : env.locals ∉ wr := fun h => hLf (W.sub _ h)
  refine codeAny_loop' rfl (FLp St J n (env.locals :: (own ++ wr)) s) ?_ (n + 1)
    ⟨0, s.heap, s.toks, rfl, hst, Nat.zero_le _, rfl, hJ0, KB.refl _ _⟩
  rintro k s' ⟨i, h, tk, rfl, hst', hi, rfl, hJi, hk⟩
  show wpAny _ A ((forTurn target (.ref I) body [] env).onRaise (fun x => do noteFrame x env; theTreesLotGoes x)) _ _ _
  refine wpAny_noted (wpNv ?_)
  simp only [forTurn]
  refine wpAny_bind (wpAny_standAt (wpAny_bind (wpAny_onRaise ?_)))
  by_cases hlt : i < n
  · refine wpAny_mono (W.item i _ (fun v s₂ => wpAny (model prog w) A (assign target env v) (fun _ s₂ => wpAny (model prog w) A (execs body env) (fun f s₃ => match f with
          | .next | .cont => FTn wr (env.locals :: own) (St (i + 1)) (J (i + 1)) s h s₃
          | .brk => Q .next s₃
          | .ret v => Q (.ret v) s₃) Nv s₂) Nv s₂) hlt hst' ?_) ?_ fun _ _ x => x.elim
    · intro v h₁ tk₁ hV hst₁ hk₁
      refine wpQ (turn i v h₁ tk₁ hlt hV hst₁ (hJ _ _ _ hJi hk₁) (hk.trans (hk₁.mono fun c hc => by simp [hc]))) fun _ s₂ h₂ => wpQ h₂ fun f s₃ h₃ => ?_
      cases f with
      | next => obtain ⟨h', tk', e, a, b⟩ := h₃; exact ⟨h₁, h', tk', hk₁, hst₁, e, a, b⟩
      | cont => obtain ⟨h', tk', e, a, b⟩ := h₃; exact ⟨h₁, h', tk', hk₁, hst₁, e, a, b⟩
      | brk => exact h₃
      | ret v => exact h₃
    · rintro r s₁ ⟨v, rfl, h₁⟩
      dsimp only
      refine wpAny_bind (wpQ h₁ fun _ s₂ h₂ => wpAny_bind (wpQ h₂ fun _ s₃ h₃ => wpAny_bind (wpQ h₃ fun f s₄ h₄ => ?_)))
      have step : FTn wr (env.locals :: own) (St (i + 1)) (J (i + 1)) s h s₄ →
          ∃ m, m < n + 1 - i ∧ FLp St J n (env.locals :: (own ++ wr)) s m s₄ := by
        rintro ⟨h₁, h', tk', hk₁, hst₁, rfl, hk', hJ'⟩
        refine ⟨n + 1 - (i + 1), Nat.sub_lt_sub_left (Nat.lt_succ_of_lt hlt) (Nat.lt_succ_self i), i + 1, h', tk', rfl, ?_, hlt, rfl, hJ', ?_⟩
        · refine W.frame _ _ _ hst₁ fun b hb o e => hk' b o (fun q => ?_) e
          rcases List.mem_cons.mp q with q | q
          · exact hLf (q ▸ hb)
          · exact hof b q hb
        · exact (hk.trans (hk₁.mono fun c hc => by simp [hc])).trans (hk'.mono fun c hc => by rcases List.mem_cons.mp hc with rfl | hc <;> simp_all)
      cases f with
      | next => exact wpAny_pure (.inl ⟨rfl, step h₄⟩)
      | cont => exact wpAny_pure (.inl ⟨rfl, step h₄⟩)
      | brk => exact wpAny_pure h₄
      | ret v => exact wpAny_pure h₄
  · have hin : i = n := by lia
    subst hin
    refine wpAny_mono (W.done _ (fun s₁ => Q .next s₁) hst' fun h₁ tk₁ hk₁ => ?_) ?_ fun _ _ x => x.elim
    · exact done h₁ tk₁ (hJ _ _ _ hJi hk₁) (hk.trans (hk₁.mono fun c hc => by simp [hc]))
    · rintro r s₁ ⟨rfl, h₁⟩
      exact wpAny_pure (.inr ⟨rfl, codeAny_block (wpAny_execs_nil h₁)⟩)

theorem for_rule {target iter : Expr} {body : List Stmt} {pos : Pos} {Q : Flow → Shared → Prop} {s : Shared} {E : Value → Shared → Prop}
    (h : wpAny (model prog w) A (eval iter env) (fun xv s₁ => wpAny (model prog w) A (pyIter xv) (fun it s₂ => ForAt prog w A env target body Q s₂ it) Nv s₁) Nv s)
    (hs : ∀ x, foldedSetIterable iter env x = pure x) :
    wpAny (model prog w) A (exec (.For target iter body [] pos) env) Q E s :=
  wpNv <| wpAny_For (wpQ h fun _ _ h₁ => wpQ h₁ fun _ _ h₂ => for_loop h₂) hs

theorem while_rule {test : Expr} {body : List Stmt} {pos : Pos} {Q : Flow → Shared → Prop} {s : Shared} {E : Value → Shared → Prop} (I : Nat → Shared → Prop)
    (turn : ∀ n s, I n s → wpAny (model prog w) A (isTrue test env (eval test env)) (fun b s₂ =>
        if b = true then wpAny (model prog w) A (execs body env) (fun f s₃ => match f with
            | .next | .cont => ∃ m, m < n ∧ I m s₃
            | .brk => Q .next s₃
            | .ret v => Q (.ret v) s₃) Nv s₂
        else Q .next s₂) Nv s)
    (n : Nat) (h : I n s) : wpAny (model prog w) A (exec (.While test body [] pos) env) Q E s := by
  refine wpNv <| wpAny_While (codeAny_whileLoop I (fun n s hI => wpNv (wpQ (turn n s hI) fun b s₂ h₂ => ?_)) n h)
  cases b with
  | true => simp only [if_true] at h₂ ⊢; exact wpNv h₂
  | false => simp only [Bool.false_eq_true, if_false] at h₂ ⊢; exact wpAny_execs_nil h₂
end

/-- what h holds beside g and the addresses av -/
noncomputable def frzOf (g h : Heap) (av : List Nat) : List (Addr × Obj) :=
  (List.range h.objs.size).filterMap fun a => if a ∈ av ∨ (g.get? a).isSome = true then none else (h.get? a).map fun o => (a, o)
theorem mem_frz {g h : Heap} {av : List Nat} {a : Nat} {o : Obj} : (a, o) ∈ frzOf g h av ↔ h.get? a = some o ∧ a ∉ av ∧ g.get? a = none := by
  unfold frzOf
  rw [List.mem_filterMap]
  constructor
  · rintro ⟨b, _, hb⟩
    by_cases q : b ∈ av ∨ (g.get? b).isSome = true
    · rw [if_pos q] at hb; cases hb
    · rw [if_neg q] at hb
      obtain ⟨o', ho', e⟩ := Option.map_eq_some_iff.mp hb
      cases e
      refine ⟨ho', fun h => q (.inl h), ?_⟩
      cases e : g.get? a with
      | none => rfl
      | some x => exact absurd (.inr (by rw [e]; rfl)) q
  · rintro ⟨h1, h2, h3⟩
    refine ⟨a, List.mem_range.mpr (ltSz h1), ?_⟩
    rw [if_neg (by rw [h3]; simp [h2]), h1]; rfl

/-- a heap seen anew: its ledger is own and what is frozen -/
inductive KMode (g h : Heap) (L : Nat) (m : Str → Option Value) (own : List (Addr × Obj)) : Prop
  | mk (frz : List (Addr × Obj)) (F : Fr g L h m) (N : News g L h (own ++ frz)) (off : ∀ p ∈ frz, p.1 ∉ own.map (·.1)) (inf : ∀ a o, h.get? a = some o → a ≠ L → a ∉ own.map (·.1) → g.get? a = none → (a, o) ∈ frz)
      (back : ∀ h' m' news', Fr g L h' m' → News g L h' news' → (∀ p ∈ frz, p ∈ news') → KB (L :: own.map (·.1)) h h')
theorem kmode {g h : Heap} {L : Nat} {m : Str → Option Value} {own : List (Addr × Obj)} (hn : h.Ns L m) (hsub : Sub g h) (hL : g.objs.size ≤ L)
    (hown : ∀ p ∈ own, h.get? p.1 = some p.2 ∧ p.1 ≠ L ∧ g.get? p.1 = none) :
    KMode g h L m own := by
  refine ⟨frzOf g h (L :: own.map (·.1)), ⟨hn, hsub, hL⟩, ?_, ?_, ?_, ?_⟩
  · intro p hp
    rcases List.mem_append.mp hp with hp | hp
    · exact hown p hp
    · obtain ⟨a, o⟩ := p
      obtain ⟨h1, h2, h3⟩ := mem_frz.mp hp
      exact ⟨h1, fun q => h2 (List.mem_cons.mpr (.inl q)), h3⟩
  · rintro ⟨a, o⟩ hp
    exact fun q => (mem_frz.mp hp).2.1 (List.mem_cons.mpr (.inr q))
  · intro a o e hL' ho hg
    exact mem_frz.mpr ⟨e, fun q => by rcases List.mem_cons.mp q with q | q; exact hL' q; exact ho q, hg⟩
  · intro h' m' news' F' N' hf b o nb e
    cases hg : g.get? b with
    | some o' => rw [hsub b o' hg] at e; cases e; exact F'.keep b _ hg
    | none => exact (N' (b, o) (hf _ (mem_frz.mpr ⟨e, nb, hg⟩))).1
theorem turnQ {M : Model} {A : Around} {t : Sem Unit} {u : Sem Flow} {P Qb : Shared → Prop} {Qr : Value → Shared → Prop} {s : Shared}
    (h : ∀ Qc : Shared → Prop, (∀ s, P s → Qc s) → wpAny M A t (fun _ s₂ => wpAny M A u (fun f s₃ => match f with | .next | .cont => Qc s₃ | .brk => Qb s₃ | .ret v => Qr v s₃) Nv s₂) Nv s) :
    wpAny M A t (fun _ s₂ => wpAny M A u (fun f s₃ => match f with | .next | .cont => P s₃ | .brk => Qb s₃ | .ret v => Qr v s₃) Nv s₂) Nv s := h P fun _ x => x
/-- a frame's names as a list over a ground -/
noncomputable def Lm : List (Str × Option Value) → (Str → Option Value) → Str → Option Value
  | [], b => b
  | (k, v) :: r, b => fun y => if y = k then v else Lm r b y
theorem Lm_out {l : List (Str × Option Value)} {b : Str → Option Value} {y : Str} (h : (l.map (·.1)).contains y = false) : Lm l b y = b y := by
  induction l with
  | nil => rfl
  | cons p r ih =>
    obtain ⟨k, v⟩ := p
    rw [List.map_cons, List.contains_cons, Bool.or_eq_false_iff] at h
    show (if y = k then v else Lm r b y) = b y
    rw [if_neg (by intro e; rw [e] at h; simp at h), ih h.2]
theorem lookup_out {l : List (Str × Value)} {y : Str} (h : (l.map (·.1)).contains y = false) : l.lookup y = none := by
  induction l with
  | nil => rfl
  | cons p r ih =>
    obtain ⟨k, v⟩ := p
    rw [List.map_cons, List.contains_cons, Bool.or_eq_false_iff] at h
    rw [List.lookup_cons, h.1]
    exact ih h.2
/-- two frames' names that agree at each name of the second, which has all names of the first -/
theorem nsL {h : Heap} {L : Nat} {m m' : Str → Option Value} (x : h.Ns L m) (l l' : List (Str × Option Value)) (bl : List (Str × Value)) (e : Lm l (fun y => bl.lookup y) = m) (e' : Lm l' (fun _ => none) = m')
    (hs : ((l.map (·.1) ++ bl.map (·.1)).all fun y => (l'.map (·.1)).contains y) = true) (k : ∀ p ∈ l', m p.1 = m' p.1) : h.Ns L m' := by
  have : m = m' := by
    funext y
    cases c : (l'.map (·.1)).contains y with
    | true =>
      rw [List.contains_iff_mem] at c
      obtain ⟨p, hp, rfl⟩ := List.mem_map.mp c
      exact k p hp
    | false =>
      have hn : (l.map (·.1) ++ bl.map (·.1)).contains y = false := by
        cases c2 : (l.map (·.1) ++ bl.map (·.1)).contains y with
        | false => rfl
        | true =>
          rw [List.contains_iff_mem] at c2
          have := List.all_eq_true.mp hs y c2
          rw [this] at c; cases c
      have h1 : (l.map (·.1)).contains y = false := by
        cases q : (l.map (·.1)).contains y with
        | false => rfl
        | true => rw [List.contains_iff_mem] at q; rw [← hn]; exact (List.contains_iff_mem.mpr (List.mem_append_left _ q)).symm
      have h2 : (bl.map (·.1)).contains y = false := by
        cases q : (bl.map (·.1)).contains y with
        | false => rfl
        | true => rw [List.contains_iff_mem] at q; rw [← hn]; exact (List.contains_iff_mem.mpr (List.mem_append_right _ q)).symm
      rw [← e, ← e', Lm_out h1, Lm_out c, lookup_out h2]
  exact this ▸ x
theorem offOne {frz : List (Addr × Obj)} {av : List Nat} {x : Nat} (off : ∀ p ∈ frz, p.1 ∉ av) (hx : x ∈ av) : ∀ p ∈ frz, p.1 ≠ x := fun p hp e => off p hp (by rw [show p.1 = x from e]; exact hx)
theorem neMem {a b : Nat} {l : List Nat} (h : a ∉ l) (m : b ∈ l) : a ≠ b := fun e => h (e ▸ m)
/-- what the ledger told still stands behind a loop's start -/
theorem oldN {g h h' : Heap} {L a : Nat} {o : Obj} {news : List (Addr × Obj)} (l l1 : List Nat) (k : KB (L :: (l ++ l1)) h h') (N : News g L h news) (fr : ∀ b ∈ l1, h.objs.size ≤ b) (m : ((a : Addr), o) ∈ news) (n : a ∉ l) : h'.get? a = some o ∧ a ≠ L ∧ g.get? a = none :=
  ⟨k _ _ (nmC (N _ m).2.1 fun q => (List.mem_append.mp q).elim n fun q => absurd (ltSz (N _ m).1) (Nat.not_lt.mpr (fr _ q))) (N _ m).1, (N _ m).2⟩
theorem subHide {g h : Heap} {av : List Nat} (s : Sub g h) (n : ∀ b ∈ av, g.get? b = none) : Sub g (hideAll h av) := fun b o e => hideAll_get _ (s b o e) fun q => nS (n b q) e
theorem notAv {g : Heap} {av : List Nat} {b : Nat} {o : Obj} (n : ∀ b ∈ av, g.get? b = none) (e : g.get? b = some o) : b ∉ av := fun q => nS (n b q) e
theorem subKB {g h h' : Heap} {av : List Nat} (s : Sub g h) (n : ∀ b ∈ av, g.get? b = none) (k : KB av h h') : Sub g h' := fun b o e => k b o (notAv n e) (s b o e)
noncomputable def isF : Data → Bool
  | .fields _ => true
  | _ => false
theorem neObj {h : Heap} {a b : Nat} {oa ob : Obj} {vs : Array Value} (ha : h.get? a = some oa) (hd : oa.data = .fields vs) (hb : h.get? b = some ob) (n : isF ob.data = false) : a ≠ b := fun e => by
  subst e
  have e2 := Option.some.inj (ha.symm.trans hb)
  rw [← e2, hd] at n
  cases n
theorem neCls {h : Heap} {a b : Nat} {oa ob : Obj} (ha : h.get? a = some oa) (hb : h.get? b = some ob) (n : oa.cls ≠ ob.cls) : a ≠ b := fun e => by
  subst e
  exact n (congrArg Obj.cls (Option.some.inj (ha.symm.trans hb)))
theorem neNone {h : Heap} {a b : Nat} {o : Obj} (e : h.get? a = some o) (n : h.get? b = none) : a ≠ b := fun q => by
  subst q
  exact nS n e
theorem tupNe {h : Heap} {a b : Nat} {items : Array Value} (x : h.IsTuple a items) (n : h.get? b = none) : a ≠ b := x.elim fun _ q => neNone q.1 n
theorem tupLt {h : Heap} {a : Nat} {items : Array Value} (x : h.IsTuple a items) : a < h.objs.size := x.elim fun _ q => ltSz q.1
theorem noneSub {g h : Heap} {a : Nat} (s : Sub g h) (n : h.get? a = none) : g.get? a = none := by
  cases e : g.get? a with
  | none => rfl
  | some o => exact nS n (s _ _ e)
theorem uncons {α : Type} {l : List α} {n : Nat} (h : l.length = n + 1) : ∃ a t, l = a :: t ∧ t.length = n := by
  cases l with
  | nil => cases h
  | cons a t => exact ⟨a, t, rfl, Nat.succ.inj h⟩
theorem six {α : Type} {l : List α} (h : l.length = 6) : ∃ a b c d e f, l = [a, b, c, d, e, f] := by
  obtain ⟨a, l1, e1, h1⟩ := uncons h
  obtain ⟨b, l2, e2, h2⟩ := uncons h1
  obtain ⟨c, l3, e3, h3⟩ := uncons h2
  obtain ⟨d, l4, e4, h4⟩ := uncons h3
  obtain ⟨e, l5, e5, h5⟩ := uncons h4
  obtain ⟨f, l6, e6, h6⟩ := uncons h5
  exact ⟨a, b, c, d, e, f, by rw [e1, e2, e3, e4, e5, e6, List.length_eq_zero_iff.mp h6]⟩
noncomputable def isS : Data → Bool
  | .seq _ _ => true
  | _ => false
theorem avD {h : Heap} {a lk : Nat} {o : Obj} (l : @LT.lt Nat _ a lk) (e : h.get? a = some o) (n : isS o.data = false) : @LT.lt Nat _ a lk ∧ ∃ o, h.get? a = some o ∧ ∀ xs n, o.cls = .type "tuple" → o.data = .seq xs n → False := ⟨l, o, e, fun _ _ _ q => by rw [q] at n; cases n⟩
theorem avC {h : Heap} {a lk : Nat} {o : Obj} (l : @LT.lt Nat _ a lk) (e : h.get? a = some o) (n : o.cls ≠ .type "tuple") : @LT.lt Nat _ a lk ∧ ∃ o, h.get? a = some o ∧ ∀ xs n, o.cls = .type "tuple" → o.data = .seq xs n → False := ⟨l, o, e, fun _ _ q _ => n q⟩
end Mine

end
section
open PySem PySem.Spec PySem.Calls PySem.W PyProof.Rows
set_option Elab.async false
set_option maxRecDepth 100000
namespace Mine

set_option maxHeartbeats 8000000 in
theorem dip_ok {w : World} {mean : ExcName → Option Value} {mg mb : Str → Option Value} {g₀ : Heap} {s : Shared} {dp un : Nat} {fr : Option (List Env)} {gd : Option (List Code)} {R : Result → Shared → Prop}
    {q c : Addr} {po : Obj} {k : Nat} {many : Int} {t : Tok} {cs : List Value} {ns : List Int}
    (G : Gd w mean mg mb g₀) (hs : Sub g₀ s.heap) (hq : s.heap.get? q = some po) (hgq : g₀.get? q = none) (hpo : PotO c k po) (hc : s.heap.IsList c cs.toArray) (hcq : c ≠ q) (hi : IntsAre cs ns)
    (hlen : ns.length ≤ 63) (hmany : 0 < many) (hm2 : many < 100) (hk : k < 1000) (hdp : dp < 900) (hun : un < 1000)
    (ret : ∀ r tr h' tk' po', KB [q] s.heap h' → h'.get? q = some po' → PotO c (k + 1) po' → 0 ≤ r → r < many → R (.ok (.ret (.int r tr))) { s with heap := h', toks := tk' }) :
    codeAny (model Pg w) (Ar dp un fr gd) (.call (.ref 96) ⟨[.ref q, .int many t], []⟩) R s := by
  obtain ⟨X, T⟩ := G
  have hrw : PySem.Challenge.rw_np0001_01 = PySem.Challenge.rw_np0001_01 := rfl
  revert X hrw
  k_fill
  intro X hrw
  obtain ⟨at', seed, t1, t2, n, rfl, h1, h2, h3, h4⟩ := hpo
  refine enter0 (binds := [(Str.ofString "pot", Value.ref q), (Str.ofString "many", Value.int many t)]) (own := [(q, { cls := .type "list", data := .seq [Value.ref c, .int at' t1, .int seed t2].toArray n })]) X T hs ?ko (by k_is) (by k_is) ?kr (BindsTo.of_eq (by with_unfolding_all rfl)) (locs rfl) ?kb (by decide) rfl rfl rfl
  case ko => intro p hp; obtain rfl := List.mem_singleton.mp hp; exact ⟨hq, hgq⟩
  case kr => show dp < recursionLimit; simp only [recursionLimit]; lia
  case kb =>
    intro g L h₁ F N X' T' hlt lift hsg
    clear X T hs
    have hcg : g.IsList c cs.toArray := isListKB lift (by simp [hcq]) hc
    k_steps
    all_goals dsimp only
    · rename Fr _ _ _ _ => F1
      rename News _ _ _ _ => N1
      refine ret _ _ _ _ _ (exitKB lift F1) (N1 _ (.head _)).1 ⟨at' + 1, seed, _, t2, n, rfl, ?_, ?_, h3, h4⟩ (Int.fmod_nonneg_of_pos _ hmany) (Int.fmod_lt_of_pos _ hmany)
      all_goals lia
    · rename Fr _ _ _ _ => F1
      rename News _ _ _ _ => N1
      have a1 : 0 ≤ (seed * 75 + 74).fmod 65537 := Int.fmod_nonneg_of_pos _ (by decide)
      have a2 : (seed * 75 + 74).fmod 65537 < 65537 := Int.fmod_lt_of_pos _ (by decide)
      refine ret _ _ _ _ _ (exitKB lift F1) (N1 _ (.head _)).1 ⟨at' + 1, _, _, _, n, rfl, ?_, ?_, a1, ?_⟩ (Int.fmod_nonneg_of_pos _ hmany) (Int.fmod_lt_of_pos _ hmany)
      all_goals lia
end Mine

end
section
open PySem PySem.Spec PySem.Calls PySem.W PyProof.Rows
set_option Elab.async false
set_option maxRecDepth 100000
namespace Mine

theorem upd_fr {g h h' : Heap} {L d : Nat} {m : Str → Option Value} {o o' : Obj} {news : List (Addr × Obj)} {gN : Obj → List (Addr × Obj)} (F : Fr g L h m) (N : News g L h news) (U : UpdF d o news gN)
    (k : KB [d] h h') (ho : h'.get? d = some o') : Fr g L h' m ∧ News g L h' (gN o') := by
  obtain ⟨pre, post, rfl, hg, h1, h2⟩ := U.split
  have hd := N (d, o) (List.mem_append_right _ (.head _))
  refine ⟨frKB F k (fun q => hd.2.1 (List.mem_singleton.mp q).symm) (fun a ha => by rw [List.mem_singleton.mp ha]; exact hd.2.2), ?_⟩
  rw [hg]
  intro p hp
  rcases List.mem_append.mp hp with hp | hp
  · exact ⟨k _ _ (fun q => h1 p hp (List.mem_singleton.mp q)) (N p (List.mem_append_left _ hp)).1, (N p (List.mem_append_left _ hp)).2⟩
  · rcases List.mem_cons.mp hp with rfl | hp
    · exact ⟨ho, hd.2⟩
    · exact ⟨k _ _ (fun q => h2 p hp (List.mem_singleton.mp q)) (N p (List.mem_append_right _ (.tail _ hp))).1, (N p (List.mem_append_right _ (.tail _ hp))).2⟩
theorem updF_mem {d : Nat} {o : Obj} {news : List (Addr × Obj)} {gN : Obj → List (Addr × Obj)} (U : UpdF d o news gN) : (d, o) ∈ news := by
  obtain ⟨pre, post, rfl, _⟩ := U.split
  exact List.mem_append_right _ (.head _)

/-- what a law's pot stands for in a ground -/
structure PotG (g : Heap) (c : Nat) (cs : List Value) (ns : List Int) : Prop where
  hc : g.IsList c cs.toArray
  hi : IntsAre cs ns
  hlen : ns.length ≤ 63

theorem use_dip {w : World} {mean : ExcName → Option Value} {mg mb : Str → Option Value} {g : Heap} {L : Nat} {m : Str → Option Value} {s : Shared} {A : Around} {news : List (Addr × Obj)} {gN : Obj → List (Addr × Obj)}
    {q c : Nat} {po : Obj} {k : Nat} {many : Int} {t : Tok} {cs : List Value} {ns : List Int} {Q : Value → Shared → Prop} {E : Value → Shared → Prop}
    (X : (hd.heap_39 w.params).In g) (T : Top Vw Lo mean mg mb g) (F : Fr g L s.heap m) (N : News g L s.heap news) (U : UpdF q po news gN) (hpo : PotO c k po) (hp : PotG g c cs ns)
    (hh : A.handled = none) (hmany : 0 < many) (hm2 : many < 100) (hk : k < 1000) (hdp : A.depth < 900) (hun : A.units < 1000)
    (h : ∀ r tr h' tk' po', Fr g L h' m → News g L h' (gN po') → PotO c (k + 1) po' → 0 ≤ r → r < many → Q (.int r tr) { s with heap := h', toks := tk' }) :
    wpAny (model Pg w) A (call (.ref 96) [.ref q, .int many t]) Q E s := by
  refine wpNv ?_
  obtain ⟨hd, dp, fr, gd, un⟩ := A
  dsimp only at hh hdp hun
  subst hh
  have hq := N _ (updF_mem U)
  obtain ⟨oc, hoc, _⟩ := id hp.hc
  refine wpAny_call (dip_ok ⟨X, T⟩ F.keep hq.1 hq.2.2 hpo (isListUp F.keep hp.hc) (fun e => ?_) hp.hi hp.hlen hmany hm2 hk hdp hun ?_)
  · subst e; first | exact nS (hq.2.2) hoc | (rw [hq.2.2] at hoc; cases hoc)
  · intro r tr h' tk' po' kb hpo' hpp h0 h1
    obtain ⟨F', N'⟩ := upd_fr F N U kb hpo'
    exact h r tr h' tk' po' F' N' hpp h0 h1

/-- R of each item and each value -/
inductive Are {α : Type} (R : α → Value → Prop) : List α → List Value → Prop
  | nil : Are R [] []
  | cons {a v as vs} : R a v → Are R as vs → Are R (a :: as) (v :: vs)
namespace Are
variable {α : Type} {R : α → Value → Prop}
theorem length {as : List α} {vs : List Value} (x : Are R as vs) : as.length = vs.length := by
  induction x with
  | nil => rfl
  | cons _ _ ih => exact congrArg (· + 1) ih
theorem append {as bs : List α} {vs ws : List Value} (x : Are R as vs) (y : Are R bs ws) : Are R (as ++ bs) (vs ++ ws) := by
  induction x with
  | nil => exact y
  | cons h _ ih => exact .cons h ih
theorem snoc {as : List α} {vs : List Value} {a : α} {v : Value} (x : Are R as vs) (h : R a v) : Are R (as ++ [a]) (vs ++ [v]) := x.append (.cons h .nil)
theorem get {as : List α} {vs : List Value} (x : Are R as vs) {i : Nat} {a : α} (e : as[i]? = some a) : ∃ v, vs[i]? = some v ∧ R a v := by
  induction x generalizing i with
  | nil => cases e
  | cons h _ ih => cases i with
    | zero => cases e; exact ⟨_, rfl, h⟩
    | succ i => exact ih e
theorem get' {as : List α} {vs : List Value} (x : Are R as vs) {i : Nat} {v : Value} (e : vs[i]? = some v) : ∃ a, as[i]? = some a ∧ R a v := by
  induction x generalizing i with
  | nil => cases e
  | cons h _ ih => cases i with
    | zero => cases e; exact ⟨_, rfl, h⟩
    | succ i => exact ih e
theorem mono {S : α → Value → Prop} {as : List α} {vs : List Value} (x : Are R as vs) (k : ∀ a v, R a v → S a v) : Are S as vs := by
  induction x with
  | nil => exact .nil
  | cons h _ ih => exact .cons (k _ _ h) ih
end Are
def PartIs : Option Int → Value → Prop
  | none, v => v = .none
  | some i, v => ∃ t, v = .int i t
def StrIs (x : Str) (v : Value) : Prop := ∃ t, v = .str x t

end Mine
namespace Mine
section
variable {prog : Program} {w : World} {A : Around} {env : Env}
theorem stmt_cons {st : Stmt} {rest : List Stmt} {Q : Flow → Shared → Prop} {s : Shared}
    (h : ∀ Q1 : Flow → Shared → Prop, (∀ s', wpAny (model prog w) A (execs rest env) Q Nv s' → Q1 .next s') → (∀ v s', Q (.ret v) s' → Q1 (.ret v) s') → (∀ s', Q .brk s' → Q1 .brk s') → (∀ s', Q .cont s' → Q1 .cont s') →
      wpAny (model prog w) A (exec st env) Q1 Nv s) : wpAny (model prog w) A (execs (st :: rest) env) Q Nv s := by
  refine wpAny_execs_cons (wpQ (h (fun f s' => match f with | .next => wpAny (model prog w) A (execs rest env) Q Nv s' | f => Q f s') (fun _ x => x) (fun _ _ x => x) (fun _ x => x) (fun _ x => x)) fun f s' hf => ?_)
  exact hf
end
end Mine
namespace Mine
section
variable {prog : Program} {w : World} {A : Around} {env : Env}
theorem stmtH {st : Stmt} {rest : List Stmt} {Q : Flow → Shared → Prop} {h : Heap} {G : Array GenState} {D : Drawn} {t : Nat} {O : OsState}
    (k : ∀ Q1 : Flow → Shared → Prop, (∀ h', (∀ tk', wpAny (model prog w) A (execs rest env) Q Nv ⟨h', G, D, tk', O⟩) → ∀ tk, Q1 .next ⟨h', G, D, tk, O⟩) → (∀ v s', Q (.ret v) s' → Q1 (.ret v) s') →
      wpAny (model prog w) A (exec st env) Q1 Nv ⟨h, G, D, t, O⟩) : wpAny (model prog w) A (execs (st :: rest) env) Q Nv ⟨h, G, D, t, O⟩ := by
  refine wpAny_execs_cons (wpQ (k (fun f s' => match f with | .next => wpAny (model prog w) A (execs rest env) Q Nv s' | f => Q f s') (fun h' x tk => x tk) (fun _ _ x => x)) fun f s' hf => ?_)
  exact hf
end
/-- the one-letter texts p, q, r, .. -/
noncomputable def chr (n : Nat) : Str := ⟨#[112 + n]⟩
theorem chr_inj {a b : Nat} (h : chr a = chr b) : a = b := by
  have := congrArg (fun s => s.cps[0]?) h
  simp [chr] at this
  lia
def NmIs (n : Nat) (v : Value) : Prop := ∃ t, v = .str (chr n) t
structure RowD where
  parts : List (Option Int)
  parents : List Nat
def RowD.Good (r : RowD) : Prop := r.parts.length = 6 ∧ r.parents.length ≤ 2 ∧ ∀ n ∈ r.parents, n < 6
inductive RowAt (h : Heap) (v : Value) (i : Nat) (r : RowD) : Prop
  | mk (a : Nat) (pa : Nat) (pr : Nat) (tn : Tok) (vs : List Value) (ws : List Value) (f1 : v = .ref a) (f2 : h.IsTuple a [Value.str (chr i) tn, .ref pa, .ref pr].toArray) (f3 : h.IsTuple pa vs.toArray) (f4 : Are PartIs r.parts vs) (f5 : h.IsTuple pr ws.toArray) (f6 : Are NmIs r.parents ws)
theorem tupSub {g h : Heap} {a : Nat} {items : Array Value} (s : Sub g h) (x : g.IsTuple a items) : h.IsTuple a items := x.at fun o e => s _ o e
theorem RowAt.sub {g h : Heap} {v i r} (s : Sub g h) (x : RowAt g v i r) : RowAt h v i r := by
  obtain ⟨a, pa, pr, tn, vs, ws, e, h1, h2, h3, h4, h5⟩ := x
  exact ⟨a, pa, pr, tn, vs, ws, e, tupSub s h1, tupSub s h2, h3, tupSub s h4, h5⟩
def RowsAt (h : Heap) (rows : List RowD) (vs : List Value) : Prop := vs.length = rows.length ∧ ∀ (i : Nat) r, rows[i]? = some r → ∃ v, vs[i]? = some v ∧ RowAt h v i r
theorem RowsAt.sub {g h : Heap} {rows vs} (s : Sub g h) (x : RowsAt g rows vs) : RowsAt h rows vs := ⟨x.1, fun i r e => let ⟨v, a, b⟩ := x.2 i r e; ⟨v, a, b.sub s⟩⟩
theorem hide_sub {av : List Nat} {h h' : Heap} (k : KB av h h') : Sub (hideAll h av) (hideAll h' av) := fun b o e => by
  have hb : b ∉ av := fun q => by first | exact nS (hideAll_none _ q) e | (rw [hideAll_none _ q] at e; cases e)
  exact hideAll_get _ (k b o hb (of_hideAll _ e)) hb
theorem hide_self {av : List Nat} {h : Heap} : Sub (hideAll h av) h := fun b o e => of_hideAll _ e
theorem fresh_none {g h : Heap} {a : Nat} (s : Sub g h) (ha : h.objs.size ≤ a) : g.get? a = none := by
  cases e : g.get? a with
  | none => rfl
  | some o => exact absurd (ltSz (s _ _ e)) (Nat.not_lt.mpr ha)
theorem fresh_self {h : Heap} {a : Nat} (ha : h.objs.size ≤ a) : h.get? a = none := fresh_none (Sub.refl h) ha
end Mine
namespace Mine
theorem gL_none {g h : Heap} {L : Nat} {m : Str → Option Value} (F : Fr g L h m) : g.get? L = none := fresh_self F.above
theorem subTurn {g h₂ h : Heap} {L : Nat} {m : Str → Option Value} {av : List Nat} (F : Fr g L h₂ m) (hav : ∀ a ∈ av, g.get? a = none) (k : KB (L :: av) h₂ h) : Sub g h := fun b o e =>
  k b o (fun q => by
    rcases List.mem_cons.mp q with q | q
    · first | exact nS2 (q) (gL_none F) e | (rw [q, gL_none F] at e; cases e)
    · first | exact nS (hav b q) e | (rw [hav b q] at e; cases e)) (F.keep b o e)
end Mine
namespace Mine
theorem pickL {prog : Program} {w : World} {A : Around} {E : Value → Shared → Prop} {s : Shared} {value slice : Expr} {g : Heap} {L : Nat} {m : Str → Option Value} {news : List (Addr × Obj)} {l : Addr} {vs : List Value} {n : Nat} {r many : Int} {t : Tok} {Q : Value → Shared → Prop}
    (F : Fr g L s.heap m) (N : News g L s.heap news) (hm : (l, ({ cls := .type "list", data := .seq vs.toArray n } : Obj)) ∈ news) (h0 : 0 ≤ r) (h1 : r < many) (hl : many = (vs.length : Int)) (hb : vs.length ≤ 100)
    (h : ∀ v, v ∈ vs → Q v s)
    (hs : subscripted slice false (.ref l) (.int r t) = operate [.ref l, .int r t] (getItem (.ref l) (.int r t))) (hg : ∀ r, letTemporaryGo value (.ref l) r = pure ()) :
    wpAny (model prog w) A (subscriptTail value slice (.ref l) (.int r t)) Q E s := by
  have _ := F
  have hlt : r.toNat < vs.length := by lia
  refine item_listL (l := vs) ⟨_, (N _ hm).1, rfl, n, rfl⟩ h0 (by lia) (List.getElem?_eq_getElem hlt) (h _ (List.getElem_mem hlt)) hs hg
end Mine
namespace Mine
theorem pickI {prog : Program} {w : World} {A : Around} {E : Value → Shared → Prop} {s : Shared} {value slice : Expr} {g : Heap} {L : Nat} {m : Str → Option Value} {news : List (Addr × Obj)} {l : Addr} {vs : List Value} {n : Nat} {r many lo hi : Int} {t : Tok} {Q : Value → Shared → Prop}
    (F : Fr g L s.heap m) (N : News g L s.heap news) (hm : (l, ({ cls := .type "list", data := .seq vs.toArray n } : Obj)) ∈ news) (h0 : 0 ≤ r) (h1 : r < many) (hl : many = (vs.length : Int)) (hb : vs.length ≤ 100)
    (hv : ∀ v, v ∈ vs → ∃ i t, v = .int i t ∧ lo ≤ i ∧ i ≤ hi)
    (h : ∀ i t, lo ≤ i → i ≤ hi → Q (.int i t) s)
    (hs : subscripted slice false (.ref l) (.int r t) = operate [.ref l, .int r t] (getItem (.ref l) (.int r t))) (hg : ∀ r, letTemporaryGo value (.ref l) r = pure ()) :
    wpAny (model prog w) A (subscriptTail value slice (.ref l) (.int r t)) Q E s :=
  pickL F N hm h0 h1 hl hb (fun v hv' => by obtain ⟨i, t, rfl, a, b⟩ := hv v hv'; exact h i t a b) hs hg

noncomputable abbrev tupO (vs : List Value) : Obj := { cls := .type "tuple", data := .seq vs.toArray }
noncomputable abbrev lstO (vs : List Value) (n : Nat) : Obj := { cls := .type "list", data := .seq vs.toArray n }

theorem news_add {g h h' : Heap} {L T : Nat} {m : Str → Option Value} {o : Obj} {news : List (Addr × Obj)} (F : Fr g L h m) (N : News g L h news) (k : Sub h h') (hT : h.objs.size ≤ T) (ho : h'.get? T = some o) :
    Fr g L h' m ∧ News g L h' ((T, o) :: news) ∧ ∀ p ∈ news, p.1 < T := by
  refine ⟨F.keeps k, ?_, fun p hp => Nat.lt_of_lt_of_le (ltSz (N p hp).1) hT⟩
  intro p hp
  rcases List.mem_cons.mp hp with rfl | hp
  · exact ⟨ho, Ne.symm (Nat.ne_of_lt (Nat.lt_of_lt_of_le F.ns.lt hT)), fresh_none F.keep hT⟩
  · exact ⟨k _ _ (N p hp).1, (N p hp).2⟩

theorem tupleN {prog : Program} {w : World} {A : Around} {E : Value → Shared → Prop} {s : Shared} {g : Heap} {L : Nat} {m : Str → Option Value} {news : List (Addr × Obj)} {l : Addr} {vs : List Value} {n : Nat} {Q : Value → Shared → Prop}
    (F : Fr g L s.heap m) (N : News g L s.heap news) (hm : (l, lstO vs n) ∈ news) (hsz : vs.length ≤ 100)
    (h : ∀ (T : Nat) h', Fr g L h' m → News g L h' ((T, tupO vs) :: news) → (∀ p ∈ news, p.1 < T) → Q (.ref T) { s with heap := h' }) :
    wpAny (model prog w) A (call (.type "tuple") [.ref l]) Q E s := by
  refine call_tuple_list (items := vs.toArray) ⟨_, (N _ hm).1, rfl, n, rfl⟩ (fun h' hk => ?_) (by rw [List.size_toArray, sizeLine_eq]; lia)
  have F1 := F.keeps hk
  have N1 : News g L h' news := fun p hp => ⟨hk _ _ (N p hp).1, (N p hp).2⟩
  obtain ⟨F', N', l'⟩ := news_add F1 N1 (fun b o e => Heap.get?_push_of_some (tupO vs) e) (Nat.le_refl _) (Heap.get?_push_size _ rfl)
  exact h _ _ F' N' l'
end Mine

end
section
open PySem PySem.Spec PySem.Calls PySem.W PyProof.Rows
set_option Elab.async false
set_option maxRecDepth 100000
namespace Mine

theorem kxDc : True := by
  k_with_none
  k_with "ne" => (refine neN ?_; (try dsimp only); first | with_reducible assumption | exact Ne.symm (by with_reducible assumption) | exact Nat.ne_of_lt (by with_reducible assumption) | exact Nat.ne_of_gt (by with_reducible assumption) | lia)
  k_with "mem" => first | exact nm0 | (refine nmC ?_ ?_; k_ne; k_mem) | (refine inL ?_; k_mem) | exact fa0 | (refine faC ?_ ?_; k_mem; k_mem)
  trivial
theorem range_small : ∀ n : Nat, n < 10 → Builtin.Range.small 0 (n : Int) 1 = true ∧ Builtin.Range.rangeSize 0 (n : Int) 1 = (n : Int) := by
  decide +kernel

/-- what such an element comes to -/
inductive EltEnd {α : Type} (P : α → Value → Prop) (good : α → Prop) (q c cc : Nat) (co : Obj) (k' : Nat) (gB : Heap) (C : Nat) (frz : List (Addr × Obj)) (G : Array GenState) (Dr : Drawn) (O : OsState) (y : Value) (s₄ : Shared) : Prop
  | mk (x : α) (h' : Heap) (tk' : Nat) (po'' : Obj) (m' : Str → Option Value) (f1 : s₄ = ⟨h', G, Dr, tk', O⟩) (f2 : Fr gB C h' m') (f3 : News gB C h' ((q, po'') :: (cc, co) :: frz)) (f4 : PotO c (k' + 1) po'') (f5 : P x y) (f6 : good x)
/-- an element of a comprehension that draws once from the pot -/
def EltDraw (w : World) (mean : ExcName → Option Value) (mg mb : Str → Option Value) (A : Around) (env : Env) (elt : Expr) (scope : Scope) (cl : List (Str × Addr)) {α : Type} (P : α → Value → Prop) (good : α → Prop)
    (q c cc : Nat) (co : Obj) (cs : List Value) (ns : List Int) (k K : Nat) (G : Array GenState) (Dr : Drawn) (O : OsState) : Prop :=
  ∀ (gB : Heap) (C : Nat) (h : Heap) (tk : Nat) (m₂ : Str → Option Value) (po' : Obj) (k' : Nat) (frz : List (Addr × Obj)), k ≤ k' → k' < K → (hd.heap_39 w.params).In gB → Top Vw Lo mean mg mb gB → PotG gB c cs ns →
    Fr gB C h m₂ → News gB C h ((q, po') :: (cc, co) :: frz) → (∀ p ∈ frz, p.1 ≠ q) → cc ≠ q → PotO c k' po' →
    wpAny (model Pg w) A (eval elt (compEnvC scope cl C env)) (EltEnd P good q c cc co k' gB C frz G Dr O) Nv ⟨h, G, Dr, tk, O⟩

theorem dip_compL {w : World} {mean : ExcName → Option Value} {mg mb : Str → Option Value} {A : Around} {env : Env} {elt : Expr} {x : Str} {px : Pos} {scope : Scope} {cl : List (Str × Addr)} {α : Type} {P : α → Value → Prop} {good : α → Prop}
    {g : Heap} {L : Nat} {m : Str → Option Value} {hp : Heap} {G : Array GenState} {Dr : Drawn} {t0 : Nat} {O : OsState} {news : List (Addr × Obj)} {gN : Obj → List (Addr × Obj)} {q c cc r : Nat} {po co : Obj} {k n : Nat} {nI : Int} {cs : List Value} {ns : List Int} {t u v : Tok}
    {fn : Shared → Nat → List Value → Nat → List Nat → Heap → Nat → Prop} {E : Value → Shared → Prop}
    (hr : IsRange hp r 0 nI 1 t u v) (X : (hd.heap_39 w.params).In g) (T : Top Vw Lo mean mg mb g) (F : Fr g L hp m) (N : News g L hp news) (U : UpdF q po news gN) (hcc : (cc, co) ∈ news) (hcq : cc ≠ q)
    (hpo : PotO c k po) (hpg : PotG hp c cs ns) (hc1 : c ≠ q) (hc2 : c ≠ cc) (hnI : nI = (n : Int)) (hn : n < 10) (hh : A.handled = none)
    (hk : (compEnvC scope cl 0 env).scope.kind = .function) (hx : (compEnvC scope cl 0 env).kindOf x = some .local)
    (helt : EltDraw w mean mg mb A env elt scope cl P good q c cc co cs ns k (k + n) G Dr O)
    (fin : ∀ h2 xs ys (D : Nat) C av h' tk' po' e, Fr g L h' m → News g L h' ((D, { cls := .type "list", data := .seq (List.toArray ys) e }) :: gN po') → (∀ p ∈ news, p.1 < D) → PotO c (k + n) po' → List.length xs = n → Are P xs ys → (∀ x ∈ xs, good x) → fn ⟨h2, G, Dr, t0, O⟩ D ys C av h' tk') :
    wpAny (model Pg w) A (pyIter (.ref r)) (fun it s₂ => CompAt Pg w A env elt (.Name x px) [] scope cl s₂ it (fn s₂)) E ⟨hp, G, Dr, t0, O⟩ := by
  subst hnI
  obtain ⟨hsm, hsz⟩ := range_small n hn
  refine wpAny_pyIter_range (s := ⟨hp, G, Dr, t0, O⟩) hr hsm ?_
  rw [hsz]
  dsimp only
  have hq := N _ (updF_mem U)
  have hc := N _ hcc
  have qsz : q < hp.objs.size := ltSz hq.1
  have csz : cc < hp.objs.size := ltSz hc.1
  have qI : q ≠ hp.objs.size := Nat.ne_of_lt qsz
  refine ⟨hp.objs.size, [hp.objs.size], [hp.objs.size], [q], n, _, _, rfl, ItS.of (Walks.range hh _ 0 1 n), ?_, ?_, ?_, ?_, ?_⟩
  · rw [sizeLine_eq]; lia
  · show IsRangeIter _ _ _ _ _
    have : (0 : Int) + ((0 : Nat) : Int) * 1 = 0 := by decide
    rw [this]
    simpa using Heap.get?_push_size hp rfl
  · intro b hb
    rw [List.mem_singleton.mp hb]; show _ < (hp.push _).objs.size; rw [Heap.size_push]; exact Nat.lt_succ_self _
  · intro b hb
    rw [List.mem_singleton.mp hb]
    refine ⟨by simpa using qI, ?_⟩
    show _ < (hp.push _).objs.size; rw [Heap.size_push]; lia
  intro D C hD hC
  replace hD : D = hp.objs.size + 1 := by rw [hD]; exact Heap.size_push ..
  replace hC : C = hp.objs.size + 2 := by rw [hC]; show (hp.push _).objs.size + 1 = _; rw [Heap.size_push]
  refine ⟨fun i ys h => ∃ po' xs, h.get? q = some po' ∧ PotO c (k + i) po' ∧ List.length xs = i ∧ Are P xs ys ∧ ∀ x ∈ xs, good x, ?_, ?_, ?_, ?_⟩
  · exact ⟨po, [], Heap.get?_push_of_some _ hq.1, hpo, rfl, .nil, fun _ h => nomatch h⟩
  · rintro i vs h h' ⟨po', xs, a, b⟩ kb
    exact ⟨po', xs, kb _ _ (by first | k_mem | (simp; lia)) a, b⟩
  · rintro i v ys h tk m₁ hi ⟨tv, rfl⟩ hst ⟨po', xs, hq', hpo', hxs, hP, hg⟩ hnsC hkb
    have hkb' : KB [q] hp h := fun b o nb e => hkb b o (by
      have := ltSz e
      simp at nb ⊢
      lia) (Heap.get?_push_of_some _ e)
    have hkC : KB [q] hp h := hkb'
    refine wpAny_assign_Name (wpAny_storeName_local hx hnsC (fun h₂ hn₂ hs₂ => ?_) ?_)
    rotate_left
    · show ((compEnvC scope cl C env).scope.kind == .class || ((compEnvC scope cl C env).scope.kind == .module && _)) = false
      have e : (compEnvC scope cl C env).scope.kind = .function := hk
      rw [e]; rfl
    refine wpAny_tests_nil ?_
    simp only [if_true]
    replace hs₂ : Heap.SameBut C h h₂ := hs₂
    replace hn₂ : h₂.Ns C _ := hn₂
    have kb₂ : KB [q, C] hp h₂ := fun b o nb e => hs₂.extBut b o (by simp at nb; exact nb.2) (hkb' b o (by simp at nb ⊢; exact nb.1) e)
    have hsubB : Sub (hideAll hp [q, cc]) h₂ := fun b o e => by
      have hb : b ∉ [q, cc] := fun q => by first | exact nS (hideAll_none _ q) e | (rw [hideAll_none _ q] at e; cases e)
      have e' := of_hideAll _ e
      have := ltSz e'
      exact kb₂ b o (by simp at hb ⊢; exact ⟨hb.1, by lia⟩) e'
    have gsub : Sub g (hideAll hp [q, cc]) := fun b o e => hideAll_get _ (F.keep b o e) (fun qq => by
      rcases List.mem_cons.mp qq with z | z
      · first | exact nS2 (z) (hq.2.2) e | (rw [z, hq.2.2] at e; cases e)
      · first | exact nS2 (List.mem_singleton.mp z) (hc.2.2) e | (rw [List.mem_singleton.mp z, hc.2.2] at e; cases e))
    have hpB : PotG (hideAll hp [q, cc]) c cs ns := ⟨hpg.hc.at fun o e => hideAll_get _ e (show c ∉ ([q, cc] : List Nat) by simp only [List.mem_cons, List.not_mem_nil, or_false, not_or]; exact ⟨hc1, hc2⟩), hpg.hi, hpg.hlen⟩
    have cC : C ≠ cc := by lia
    have qC : C ≠ q := by lia
    have hcc₂ : h₂.get? cc = some co := kb₂ _ _ (by simp; exact ⟨hcq, Ne.symm cC⟩) hc.1
    obtain ⟨frz, F2, N2, off, infrz, kback⟩ := kmode (own := [(q, po'), (cc, co)]) (g := hideAll hp [q, cc]) hn₂ hsubB (by rw [hideAll_size]; lia) (by
      intro p hp'
      simp only [List.mem_cons, List.not_mem_nil, or_false] at hp'
      rcases hp' with rfl | rfl
      · exact ⟨hs₂.extBut _ _ (Ne.symm qC) hq', Ne.symm qC, hideAll_none _ (by first | k_mem | simp)⟩
      · exact ⟨hcc₂, Ne.symm cC, hideAll_none _ (by first | k_mem | simp)⟩)
    refine wpQ (helt (hideAll hp [q, cc]) C h₂ _ _ po' (k + i) frz (by lia) (by lia) (X.keeps gsub) (T.keeps gsub) hpB F2 N2
      (fun p hp' e => off p hp' (by first | (rw [e]; k_mem) | simp [e])) hcq hpo') ?_
    rintro y s₄ ⟨x', h', tk', po'', m', rfl, F3, N3, hpo3, hPx, hgx⟩
    refine ⟨h', tk', m', rfl, ?_, F3.ns, po'', xs ++ [x'], (N3 _ (.head _)).1, by rw [← Nat.add_assoc]; exact hpo3, by simp [hxs], hP.snoc hPx, ?_⟩
    · intro b o nb e
      have hbC : b ≠ C := by simp at nb; exact nb.1
      have hbq : b ≠ q := by simp at nb; exact nb.2
      have e₂ : h₂.get? b = some o := hs₂.extBut b o hbC e
      by_cases hbc : b = cc
      · subst hbc; first | exact nS (hcc₂) e₂ | (rw [hcc₂] at e₂; cases e₂); exact (N3 _ (.tail _ (.head _))).1
      · exact kback h' m' _ F3 N3 (fun p hp' => List.mem_cons_of_mem _ (List.mem_cons_of_mem _ hp')) b o (by simp; exact ⟨hbC, hbq, hbc⟩) e₂
    · intro z hz
      rcases List.mem_append.mp hz with hz | hz
      · exact hg z hz
      · rw [List.mem_singleton.mp hz]; exact hgx
  · rintro ys h tk ⟨po', xs, hq', hpo', hxs, hP, hg⟩ hpl hkb
    have hkb' : KB [q] hp h := fun b o nb e => hkb b o (by
      have := ltSz e
      simp at nb ⊢
      lia) (Heap.get?_push_of_some _ e)
    obtain ⟨F', N'⟩ := upd_fr F N U hkb' hq'
    obtain ⟨e, hpl⟩ := hpl
    refine fin _ xs ys D C _ h tk po' e F' ?_ (fun p hp' => ?_) hpo' hxs hP hg
    · intro p hp'
      rcases List.mem_cons.mp hp' with rfl | hp'
      · refine ⟨hpl, ?_, fresh_none F.keep (by show _ ≤ D; lia)⟩
        have := F.ns.lt
        exact neN (show D ≠ L by have h2 : L < hp.objs.size := this; lia)
      · exact N' p hp'
    · have hle : hp.objs.size ≤ D := by lia
      exact Nat.lt_of_lt_of_le (ltSz (N p hp').1) hle
theorem dip_comp {w : World} {mean : ExcName → Option Value} {mg mb : Str → Option Value} {A : Around} {env : Env} {elt : Expr} {x : Str} {px : Pos} {scope : Scope} {cl : List (Str × Addr)} {α : Type} {P : α → Value → Prop} {good : α → Prop}
    {g : Heap} {L : Nat} {m : Str → Option Value} {hp : Heap} {G : Array GenState} {Dr : Drawn} {t0 : Nat} {O : OsState} {news : List (Addr × Obj)} {gN : Obj → List (Addr × Obj)} {q c cc r : Nat} {po co : Obj} {k n : Nat} {nI : Int} {cs : List Value} {ns : List Int} {t u v : Tok}
    {fn : Shared → Nat → List Value → Nat → List Nat → Heap → Nat → Prop} {E : Value → Shared → Prop}
    (hr : IsRange hp r 0 nI 1 t u v) (X : (hd.heap_39 w.params).In g) (T : Top Vw Lo mean mg mb g) (F : Fr g L hp m) (N : News g L hp news) (U : UpdF q po news gN) (hcc : (cc, co) ∈ news) (hcq : cc ≠ q)
    (hpo : PotO c k po) (hpg : PotG g c cs ns) (hnI : nI = (n : Int)) (hn : n < 10) (hh : A.handled = none)
    (hk : (compEnvC scope cl 0 env).scope.kind = .function) (hx : (compEnvC scope cl 0 env).kindOf x = some .local)
    (helt : EltDraw w mean mg mb A env elt scope cl P good q c cc co cs ns k (k + n) G Dr O)
    (fin : ∀ h2 xs ys (D : Nat) C av h' tk' po' e, Fr g L h' m → News g L h' ((D, { cls := .type "list", data := .seq (List.toArray ys) e }) :: gN po') → (∀ p ∈ news, p.1 < D) → PotO c (k + n) po' → List.length xs = n → Are P xs ys → (∀ x ∈ xs, good x) → fn ⟨h2, G, Dr, t0, O⟩ D ys C av h' tk') :
    wpAny (model Pg w) A (pyIter (.ref r)) (fun it s₂ => CompAt Pg w A env elt (.Name x px) [] scope cl s₂ it (fn s₂)) E ⟨hp, G, Dr, t0, O⟩ := by
  have hcg : ∃ o, g.get? c = some o := hpg.hc.imp fun _ x => x.1
  obtain ⟨oc, hoc⟩ := hcg
  exact dip_compL hr X T F N U hcc hcq hpo ⟨isListUp F.keep hpg.hc, hpg.hi, hpg.hlen⟩ (fun e => by first | exact nS2 (e) (show g.get? q = none from (N _ (updF_mem U)).2.2) hoc | (rw [e, show g.get? q = none from (N _ (updF_mem U)).2.2] at hoc; cases hoc)) (fun e => by first | exact nS2 (e) (show g.get? cc = none from (N (cc, co) hcc).2.2) hoc | (rw [e, show g.get? cc = none from (N (cc, co) hcc).2.2] at hoc; cases hoc)) hnI hn hh hk hx helt fin
end Mine

end
section
open PySem PySem.Spec PySem.Calls PySem.W PyProof.Rows
set_option Elab.async false
set_option maxRecDepth 100000
namespace Mine
theorem kxRw : True := by
  k_with_none
  k_with "lt" => first | with_reducible assumption | exact And.left (by with_reducible assumption) | exact And.right (by with_reducible assumption) | exact And.left (And.right (by with_reducible assumption)) | exact And.right (And.right (by with_reducible assumption)) | exact And.left (And.right (And.right (by with_reducible assumption))) | exact And.right (And.right (And.right (by with_reducible assumption))) | exact And.left (And.right (And.right (And.right (by with_reducible assumption)))) | exact And.right (And.right (And.right (And.right (by with_reducible assumption)))) | exact And.left (And.right (And.right (And.right (And.right (by with_reducible assumption))))) | exact And.right (And.right (And.right (And.right (And.right (by with_reducible assumption))))) | exact And.left (And.right (And.right (And.right (And.right (And.right (by with_reducible assumption)))))) | exact And.right (And.right (And.right (And.right (And.right (And.right (by with_reducible assumption)))))) | exact And.left (And.right (And.right (And.right (And.right (And.right (And.right (by with_reducible assumption))))))) | exact And.right (And.right (And.right (And.right (And.right (And.right (And.right (by with_reducible assumption))))))) | exact And.left (And.right (And.right (And.right (And.right (And.right (And.right (And.right (by with_reducible assumption)))))))) | exact And.right (And.right (And.right (And.right (And.right (And.right (And.right (And.right (by with_reducible assumption)))))))) | exact And.left (And.right (And.right (And.right (And.right (And.right (And.right (And.right (And.right (by with_reducible assumption))))))))) | exact And.right (And.right (And.right (And.right (And.right (And.right (And.right (And.right (And.right (by with_reducible assumption))))))))) | exact And.left (And.right (And.right (And.right (And.right (And.right (And.right (And.right (And.right (And.right (by with_reducible assumption)))))))))) | exact And.right (And.right (And.right (And.right (And.right (And.right (And.right (And.right (And.right (And.right (by with_reducible assumption)))))))))) | exact And.left (And.right (And.right (And.right (And.right (And.right (And.right (And.right (And.right (And.right (And.right (by with_reducible assumption))))))))))) | exact And.right (And.right (And.right (And.right (And.right (And.right (And.right (And.right (And.right (And.right (And.right (by with_reducible assumption))))))))))) | exact And.left (And.right (And.right (And.right (And.right (And.right (And.right (And.right (And.right (And.right (And.right (And.right (by with_reducible assumption)))))))))))) | exact And.right (And.right (And.right (And.right (And.right (And.right (And.right (And.right (And.right (And.right (And.right (And.right (by with_reducible assumption)))))))))))) | exact And.left (And.right (And.right (And.right (And.right (And.right (And.right (And.right (And.right (And.right (And.right (And.right (And.right (by with_reducible assumption))))))))))))) | exact And.right (And.right (And.right (And.right (And.right (And.right (And.right (And.right (And.right (And.right (And.right (And.right (And.right (by with_reducible assumption))))))))))))) | exact And.left (And.right (And.right (And.right (And.right (And.right (And.right (And.right (And.right (And.right (And.right (And.right (And.right (And.right (by with_reducible assumption)))))))))))))) | exact And.right (And.right (And.right (And.right (And.right (And.right (And.right (And.right (And.right (And.right (And.right (And.right (And.right (And.right (by with_reducible assumption)))))))))))))) | exact And.left (And.right (And.right (And.right (And.right (And.right (And.right (And.right (And.right (And.right (And.right (And.right (And.right (And.right (And.right (by with_reducible assumption))))))))))))))) | exact And.right (And.right (And.right (And.right (And.right (And.right (And.right (And.right (And.right (And.right (And.right (And.right (And.right (And.right (And.right (by with_reducible assumption))))))))))))))) | exact And.left (And.right (And.right (And.right (And.right (And.right (And.right (And.right (And.right (And.right (And.right (And.right (And.right (And.right (And.right (And.right (by with_reducible assumption)))))))))))))))) | exact And.right (And.right (And.right (And.right (And.right (And.right (And.right (And.right (And.right (And.right (And.right (And.right (And.right (And.right (And.right (And.right (by with_reducible assumption)))))))))))))))) | exact And.left (And.right (And.right (And.right (And.right (And.right (And.right (And.right (And.right (And.right (And.right (And.right (And.right (And.right (And.right (And.right (And.right (by with_reducible assumption))))))))))))))))) | exact And.right (And.right (And.right (And.right (And.right (And.right (And.right (And.right (And.right (And.right (And.right (And.right (And.right (And.right (And.right (And.right (And.right (by with_reducible assumption))))))))))))))))) | exact And.left (And.right (And.right (And.right (And.right (And.right (And.right (And.right (And.right (And.right (And.right (And.right (And.right (And.right (And.right (And.right (And.right (And.right (by with_reducible assumption)))))))))))))))))) | exact And.right (And.right (And.right (And.right (And.right (And.right (And.right (And.right (And.right (And.right (And.right (And.right (And.right (And.right (And.right (And.right (And.right (And.right (by with_reducible assumption)))))))))))))))))) | exact And.left (And.right (And.right (And.right (And.right (And.right (And.right (And.right (And.right (And.right (And.right (And.right (And.right (And.right (And.right (And.right (And.right (And.right (And.right (by with_reducible assumption))))))))))))))))))) | exact And.right (And.right (And.right (And.right (And.right (And.right (And.right (And.right (And.right (And.right (And.right (And.right (And.right (And.right (And.right (And.right (And.right (And.right (And.right (by with_reducible assumption))))))))))))))))))) | exact And.left (And.right (And.right (And.right (And.right (And.right (And.right (And.right (And.right (And.right (And.right (And.right (And.right (And.right (And.right (And.right (And.right (And.right (And.right (And.right (by with_reducible assumption)))))))))))))))))))) | exact And.right (And.right (And.right (And.right (And.right (And.right (And.right (And.right (And.right (And.right (And.right (And.right (And.right (And.right (And.right (And.right (And.right (And.right (And.right (And.right (by with_reducible assumption)))))))))))))))))))) | exact And.left (And.right (And.right (And.right (And.right (And.right (And.right (And.right (And.right (And.right (And.right (And.right (And.right (And.right (And.right (And.right (And.right (And.right (And.right (And.right (And.right (by with_reducible assumption))))))))))))))))))))) | exact And.right (And.right (And.right (And.right (And.right (And.right (And.right (And.right (And.right (And.right (And.right (And.right (And.right (And.right (And.right (And.right (And.right (And.right (And.right (And.right (And.right (by with_reducible assumption))))))))))))))))))))) | exact And.left (And.right (And.right (And.right (And.right (And.right (And.right (And.right (And.right (And.right (And.right (And.right (And.right (And.right (And.right (And.right (And.right (And.right (And.right (And.right (And.right (And.right (by with_reducible assumption)))))))))))))))))))))) | exact And.right (And.right (And.right (And.right (And.right (And.right (And.right (And.right (And.right (And.right (And.right (And.right (And.right (And.right (And.right (And.right (And.right (And.right (And.right (And.right (And.right (And.right (by with_reducible assumption)))))))))))))))))))))) | exact And.left (And.right (And.right (And.right (And.right (And.right (And.right (And.right (And.right (And.right (And.right (And.right (And.right (And.right (And.right (And.right (And.right (And.right (And.right (And.right (And.right (And.right (And.right (by with_reducible assumption))))))))))))))))))))))) | exact And.right (And.right (And.right (And.right (And.right (And.right (And.right (And.right (And.right (And.right (And.right (And.right (And.right (And.right (And.right (And.right (And.right (And.right (And.right (And.right (And.right (And.right (And.right (by with_reducible assumption))))))))))))))))))))))) | exact And.left (And.right (And.right (And.right (And.right (And.right (And.right (And.right (And.right (And.right (And.right (And.right (And.right (And.right (And.right (And.right (And.right (And.right (And.right (And.right (And.right (And.right (And.right (And.right (by with_reducible assumption)))))))))))))))))))))))) | exact And.right (And.right (And.right (And.right (And.right (And.right (And.right (And.right (And.right (And.right (And.right (And.right (And.right (And.right (And.right (And.right (And.right (And.right (And.right (And.right (And.right (And.right (And.right (And.right (by with_reducible assumption))))))))))))))))))))))))
  k_with "lt2" => (apply Nat.lt_trans; rotate_left; with_reducible assumption; k_extra "lt")
  k_with "ne" => (refine neN ?_; (try dsimp only); first | with_reducible assumption | exact Ne.symm (by with_reducible assumption) | exact Nat.ne_of_lt (by k_extra "lt") | exact Nat.ne_of_gt (by k_extra "lt") | exact Nat.ne_of_lt (by k_extra "lt2") | exact Nat.ne_of_gt (by k_extra "lt2") | lia)
  k_with "mem" => first | exact nm0 | (refine nmC ?_ ?_; k_ne; k_mem) | (refine inL ?_; k_mem) | exact fa0 | (refine faC ?_ ?_; k_mem; k_mem)
  trivial
theorem wRw1 : True := by
  k_with "eval ListComp" => k_dflt (refine' comp_eval ?hclos ?hcell ?hkind ?hnames ?_ ?hs; (case hclos => with_unfolding_all rfl); (case hcell => decide); (case hkind => with_unfolding_all rfl); (case hnames => decide); (case hs => intro _; with_unfolding_all rfl))
  trivial
theorem wRw2 : True := by
  k_with "exec For" => (refine' for_rule ?_ ?hs; (case hs => intro _; with_unfolding_all rfl))
  trivial
local macro_rules | `(tactic| k_all) => `(tactic| assumption)
theorem wRw3 : True := by
  k_with "call ref" => (refine' use_dip ?X ?T ?F ?N ?U ?hpo ?hp ?hh ?hm ?hm2 ?hk ?hd ?hu ?_; (case X => assumption); (case T => assumption); (case F => k_asm); (case N => k_asm); (case U => k_updF); (case hpo => assumption); (case hp => assumption); (case hh => rfl); (case hm => decide); (case hm2 => decide); (case hk => lia); (case hd => (dsimp only [Ar, Around.deeper]; lia)); (case hu => (dsimp only [Ar, Around.deeper]; lia)); intro _ _ _ _ _ _ _ _ _ _)
  trivial
theorem wRw4 : True := by
  k_with "subscriptTail" => (refine' pickL ?F ?N ?M ?h0 ?h1 ?hl ?hb ?_ ?hs ?hg; (case h0 => assumption); (case h1 => assumption); (case F => k_asm); (case N => k_asm); (case M => k_mem); (case hl => rfl); (case hb => exact Nat.le_of_ble_eq_true rfl); (case hs => with_unfolding_all rfl); (case hg => intro _; with_unfolding_all rfl); intro _ _)
  trivial
theorem wRw5 : True := by
  k_with "subscriptTail" => (refine' pickI (lo := 0) (hi := 2) ?F ?N ?M ?h0 ?h1 ?hl ?hb ?hv ?_ ?hs ?hg; (case h0 => assumption); (case h1 => assumption); (case F => k_asm); (case N => k_asm); (case M => k_mem); (case hl => rfl); (case hb => exact Nat.le_of_ble_eq_true rfl); (case hs => with_unfolding_all rfl); (case hg => intro _; with_unfolding_all rfl); (case hv => (refine fa4 ?_ ?_ ?_ ?_ <;> exact ⟨_, _, rfl, by decide, by decide⟩)); intro _ _ _ _)
  trivial
theorem wRw6 : True := by
  k_with "call type:tuple" => k_dflt (refine' tupleN ?F ?N ?M ?hz ?_; (case F => k_asm); (case N => k_asm); (case M => k_mem); (case hz => assumption); intro _ _ _ _ l1; (try k_lt l1); (first | (revert l1; intro _) | skip))
  trivial

theorem pick4 {r : Int} (h0 : 0 ≤ r) (h1 : r < 4) : ∃ nn : Nat, ([0, 1, 0, 2] : List Int).getD r.toNat 0 = (nn : Int) ∧ nn ≤ 2 := by
  have : r = 0 ∨ r = 1 ∨ r = 2 ∨ r = 3 := by lia
  rcases this with rfl | rfl | rfl | rfl
  · exact ⟨0, rfl, by decide⟩
  · exact ⟨1, rfl, by decide⟩
  · exact ⟨0, rfl, by decide⟩
  · exact ⟨2, rfl, by decide⟩
theorem item6 {r : Int} (h0 : 0 ≤ r) (h1 : r < 6) : Txt.item (Str.ofString "pqrstu") r = chr r.toNat := by
  have : r = 0 ∨ r = 1 ∨ r = 2 ∨ r = 3 ∨ r = 4 ∨ r = 5 := by lia
  rcases this with rfl | rfl | rfl | rfl | rfl | rfl <;> decide +kernel
theorem elt6 {q c cc : Nat} {co : Obj} {k' : Nat} {gB : Heap} {C : Nat} {frz : List (Addr × Obj)} {G : Array GenState} {Dr : Drawn} {O : OsState} {r : Int} {t : Tok} {h' : Heap} {tk : Nat} {po'' : Obj} {m' : Str → Option Value}
    (F : Fr gB C h' m') (N : News gB C h' ((q, po'') :: (cc, co) :: frz)) (hpo : PotO c (k' + 1) po'') (h0 : 0 ≤ r) (h1 : r < 6) :
    EltEnd NmIs (· < 6) q c cc co k' gB C frz G Dr O (.str (Txt.item (Str.ofString "pqrstu") r) t) ⟨h', G, Dr, tk, O⟩ :=
  ⟨r.toNat, h', tk, po'', m', rfl, F, N, hpo, ⟨t, by rw [item6 h0 h1]⟩, by show r.toNat < 6; lia⟩
noncomputable abbrev mR (o1 o2 o3 : Option Value) (l : Nat) : Str → Option Value := fun y => if y = Str.ofString "parents" then o1 else if y = Str.ofString "part_list" then o2 else if y = Str.ofString "name" then o3 else if y = Str.ofString "lines_laid" then some (.ref l) else none
theorem appendN {prog : Program} {w : World} {A : Around} {E : Value → Shared → Prop} {s : Shared} {g : Heap} {L : Nat} {m : Str → Option Value} {news : List (Addr × Obj)} {gN : Obj → List (Addr × Obj)} {l : Addr} {vs : List Value} {n : Nat} {x : Value} {Q : Value → Shared → Prop}
    (F : Fr g L s.heap m) (N : News g L s.heap news) (U : UpdF l (W.listOf vs.toArray n) news gN) (hsz : vs.length ≤ 1000)
    (h : ∀ h' n', Fr g L h' m → News g L h' (gN (W.listOf (vs ++ [x]).toArray n')) → Q .none { s with heap := h' }) :
    wpAny (model prog w) A (call (.builtin "list.append") [.ref l, x]) Q E s := by
  refine wpAny_list_append_plain ⟨n, (N _ (updF_mem U)).1⟩ (fun h' hl hs => ?_) (by rw [sizeLine_eq, List.size_toArray]; lia)
  obtain ⟨n', hl⟩ := hl
  have e : (W.listOf (vs ++ [x]).toArray n') = { cls := .type "list", data := .seq (vs.toArray.push x) n' } := by simp [W.listOf]
  obtain ⟨F', N'⟩ := upd_fr F N U (KB.of_sameBut hs) (o' := listOf (vs ++ [x]).toArray n') (e ▸ hl)
  exact h _ _ F' N'
theorem PotO.cls {c k o} (h : PotO c k o) : o.cls = .type "list" := by obtain ⟨_, _, _, _, _, rfl, _⟩ := h; rfl
theorem chI {i ch : Nat} (hi : i < 5) (h : (Str.ofString "pqrst").cps[i]? = some ch) : (⟨#[ch]⟩ : Str) = chr i := by
  have : i = 0 ∨ i = 1 ∨ i = 2 ∨ i = 3 ∨ i = 4 := by lia
  have e : (Str.ofString "pqrst").cps = #[112, 113, 114, 115, 116] := by decide +kernel
  rw [e] at h
  rcases this with rfl | rfl | rfl | rfl | rfl <;> (simp at h; subst h; rfl)
theorem mR_step {h : Heap} {L : Nat} {v1 v2 v3 : Value} {o1 o2 o3 : Option Value} {l : Nat}
    (hn : h.Ns L (fun y => if y = Str.ofString "parents" then some v1 else if y = Str.ofString "part_list" then some v2 else if y = Str.ofString "name" then some v3 else mR o1 o2 o3 l y)) : h.Ns L (mR (some v1) (some v2) (some v3) l) := by
  have e : (fun y => if y = Str.ofString "parents" then some v1 else if y = Str.ofString "part_list" then some v2 else if y = Str.ofString "name" then some v3 else mR o1 o2 o3 l y) = mR (some v1) (some v2) (some v3) l := by
    funext y
    show (if y = Str.ofString "parents" then some v1 else if y = Str.ofString "part_list" then some v2 else if y = Str.ofString "name" then some v3 else (if y = Str.ofString "parents" then o1 else if y = Str.ofString "part_list" then o2 else if y = Str.ofString "name" then o3 else if y = Str.ofString "lines_laid" then some (.ref l) else none)) = (if y = Str.ofString "parents" then some v1 else if y = Str.ofString "part_list" then some v2 else if y = Str.ofString "name" then some v3 else if y = Str.ofString "lines_laid" then some (.ref l) else none)
    by_cases h1 : y = Str.ofString "parents"
    · rw [if_pos h1, if_pos h1]
    · by_cases h2 : y = Str.ofString "part_list"
      · rw [if_neg h1, if_pos h2, if_neg h1, if_pos h2]
      · by_cases h3 : y = Str.ofString "name"
        · rw [if_neg h1, if_neg h2, if_pos h3, if_neg h1, if_neg h2, if_pos h3]
        · rw [if_neg h1, if_neg h2, if_neg h3, if_neg h1, if_neg h2, if_neg h3, if_neg h1, if_neg h2, if_neg h3]
  rw [← e]; exact hn
theorem mR_0 {h : Heap} {L l : Nat} (hn : h.Ns L (fun y => if y = Str.ofString "lines_laid" then some (Value.ref l) else none)) : h.Ns L (mR none none none l) := by
  have e : (fun y => if y = Str.ofString "lines_laid" then some (Value.ref l) else none) = mR none none none l := by
    funext y
    show _ = (if y = Str.ofString "parents" then none else if y = Str.ofString "part_list" then none else if y = Str.ofString "name" then none else if y = Str.ofString "lines_laid" then some (Value.ref l) else none)
    by_cases h1 : y = Str.ofString "parents"
    · rw [if_pos h1, if_neg (by rw [h1]; decide)]
    · by_cases h2 : y = Str.ofString "part_list"
      · rw [if_neg h1, if_pos h2, if_neg (by rw [h2]; decide)]
      · by_cases h3 : y = Str.ofString "name"
        · rw [if_neg h1, if_neg h2, if_pos h3, if_neg (by rw [h3]; decide)]
        · rw [if_neg h1, if_neg h2, if_neg h3]
  rw [← e]; exact hn
theorem fresh_of {av : List Nat} {h g : Heap} {l : Nat} (k : KB av h g) (n : l ∉ av) (e : g.get? l = none) : h.get? l = none := by
  cases x : h.get? l with
  | none => rfl
  | some o => have := k _ _ n x; rw [e] at this; cases this
theorem rowsSnoc {h : Heap} {rows : List RowD} {vs : List Value} {v : Value} {r : RowD} (H : RowsAt h rows vs) (x : RowAt h v rows.length r) : RowsAt h (rows ++ [r]) (vs ++ [v]) := by
  refine ⟨by simp [H.1], fun i r' e => ?_⟩
  by_cases hi : i < rows.length
  · rw [List.getElem?_append_left hi] at e
    obtain ⟨v', a, b⟩ := H.2 i r' e
    exact ⟨v', by rw [List.getElem?_append_left (H.1.symm ▸ hi)]; exact a, b⟩
  · have hlt : i < (rows ++ [r]).length := by
      rcases Nat.lt_or_ge i (rows ++ [r]).length with h | h
      · exact h
      · rw [List.getElem?_eq_none h] at e; cases e
    have : i = rows.length := by simp at hlt; lia
    subst this
    simp at e
    subst e
    exact ⟨v, by rw [← H.1]; simp, x⟩
theorem rowNew {g h4 : Heap} {L : Nat} {news : List (Addr × Obj)} (N : News g L h4 news) {D3 T1 T2 I q l i : Nat} {nm : Str} {u : Tok} {vs1 vs2 : List Value} {xs : List (Option Int)} {xs2 : List Nat}
    (m1 : (D3, ({ cls := .type "tuple", data := .seq #[.str nm u, .ref T1, .ref T2] } : Obj)) ∈ news) (m2 : (T1, tupO vs1) ∈ news) (m3 : (T2, tupO vs2) ∈ news) (hn : nm = chr i)
    (hI : ∃ o, h4.get? I = some o ∧ o.cls ≠ .type "tuple") (hq : ∃ o, h4.get? q = some o ∧ o.cls ≠ .type "tuple") (hl : ∃ o, h4.get? l = some o ∧ o.cls ≠ .type "tuple") (h1 : Are PartIs xs vs1) (h2 : Are NmIs xs2 vs2) :
    RowAt (hideAll h4 [I, L, q, l]) (.ref D3) i ⟨xs, xs2⟩ := by
  have nh : ∀ {T : Nat} {o : Obj}, (T, o) ∈ news → o.cls = .type "tuple" → (hideAll h4 [I, L, q, l]).get? T = some o := fun {T o} m hc => by
    refine hideAll_get _ (N _ m).1 fun hm => ?_
    have ne : ∀ a : Nat, (∃ o, h4.get? a = some o ∧ o.cls ≠ .type "tuple") → T ≠ a := fun a ⟨o', e, hc'⟩ q => by
      subst q
      have := (N _ m).1
      rw [e] at this; cases this; exact hc' hc
    simp only [List.mem_cons, List.not_mem_nil, or_false] at hm
    rcases hm with q | q | q | q
    · exact ne _ hI q
    · exact (N _ m).2.1 q
    · exact ne _ hq q
    · exact ne _ hl q
  subst hn
  exact ⟨D3, T1, T2, u, vs1, vs2, rfl, ⟨_, nh m1 rfl, rfl, _, rfl⟩, ⟨_, nh m2 rfl, rfl, _, rfl⟩, h1, ⟨_, nh m3 rfl, rfl, _, rfl⟩, h2⟩
section enter
variable {prog : Program} {w : World} {A : Around} {K : Frag} {p : Program} {loose : List Str} {mean : ExcName → Option Value} {mg mb : Str → Option Value}
  {g₀ : Heap} {s : Shared} {R : Result → Shared → Prop} {own : List (Addr × Obj)} {name qual : Str} {params : Arguments} {body : List Stmt} {scope : Scope}
  {dV kV doc pm cdv ct oc : Value} {an od : Option Addr} {osl : Array (Option Value)} {f : Addr} {args : Args} {binds : List (Str × Value)}

theorem enterC2 (X : K.In g₀) (T : Top p loose mean mg mb g₀) (hg : Sub g₀ s.heap) (hown : ∀ q ∈ own, s.heap.get? q.1 = some q.2 ∧ g₀.get? q.1 = none)
    (ho : K.lookup f = some ⟨oc, od, .func (fnOf name qual params body scope dV kV doc pm an cdv ct), osl⟩) (hcd : codeIn K cdv qual = true) (hroom : A.depth < recursionLimit)
    (hbind : BindsTo s (fnOf name qual params body scope dV kV doc pm an cdv ct) args binds)
    (hkind : (binds.all fun y => scope.names.lookup y.1 == some .local || scope.names.lookup y.1 == some .cell) = true)
    (hnd : ((cellsFrom 0 scope.names []).map (·.1)).Nodup)
    (h : ∀ g L h₁ tk cells, Fr g L h₁ (bindL (envOfC qual scope L f cdv).kindOf binds fun _ => none) → News g L h₁ (cells ++ own) →
      CellsAre (bindC (envOfC qual scope L f cdv).kindOf binds fun _ => none) (cellsFrom (L + 1) scope.names []) cells → K.In g → Top p loose mean mg mb g → (∀ p ∈ own, p.1 < L) →
      KB (own.map (·.1)) s.heap g → Sub g₀ g → s.heap.objs.size ≤ L →
      wpAny (model prog w) (A.deeper (envOfC qual scope L f cdv)) (execs body (envOfC qual scope L f cdv))
        (fun fl s' => R (.ok (.ret (match fl with | .ret v => v | _ => .none))) s') (fun _ _ => False) { s with heap := h₁, toks := tk })
    (hco : scope.isCoroutine = false) (hgen : scope.isGenerator = false) (hk : scope.kind = .function) :
    codeAny (model prog w) A (.call (.ref f) args) R s := by
  refine codeAny_call_function hroom (hg _ _ (X _ _ ho)) rfl hco hgen rfl (codeRec_of (X.keeps hg) hcd) (hbind _ _ _ _ ?_)
  refine wpAny_newFunctionEnv_cells hk (kindsX hkind _) fun env' he s' x => ?_
  subst he
  refine ⟨(T.nolimit.keeps hg).keeps x.toInCall.keep, codeAny_func ?_⟩
  obtain ⟨h₁, tk, rfl, _⟩ := x.done
  have hk₁ := x.toInCall.keep
  have nm : ∀ b o, g₀.get? b = some o → b ∉ own.map (·.1) := fun b o e q => by
    obtain ⟨p, hp, rfl⟩ := List.mem_map.mp q
    rw [(hown p hp).2] at e; cases e
  have st : Sub g₀ (hideAll s.heap (own.map (·.1))) := fun b o e => hideAll_get _ (hg b o e) (nm b o e)
  obtain ⟨cells, NC, Y⟩ := Cl.news (h₀ := s.heap) (Nat.le_refl _) fun n c hm => ⟨x.cell n c (lookup_of_mem_nodup (cellsFrom_names scope.names 0 (s.heap.objs.size + 1) [] [] rfl ▸ hnd) hm), x.above n c hm⟩
  refine wpAny_mono (h (hideAll s.heap (own.map (·.1))) s.heap.objs.size h₁ tk cells ⟨x.toInCall.ns, fun b o e => hk₁ b o (of_hideAll _ e), Nat.le_of_eq (hideAll_size _ _)⟩ (fun p hp => ?_) Y (X.keeps st) (T.keeps st)
    (fun p hp => Heap.lt_size (hown p hp).1) (fun b o n e => hideAll_get _ e n) st (Nat.le_refl _)) (fun _ _ x => x) fun _ _ x => x.elim
  rcases List.mem_append.mp hp with hp | hp
  · refine ⟨(NC p hp).1, (NC p hp).2.1, ?_⟩
    cases q : (hideAll s.heap (own.map (·.1))).get? p.1 with
    | none => rfl
    | some o => have := of_hideAll _ q; rw [(NC p hp).2.2] at this; cases this
  · exact ⟨hk₁ _ _ (hown p hp).1, Nat.ne_of_lt (Heap.lt_size (hown p hp).1), hideAll_none _ (List.mem_map_of_mem hp)⟩
end enter
inductive RJ (L l q c k I : Nat) (co : Obj) (i : Nat) (h : Heap) : Prop
  | mk (o1 : Option Value) (o2 : Option Value) (o3 : Option Value) (po' : Obj) (rows : List RowD) (vs : List Value) (n : Nat) (f1 : h.Ns L (mR o1 o2 o3 l)) (f2 : h.get? l = some (listOf (List.toArray vs) n)) (f3 : h.get? q = some po') (f4 : PotO c (k + 9 * i) po') (f5 : RowsAt (hideAll h [I, L, q, l]) rows vs) (f6 : rows.length = i) (f7 : (∀ r ∈ rows, r.Good)) (f8 : h.get? (L + 1) = some co)
set_option maxHeartbeats 8000000 in
theorem rows_ok {w : World} {mean : ExcName → Option Value} {mg mb : Str → Option Value} {g₀ : Heap} {s : Shared} {dp un : Nat} {fr : Option (List Env)} {gd : Option (List Code)} {R : Result → Shared → Prop}
    {q c : Nat} {po : Obj} {k : Nat} {cs : List Value} {ns : List Int}
    (G : Gd w mean mg mb g₀) (hs : Sub g₀ s.heap) (hq : s.heap.get? q = some po) (hgq : g₀.get? q = none) (hpo : PotO c k po) (hp : PotG s.heap c cs ns) (hcq : c ≠ q)
    (hk : k < 100) (hdp : dp < 800) (hun : un < 900)
    (ret : ∀ (l : Nat) vs n rows h' tk' po', KB [q] s.heap h' → h'.get? q = some po' → PotO c (k + 9 * 5) po' → s.heap.get? l = none → s.heap.objs.size ≤ l → h'.get? l = some (W.listOf (List.toArray vs) n) → RowsAt h' rows vs → rows.length = 5 → (∀ r ∈ rows, r.Good) →
      R (.ok (.ret (.ref l))) { s with heap := h', toks := tk' }) :
    codeAny (model Pg w) (Ar dp un fr gd) (.call (.ref 101) ⟨[.ref q], []⟩) R s := by
  obtain ⟨X, T⟩ := G
  have hrw : PySem.Challenge.rw_np0001_01 = PySem.Challenge.rw_np0001_01 := rfl
  revert X hrw
  k_fill
  intro X hrw
  refine enterC2 (binds := [(Str.ofString "pot", Value.ref q)]) (own := [(q, po)]) X T hs ?ko (by k_is) (by k_is) ?kr (BindsTo.of_eq (by with_unfolding_all rfl)) (by exact rfl) (by decide +kernel) ?kb rfl rfl rfl
  case ko => intro p hp; obtain rfl := List.mem_singleton.mp hp; exact ⟨hq, hgq⟩
  case kr => show dp < recursionLimit; simp only [recursionLimit]; lia
  case kb =>
    intro g L h₁ tk cells F N Y X' T' hlt lift hsg hLs
    clear X T hs hrw
    obtain ⟨co, rfl, hco⟩ := CellsAre.one Y
    clear Y
    replace hco : co.data = .cell (some (.ref q)) := by with_unfolding_all exact hco
    have F : Fr g L h₁ (fun _ => none) := by with_unfolding_all exact F
    simp only [List.cons_append, List.nil_append] at N
    have qlt : (q : Nat) < L := ltN (hlt (q, po) (List.mem_singleton.mpr rfl))
    have cq : L + 1 ≠ q := neN (by lia)
    have hL : g.objs.size ≤ L := F.above
    have hpg : PotG g c cs ns := ⟨isListKB lift (by simp [hcq]) hp.hc, hp.hi, hp.hlen⟩
    refine stmtH fun Q1 k1 k2 => ?_
    k_steps
    refine k1 _ (fun tk => ?_) _
    clear k1 k2 Q1
    rename_i l hA l1 hB F N
    (revert l; intro (l : Nat); set_option tactic.hygienic false in intros)
    refine stmtH fun Q1 k1 k2 => ?_
    k_steps
    refine wpAny_pyIter_ascii (by decide +kernel) ?_
    dsimp only
    generalize hI : hB.objs.size = I
    have cI : I ≠ L + 1 := by intro e; have h1 := ltSz (N (L + 1, co) (by first | k_mem | simp)).1; rw [hI] at h1; exact Nat.ne_of_lt h1 e.symm
    have gq : g.get? q = none := (N (q, po) (by first | k_mem | simp)).2.2
    have gl : g.get? l = none := (N (l, _) (.head _)).2.2
    have gI : g.get? I = none := fresh_none F.keep (Nat.le_of_eq hI)
    have qI : q ≠ I := by intro e; have h1 := ltSz (N (q, po) (by first | k_mem | simp)).1; rw [hI] at h1; exact Nat.ne_of_lt h1 e
    have lI : l ≠ I := by intro e; have h1 := ltSz (N (l, _) (.head _)).1; rw [hI] at h1; exact Nat.ne_of_lt h1 e
    have LI : L ≠ I := by intro e; have h1 := F.ns.lt; rw [hI] at h1; exact Nat.ne_of_lt h1 e
    have qL : q ≠ L := (N (q, po) (by first | k_mem | simp)).2.1
    have lL : l ≠ L := (N (l, _) (.head _)).2.1
    refine ⟨I, [I], [I], [q, l], _, _, _, RJ L l q c k I co, rfl, ItS.of (Walks.strAscii rfl I (Str.ofString "pqrst") tk), ?_, ?_, ?_, ?_, ?_, ?_, ?_⟩
    · rw [← hI]; exact ⟨_, Heap.get?_push_size _ rfl, rfl, rfl⟩
    · intro b hb; simp at hb ⊢; rcases hb with hb | hb <;> replace hb := hb.symm <;> subst hb <;> assumption
    · show L ∉ [I]; simpa using LI
    · refine ⟨none, none, none, po, [], [], 0, ?_, Heap.get?_push_of_some _ (N (l, _) (.head _)).1, Heap.get?_push_of_some _ (N (q, po) (by first | k_mem | simp)).1, by simpa using hpo, ⟨rfl, fun i r e => by simp at e⟩, rfl, by simp, Heap.get?_push_of_some _ (N (L + 1, co) (by first | k_mem | simp)).1⟩
      exact mR_0 (F.ns.at' fun o e => Heap.get?_push_of_some _ e)
    · rintro i h h' ⟨o1, o2, o3, po', rows, vs, n, hn, hl, hq', hpo', hrows, hrl, hgood, hcell⟩ kb
      exact ⟨o1, o2, o3, po', rows, vs, n, hn.at' fun o e => kb _ _ (by simpa using LI) e, kb _ _ (by simpa using lI) hl, kb _ _ (by simpa using qI) hq', hpo', hrows.sub (hide_sub (kb.mono (by first | k_mem | simp))), hrl, hgood, kb _ _ (by simpa using Ne.symm cI) hcell⟩
    · intro i v h tk hi hPt5 hst' hPt7 hkb
      refine turnQ fun Qc kc => ?_
      obtain ⟨ch, u, hch, rfl⟩ := hPt5
      obtain ⟨o1, o2, o3, po', rows, vs, n, hn, hl, hq', hpo', hrows, hrl, hgood, hcell⟩ := hPt7
      dsimp only at hkb ⊢
      have hi5 : i < 5 := Nat.lt_of_lt_of_eq hi (by decide +kernel)
      have hkb' : KB (L :: [q, l, I]) hB h := fun b o nb e => hkb b o (by show b ∉ L :: ([q, l] ++ [I]); first | exact nb | simpa using nb) (Heap.get?_push_of_some _ e)
      have hsub : Sub g h := subTurn F (by simp [gq, gl, gI]) hkb'
      have ln : L + 1 ≠ L := neN (by lia)
      obtain ⟨frz, F2, N2, off, infrz, kback⟩ := kmode (own := [(l, listOf (List.toArray vs) n), (L + 1, co), (q, po')]) hn hsub F.above (by
        refine fa3 ?_ ?_ ?_
        · exact ⟨hl, lL, gl⟩
        · exact ⟨hcell, ln, (N (L + 1, co) (by first | k_mem | simp)).2.2⟩
        · exact ⟨hq', qL, gq⟩)
      simp only [List.cons_append, List.nil_append] at N2
      have off_l : ∀ p ∈ frz, p.1 ≠ l := fun p hp e => off p hp (by simp [e])
      have off_q : ∀ p ∈ frz, p.1 ≠ q := fun p hp e => off p hp (by simp [e])
      have off_c : ∀ p ∈ frz, p.1 ≠ L + 1 := fun p hp e => off p hp (by simp [e])
      have cIn : I ≠ L + 1 := cI
      have lqn : (q : Nat) < l := ltN l1.2
      have lcn : (L + 1 : Nat) < l := ltN l1.1
      have hvl : vs.length ≤ 1000 := by have := hrows.1; lia
      have lq : l ≠ q := neN (by lia)
      clear F N
      refine wpAny_assign_Name (storeX_L F2 N2 (fun h3 F N => ?_) rfl (by with_unfolding_all rfl))
      clear F2 N2
      refine stmtH fun Q2 k3 k4 => ?_
      k_steps
      dsimp only
      refine dip_comp (P := PartIs) (good := fun _ => True) (n := 6) (q := q) (cc := L + 1) (co := co) (by assumption) X' T' (by assumption) (by assumption) (by k_updF) (by first | k_mem | simp) cq hpo' hpg rfl (by decide) rfl rfl (by with_unfolding_all rfl) ?_ ?_
      · intro gB C hh tkk m₂ po2 k' frz' hk1 hk2 XB TB pgB FB NB offB cq hpo2
        have off_q : ∀ p ∈ frz', p.1 ≠ q := offB
        clear hkb hkb' hsub kback infrz off
        k_steps
        rename News _ _ _ _ => N9
        rename Fr _ _ _ _ => F9
        have N9' := newsMono N9 (fun p hp => List.mem_cons_of_mem _ hp)
        rename _ ∈ _ => hv'
        simp only [List.mem_cons, List.not_mem_nil, or_false] at hv'
        rcases hv' with rfl | rfl | rfl | rfl | rfl
        · exact ⟨none, _, _, _, _, rfl, F9, N9', by assumption, rfl, trivial⟩
        · exact ⟨none, _, _, _, _, rfl, F9, N9', by assumption, rfl, trivial⟩
        · exact ⟨some 1, _, _, _, _, rfl, F9, N9', by assumption, ⟨_, rfl⟩, trivial⟩
        · exact ⟨some 2, _, _, _, _, rfl, F9, N9', by assumption, ⟨_, rfl⟩, trivial⟩
        · exact ⟨some 3, _, _, _, _, rfl, F9, N9', by assumption, ⟨_, rfl⟩, trivial⟩
      · intro h2 xs ys D C av h' tk' po2 e F' N' lD hpo2 hlen hP hg
        dsimp only
        have hys : ys.length ≤ 100 := by have := hP.length; lia
        have qD : (q : Nat) < D := ltN (lD (q, po') (by first | k_mem | simp))
        have lD' : (l : Nat) < D := ltN (lD (l, _) (by k_mem))
        have cD : (L + 1 : Nat) < D := ltN (lD (L + 1, _) (by k_mem))
        have off_D : ∀ p ∈ frz, p.1 ≠ D := fun p hp => Nat.ne_of_lt (lD p (by repeat (first | exact hp | exact List.mem_append_left _ hp | exact List.mem_append_right _ hp | refine List.Mem.tail _ ?_)))
        clear lD hg
        k_steps
        refine k3 _ (fun tk3 => ?_) _
        clear k3 k4 Q2
        refine stmtH fun Q2 k3 k4 => ?_
        k_steps
        rename IsRange _ _ _ _ _ _ _ _ => hR
        dsimp only at hR ⊢
        rename News _ _ _ _ => N9
        rename Fr _ _ _ _ => F9
        rename PotO _ _ _ => hpo9
        obtain ⟨nn, hnn, hn2⟩ : ∃ nn : Nat, ([0, 1, 0, 2] : List Int).getD (Int.toNat _) 0 = (nn : Int) ∧ nn ≤ 2 := pick4 (by assumption) (by assumption)
        refine dip_comp (P := NmIs) (good := (· < 6)) (n := nn) (q := q) (cc := L + 1) (co := co) hR X' T' F9 N9 (by k_updF) (by first | k_mem | simp) cq hpo9 hpg hnn (by lia) rfl rfl (by with_unfolding_all rfl) ?_ ?_
        · intro gB C hh tkk m₂ po2 k' frz' hk1 hk2 XB TB pgB FB NB offB cq hpo2
          have off_q : ∀ p ∈ frz', p.1 ≠ q := offB
          clear hkb hkb' hsub kback infrz off
          k_steps
          rename News _ _ _ _ => N8
          rename Fr _ _ _ _ => F8
          rename (0 : Int) ≤ _ => r0
          rename _ < (6 : Int) => r6
          exact elt6 F8 N8 (by assumption) r0 r6
        · intro h2 xs2 ys2 D2 C2 av2 h' tk' po2 e2 F' N' lD hpo2 hlen2 hP2 hg2
          dsimp only
          have hys2 : ys2.length ≤ 100 := by have := hP2.length; lia
          have qD2 : (q : Nat) < D2 := ltN (lD (q, _) (by k_mem))
          have lD2 : (l : Nat) < D2 := ltN (lD (l, _) (by k_mem))
          have cD2 : (L + 1 : Nat) < D2 := ltN (lD (L + 1, _) (by k_mem))
          have off_D2 : ∀ p ∈ frz, p.1 ≠ D2 := fun p hp => Nat.ne_of_lt (lD p (by repeat (first | exact hp | exact List.mem_append_left _ hp | exact List.mem_append_right _ hp | refine List.Mem.tail _ ?_)))
          clear lD
          k_steps
          refine k3 _ (fun tk3 => ?_) _
          clear k3 k4 Q2
          refine stmtH fun Q2 k3 k4 => ?_
          k_steps
          rename_i D3 hX l3 h4 F4 N4
          (revert D3; intro (D3 : Nat); set_option tactic.hygienic false in intros)
          refine k3 _ (fun tk4 => ?_) _
          clear k3 k4 Q2
          refine wpAny_execs_nil ?_
          obtain ⟨oI, hoI, hcI, _⟩ := id hst'
          have fI := infrz I oI hoI LI.symm (by simp; exact ⟨Ne.symm lI, cIn, Ne.symm qI⟩) gI
          have hI4 := (N4 (I, oI) (by simp [fI])).1
          have kb4 := kback h4 _ _ F4 N4 (fun p hp => by repeat (first | exact hp | exact List.mem_append_left _ hp | exact List.mem_append_right _ hp | refine List.Mem.tail _ ?_))
          have hl4 := (N4 (l, _) (by k_mem)).1
          have hq4 := (N4 (q, _) (by k_mem)).1
          have kb5 : KB [L, q, l] h h4 := fun b o nb e => by
            by_cases hb : b = L + 1
            · subst hb; rw [hcell] at e; cases e; exact (N4 (L + 1, _) (by k_mem)).1
            · simp at nb; exact kb4 b o (by simp; exact ⟨nb.1, nb.2.2, hb, nb.2.1⟩) e
          have hsg' : Sub (hideAll h [I, L, q, l]) (hideAll h4 [I, L, q, l]) := hide_sub (kb5.mono (by first | k_mem | simp))
          have hnr : RowAt (hideAll h4 [I, L, q, l]) (.ref D3) i ⟨xs, xs2⟩ := rowNew N4 (.head _) (by k_mem) (by k_mem) (chI hi5 hch) ⟨_, hI4, by rw [hcI]; decide⟩ ⟨_, hq4, by rw [hpo2.cls]; decide⟩ ⟨_, hl4, by show (Value.type "list") ≠ .type "tuple"; decide⟩ hP hP2
          refine kc _ ⟨h4, tk4, rfl, kb5, _, _, _, po2, rows ++ [⟨xs, xs2⟩], vs ++ [.ref D3], n + 1, mR_step F4.ns, by rw [List.push_toArray] at hl4; exact hl4, hq4, hpo2.le (by lia), ?_, by simp [hrl], ?_, (N4 (L + 1, _) (by k_mem)).1⟩
          · exact rowsSnoc (hrows.sub hsg') (hrl ▸ hnr)
          · intro r hr
            rcases List.mem_append.mp hr with hr | hr
            · exact hgood r hr
            · rw [List.mem_singleton.mp hr]; exact ⟨hlen, by show xs2.length ≤ 2; lia, hg2⟩
    · rintro h tk ⟨o1, o2, o3, po', rows, vs, n, hn, hl, hq', hpo', hrows, hrl, hgood, hcell⟩ hkb
      have hkb' : KB (L :: [q, l, I]) hB h := fun b o nb e => hkb b o (by show b ∉ L :: ([q, l] ++ [I]); first | exact nb | simpa using nb) (Heap.get?_push_of_some _ e)
      have hsub : Sub g h := subTurn F (by simp [gq, gl, gI]) hkb'
      have hret := fun tk => ret l vs n rows h tk po' (fun b o nb e => hsub b o (lift b o (by first | exact nb | simpa using nb) e)) hq' (by
        have e : (Str.ofString "pqrst").cps.size = 5 := by decide +kernel
        rw [e] at hpo'; exact hpo') (fresh_of lift (by simpa using Ne.symm (neN (by have := ltN l1.2; lia) : q ≠ l)) gl) (by have := ltN l1.1; lia) hl (hrows.sub hide_self) (by rw [hrl]; decide +kernel) hgood
      obtain ⟨frz, F2, N2, off, infrz, kback⟩ := kmode (own := []) hn hsub F.above (by first | k_mem | simp)
      refine k1 _ (fun tk => ?_) _
      clear k1 k2 Q1 F N
      k_steps
      all_goals exact hret _
end Mine

end
section
open PySem PySem.Spec PySem.Calls PySem.W PyProof.Rows
set_option Elab.async false
set_option maxRecDepth 100000
namespace Mine
theorem kxPot : True := by
  k_with_none
  k_with "ne" => (refine neN ?_; (try dsimp only); first | with_reducible assumption | exact Ne.symm (by with_reducible assumption) | exact Nat.ne_of_lt (by with_reducible assumption) | exact Nat.ne_of_gt (by with_reducible assumption) | lia)
  k_with "mem" => first | exact nm0 | (refine nmC ?_ ?_; k_ne; k_mem) | (refine inL ?_; k_mem) | exact fa0 | (refine faC ?_ ?_; k_mem; k_mem)
  trivial
set_option maxHeartbeats 8000000 in
theorem pot_ok {w : World} {mean : ExcName → Option Value} {mg mb : Str → Option Value} {g₀ : Heap} {s : Shared} {dp un : Nat} {fr : Option (List Env)} {gd : Option (List Code)} {R : Result → Shared → Prop}
    {l : Nat} {vs : List Value} {ns : List Int}
    (G : Gd w mean mg mb g₀) (hs : Sub g₀ s.heap) (hl : g₀.IsList l vs.toArray) (hi : IntsAre vs ns) (hlen : ns.length ≤ 63)
    (hdp : dp < 800) (hun : un < 900)
    (ret : ∀ (q c : Nat) po cs ns' h' tk', KB [] s.heap h' → s.heap.get? q = none → s.heap.get? c = none → h'.get? q = some po → PotO c 0 po → PotG h' c cs ns' → c ≠ q →
      R (.ok (.ret (.ref q))) { s with heap := h', toks := tk' }) :
    codeAny (model Pg w) (Ar dp un fr gd) (.call (.ref 89) ⟨[.ref l], []⟩) R s := by
  obtain ⟨X, T⟩ := G
  have hrw : PySem.Challenge.rw_np0001_01 = PySem.Challenge.rw_np0001_01 := rfl
  revert X hrw
  k_fill
  intro X hrw
  refine enter0 (binds := [(Str.ofString "script", Value.ref l)]) (own := []) X T hs ?ko (by k_is) (by k_is) ?kr (BindsTo.of_eq (by with_unfolding_all rfl)) (locs rfl) ?kb (by decide) rfl rfl rfl
  case ko => simp
  case kr => show dp < recursionLimit; simp only [recursionLimit]; lia
  case kb =>
    intro g L h₁ F N X' T' hlt lift hsg
    clear X T hs hrw
    have hlg : g.IsList l vs.toArray := isListUp hsg hl
    k_steps
    rename_i hI8 hL8 D2 h2 tk2 o1 h3 tk3 t3 q4 h4 F9 N9 l9
    have hgn : ∀ a : Nat, g.get? a = none → s.heap.get? a = none := fun a e => fresh_of lift (by first | k_mem | simp) e
    have a1 := Int.fmod_nonneg_of_pos (List.map (fun k' => (if k' < 0 then -k' else k').fmod 1000003) (List.take 48 ns)).sum (show (0 : Int) < 65519 by decide)
    have a2 := Int.fmod_lt_of_pos (List.map (fun k' => (if k' < 0 then -k' else k').fmod 1000003) (List.take 48 ns)).sum (show (0 : Int) < 65519 by decide)
    refine ret _ _ _ _ _ _ _ (exitKB lift F9) (hgn _ (N9 _ (.head _)).2.2) (hgn _ (N9 _ (.tail _ (.head _))).2.2) (N9 _ (.head _)).1 ⟨0, _, _, _, 0, rfl, Int.le_refl _, Int.le_refl _, by lia, by lia⟩
      ⟨⟨_, (N9 _ (.tail _ (.head _))).1, rfl, _, rfl⟩, hI8, by simp; lia⟩ (Nat.ne_of_lt l9.1)
end Mine

end
section
open PySem PySem.Spec PySem.Calls PySem.W PyProof.Rows
set_option Elab.async false
set_option maxRecDepth 100000
namespace Mine

theorem kxDi : True := by
  k_with_none
  k_with "ne" => (refine neN ?_; (try dsimp only); first | with_reducible assumption | exact Ne.symm (by with_reducible assumption) | exact Nat.ne_of_lt (by with_reducible assumption) | exact Nat.ne_of_gt (by with_reducible assumption) | lia)
  k_with "mem" => first | exact nm0 | (refine nmC ?_ ?_; k_ne; k_mem) | (refine inL ?_; k_mem) | exact fa0 | (refine faC ?_ ?_; k_mem; k_mem)
  trivial
noncomputable abbrev emptyD : Obj := { cls := .type "dict", data := .dict #[] }
section
variable {prog : Program} {w : World} {A : Around} {E : Value → Shared → Prop} {s : Shared} {g : Heap} {L : Nat} {m : Str → Option Value} {news : List (Addr × Obj)} {gN : Obj → List (Addr × Obj)} {d : Nat} {o : Obj}

theorem dict1 {env : Env} {k v : Expr} {pos : Pos} {Q : Value → Shared → Prop} (F : Fr g L s.heap m) (N : News g L s.heap news)
    (h : ∀ (D : Nat) h1, Fr g L h1 m → News g L h1 ((D, emptyD) :: news) → (∀ p ∈ news, p.1 < D) →
      wpAny (model prog w) A (eval k env) (fun kv s₁ => wpAny (model prog w) A (eval v env) (fun vv s₂ => wpAny (model prog w) A (dictSet D kv vv) (fun _ s₃ => Q (.ref D) s₃) E s₂) E s₁) E { s with heap := h1 }) :
    wpAny (model prog w) A (eval (.Dict [some k] [v] pos) env) Q E s := by
  refine wpAny_Dict_any rfl rfl (by first | k_mem | simp) (by first | k_mem | simp) ?_
  obtain ⟨F', N', l'⟩ := news_add F N (fun b o e => Heap.get?_push_of_some emptyD e) (Nat.le_refl _) (Heap.get?_push_size _ rfl)
  refine pairTrees_cons_walk (wpAny_mono (h _ _ F' N' l') (fun kv s₁ h₁ => wpAny_mono h₁ (fun vv s₂ h₂ => pairTrees_nil_walk ?_) fun _ _ e => e) fun _ _ e => e)
  unfold storeAll
  rw [List.forIn_cons]
  refine wpAny_bind (wpAny_bind (wpAny_mono h₂ (fun _ s₃ h₃ => wpAny_pure ?_) fun _ _ e => e))
  dsimp only
  rw [List.forIn_nil]
  exact wpAny_pure h₃

theorem dset_str {kvs : List (Str × Value)} {x : Str} {t : Tok} {v : Value} {Q : Unit → Shared → Prop} (F : Fr g L s.heap m) (N : News g L s.heap news) (U : UpdF d o news gN)
    (hd : o.IsDictOf (strKind prog w) kvs) (hsz : kvs.length ≤ 1000)
    (h : ∀ h' o', Fr g L h' m → News g L h' (gN o') → o'.IsDictOf (strKind prog w) (stored kvs x v) → Q () { s with heap := h', toks := s.toks + 1 }) :
    wpAny (model prog w) A (dictSet d (.str x t) v) Q E s := by
  refine wpAny_dictSet_pairs (hsz := by rw [sizeLine_eq]; lia) (strKind_is prog w x t) (Heap.dictOf_iff.mpr ⟨o, (N _ (updF_mem U)).1, hd⟩) fun h' hm hs => ?_
  obtain ⟨o', ho', hd'⟩ := Heap.dictOf_iff.mp hm
  obtain ⟨F', N'⟩ := upd_fr F N U (KB.of_sameBut hs) ho'
  exact h h' o' F' N' hd'
theorem sset_str {kvs : List (Str × Value)} {x : Str} {t : Tok} {v : Value} {Q : Unit → Shared → Prop} (F : Fr g L s.heap m) (N : News g L s.heap news) (U : UpdF d o news gN)
    (hd : o.IsDictOf (strKind prog w) kvs) (hsz : kvs.length ≤ 1000)
    (h : ∀ h' o', Fr g L h' m → News g L h' (gN o') → o'.IsDictOf (strKind prog w) (stored kvs x v) → Q () { s with heap := h', toks := s.toks + 1 }) :
    wpAny (model prog w) A (setItem (.ref d) (.str x t) v) Q E s := by
  refine wpAny_setItem_pairs (hsz := by rw [sizeLine_eq]; lia) (strKind_is prog w x t) (Heap.dictOf_iff.mpr ⟨o, (N _ (updF_mem U)).1, hd⟩) fun h' hm hs => ?_
  obtain ⟨o', ho', hd'⟩ := Heap.dictOf_iff.mp hm
  obtain ⟨F', N'⟩ := upd_fr F N U (KB.of_sameBut hs) ho'
  exact h h' o' F' N' hd'

noncomputable abbrev TK (prog : Program) (w : World) : HeapKind prog w (List Int) := tupleKind (intKind prog w)
def TDo (prog : Program) (w : World) (o : Obj) (xs : List (List Int × Addr × Value)) : Prop :=
  o.ExactDict ∧ ∃ es ep, o.data = .dict es ep ∧ es.toList = xs.map (entryOfKey (TK prog w)) ∧ (xs.map (·.1)).Nodup
theorem TDo.at {h : Heap} {xs : List (List Int × Addr × Value)} (x : TDo prog w o xs) (e : h.get? d = some o) (hk : ∀ x ∈ xs, IsTupleKey (intKind prog w) h x.1 x.2.1) : h.DictOfH (TK prog w) d xs :=
  let ⟨a, es, ep, b, c, e'⟩ := x; ⟨o, es, ep, e, a, b, c, hk, e'⟩
theorem TDo.of {h : Heap} {xs : List (List Int × Addr × Value)} (x : h.DictOfH (TK prog w) d xs) : ∃ o, h.get? d = some o ∧ TDo prog w o xs :=
  let ⟨o, es, ep, e, a, b, c, _, e'⟩ := x; ⟨o, e, a, es, ep, b, c, e'⟩
theorem emptyD_T : TDo prog w emptyD [] := ⟨⟨rfl, rfl, rfl⟩, #[], 0, rfl, rfl, List.nodup_nil⟩
theorem emptyD_S : emptyD.IsDictOf (strKind prog w) [] := by
  obtain ⟨o, ho, hd⟩ := Heap.dictOf_iff.mp (Heap.DictOf.new (knd := strKind prog w) (default : Heap))
  rw [Heap.get?_push_size _ rfl] at ho
  injection ho with ho
  rw [← ho] at hd
  exact hd
theorem dset_tup {xs : List (List Int × Addr × Value)} {a : Nat} {ks : List Int} {v : Value} {Q : Unit → Shared → Prop} (F : Fr g L s.heap m) (N : News g L s.heap news) (U : UpdF d o news gN) (hu : A.units < cLine)
    (hd : TDo prog w o xs) (hk : ∀ x ∈ xs, IsTupleKey (intKind prog w) s.heap x.1 x.2.1) (ha : IsTupleKey (intKind prog w) s.heap ks a) (hsz : xs.length ≤ 1000)
    (h : ∀ h' o' tk, Fr g L h' m → News g L h' (gN o') → TDo prog w o' (storedH xs ks a v) → Q () { s with heap := h', toks := tk }) :
    wpAny (model prog w) A (dictSet d (.ref a) v) Q E s := by
  refine wpAny_dictSet_heap (hsz := by rw [sizeLine_eq]; lia) (knd := TK prog w) hu ha (hd.at (N _ (updF_mem U)).1 hk) fun h' hm hs => ?_
  obtain ⟨o', ho', hd'⟩ := TDo.of hm
  obtain ⟨F', N'⟩ := upd_fr F N U (KB.of_sameBut hs) ho'
  exact h h' o' _ F' N' hd'
theorem sset_tup {xs : List (List Int × Addr × Value)} {a : Nat} {ks : List Int} {v : Value} {Q : Unit → Shared → Prop} (F : Fr g L s.heap m) (N : News g L s.heap news) (U : UpdF d o news gN) (hu : A.units + 1 < cLine)
    (hd : TDo prog w o xs) (hk : ∀ x ∈ xs, IsTupleKey (intKind prog w) s.heap x.1 x.2.1) (ha : IsTupleKey (intKind prog w) s.heap ks a) (hsz : xs.length ≤ 1000)
    (h : ∀ h' o' tk, Fr g L h' m → News g L h' (gN o') → TDo prog w o' (storedH xs ks a v) → Q () { s with heap := h', toks := tk }) :
    wpAny (model prog w) A (setItem (.ref d) (.ref a) v) Q E s := by
  refine wpAny_setItem_heap (hsz := by rw [sizeLine_eq]; lia) (knd := TK prog w) (tupleKind_room_in1 hu) ha (hd.at (N _ (updF_mem U)).1 hk) fun h' hm hs => ?_
  obtain ⟨o', ho', hd'⟩ := TDo.of hm
  obtain ⟨F', N'⟩ := upd_fr F N U (KB.of_sameBut hs) ho'
  exact h h' o' _ F' N' hd'
theorem notin_str {kvs : List (Str × Value)} {x : Str} {t : Tok} {Q : Value → Shared → Prop} (hl : (d == sysModules) = false) (N : News g L s.heap news) (hm : (d, o) ∈ news) (hd : o.IsDictOf (strKind prog w) kvs)
    (h : Q (.bool (!(valueAt kvs x).isSome)) { s with toks := s.toks + 1 }) : wpAny (model prog w) A (compareOp .NotIn (.str x t) (.ref d)) Q E s :=
  wpAny_notIn_of (strKind_is prog w x t) hl (Heap.DictOf.mapOf (Heap.dictOf_iff.mpr ⟨o, (N _ hm).1, hd⟩)) h
theorem in_str {kvs : List (Str × Value)} {x : Str} {t : Tok} {Q : Value → Shared → Prop} (hl : (d == sysModules) = false) (N : News g L s.heap news) (hm : (d, o) ∈ news) (hd : o.IsDictOf (strKind prog w) kvs)
    (h : Q (.bool (valueAt kvs x).isSome) { s with toks := s.toks + 1 }) : wpAny (model prog w) A (compareOp .In (.str x t) (.ref d)) Q E s :=
  wpAny_in_of (strKind_is prog w x t) hl (Heap.DictOf.mapOf (Heap.dictOf_iff.mpr ⟨o, (N _ hm).1, hd⟩)) h
theorem item_str {value slice : Expr} {kvs : List (Str × Value)} {x : Str} {t : Tok} {v : Value} {Q : Value → Shared → Prop} (N : News g L s.heap news) (hm : (d, o) ∈ news) (hd : o.IsDictOf (strKind prog w) kvs)
    (hv : valueAt kvs x = some v) (h : Q v { s with toks := s.toks + 1 })
    (hs : subscripted slice false (.ref d) (.str x t) = operate [.ref d, .str x t] (getItem (.ref d) (.str x t))) (hg : ∀ r, letTemporaryGo value (.ref d) r = pure ()) :
    wpAny (model prog w) A (subscriptTail value slice (.ref d) (.str x t)) Q E s := by
  have hD : s.heap.DictOf (strKind prog w) d kvs := Heap.dictOf_iff.mpr ⟨o, (N _ hm).1, hd⟩
  exact subscriptTail_builtin hD.typeIs slot_dict_getitem.lookup (wpAny_getItem_of (strKind_is prog w x t) hD.mapOf hv h) hs hg
end
end Mine
namespace Mine
theorem IsTupleKey.up {prog : Program} {w : World} {g h : Heap} {ks : List Int} {a : Nat} (x : IsTupleKey (intKind prog w) g ks a) (s : Sub g h) : IsTupleKey (intKind prog w) h ks a :=
  let ⟨o, items, n, e, r⟩ := x; ⟨o, items, n, s _ _ e, r⟩
theorem plainKey {w : World} {g : Heap} (X : (hd.heap_39 w.params).In g) : IsTupleKey (intKind Pg w) g [0, 0, 0, 0, 0, 0] 15 := by
  have hrw : PySem.Challenge.rw_np0001_01 = PySem.Challenge.rw_np0001_01 := rfl
  revert X hrw
  k_fill
  intro X hrw
  have h := X 15 _ (by k_is)
  refine ⟨_, _, _, h, rfl, rfl, ?_⟩
  exact .cons (by with_unfolding_all rfl) (.cons (by with_unfolding_all rfl) (.cons (by with_unfolding_all rfl) (.cons (by with_unfolding_all rfl) (.cons (by with_unfolding_all rfl) (.cons (by with_unfolding_all rfl) .nil)))))
end Mine

end
section
set_option Elab.async false
open PySem
namespace Mine

theorem kxPl : True := by
  k_with_none
  k_with "ne" => (refine neN ?_; (try dsimp only); first | with_reducible assumption | exact Ne.symm (by with_reducible assumption) | exact Nat.ne_of_lt (by with_reducible assumption) | exact Nat.ne_of_gt (by with_reducible assumption) | lia)
  k_with "mem" => first | exact nm0 | (refine nmC ?_ ?_; k_ne; k_mem) | (refine inL ?_; k_mem) | exact fa0 | (refine faC ?_ ?_; k_mem; k_mem)
  trivial
/-- the walk over names, depth first: stack, met so far, met at the end -/
inductive Go (tab : Str → Option (List Str)) : List Str → List Str → List Str → Prop
  | nil (met) : Go tab [] met met
  | skip {n rest met r} : (tab n = none ∨ n ∈ met) → Go tab rest met r → Go tab (n :: rest) met r
  | take {n ps rest met r} : tab n = some ps → n ∉ met → Go tab (ps ++ rest) (met ++ [n]) r → Go tab (n :: rest) met r

namespace Go
variable {tab : Str → Option (List Str)}
theorem det {st met r} (h : Go tab st met r) : ∀ {r'}, Go tab st met r' → r = r' := by
  induction h with
  | nil => intro r' h; cases h; rfl
  | skip hs _ ih =>
    intro r' h
    cases h with
    | skip _ h => exact ih h
    | take ht hn _ => rcases hs with h | h
                      · first | exact nS (h) ht | (rw [h] at ht; cases ht)
                      · exact absurd h hn
  | take ht hn _ ih =>
    intro r' h
    cases h with
    | skip hs h => rcases hs with h | h
                   · first | exact nS (h) ht | (rw [h] at ht; cases ht)
                   · exact absurd h hn
    | take ht' _ h => rw [ht] at ht'; cases ht'; exact ih h
theorem append {a met r1} (h : Go tab a met r1) : ∀ {b r}, Go tab b r1 r → Go tab (a ++ b) met r := by
  induction h with
  | nil => intro b r h; exact h
  | skip hs _ ih => intro b r h; exact .skip hs (ih h)
  | take ht hn _ ih => intro b r h; exact .take ht hn (by have := ih h; rw [List.append_assoc] at this; exact this)
theorem keeps {st met r} (h : Go tab st met r) : ∀ n ∈ met, n ∈ r := by
  induction h with
  | nil => intro n h; exact h
  | skip _ _ ih => exact ih
  | take _ _ _ ih => intro n h; exact ih n (List.mem_append_left _ h)
theorem has {st met r} (h : Go tab st met r) : ∀ n ∈ st, (tab n).isSome = true → n ∈ r := by
  induction h with
  | nil => intro n h; cases h
  | skip hs hg ih =>
    intro n h hn
    rcases List.mem_cons.mp h with rfl | h
    · rcases hs with hs | hs
      · first | exact nS (hs) hn | (rw [hs] at hn; cases hn)
      · exact hg.keeps _ hs
    · exact ih n h hn
  | take ht _ hg ih =>
    intro n h hn
    rcases List.mem_cons.mp h with rfl | h
    · exact hg.keeps _ (List.mem_append_right _ (.head _))
    · exact ih n (List.mem_append_right _ h) hn
theorem known {st met r} (h : Go tab st met r) : ∀ n ∈ r, n ∈ met ∨ (tab n).isSome = true := by
  induction h with
  | nil => intro n h; exact .inl h
  | skip _ _ ih => exact ih
  | take ht _ _ ih =>
    intro n h
    rcases ih n h with h | h
    · rcases List.mem_append.mp h with h | h
      · exact .inl h
      · rw [List.mem_singleton.mp h, ht]; exact .inr rfl
    · exact .inr h
/-- a name that nobody names may be known or not -/
theorem other {tab' : Str → Option (List Str)} {d : Str} (hd : ∀ n, n ≠ d → tab' n = tab n) (hp : ∀ n ps, tab n = some ps → d ∉ ps) {st met r} (h : Go tab st met r) : d ∉ st → Go tab' st met r := by
  induction h with
  | nil => intro _; exact .nil _
  | skip hs _ ih =>
    intro hn
    have hne := fun e : d = _ => hn (e ▸ .head _)
    exact .skip (by rwa [hd _ (Ne.symm hne)]) (ih fun h => hn (.tail _ h))
  | take ht hm _ ih =>
    intro hn
    have hne := fun e : d = _ => hn (e ▸ .head _)
    refine .take (by rwa [hd _ (Ne.symm hne)]) hm (ih fun h => ?_)
    rcases List.mem_append.mp h with h | h
    · exact hp _ _ ht h
    · exact hn (.tail _ h)
theorem not_mem {d : Str} (hd : tab d = none) {st met r} (h : Go tab st met r) (hm : d ∉ met) : d ∉ r := fun e => by
  rcases h.known d e with h | h
  · exact hm h
  · first | exact nS (hd) h | (rw [hd] at h; cases h)
/-- with the last name behind -/
theorem last {tab' : Str → Option (List Str)} {d : Str} (hd : ∀ n, n ≠ d → tab' n = tab n) (hdn : tab d = none) (hd' : tab' d = some []) (hp : ∀ n ps, tab n = some ps → d ∉ ps) {st r r'}
    (h : Go tab st [] r) (hst : d ∉ st) (h' : Go tab' (st ++ [d]) [] r') : r' = r ++ [d] := by
  refine h'.det ((h.other hd hp hst).append (.take hd' (h.not_mem hdn (by first | k_mem | simp)) (.nil _)))
end Go

/-- how many are yet to be met -/
noncomputable def unmet (known met : List Str) : Nat := (known.filter fun n => decide (n ∉ met)).length
theorem unmet_le (known met : List Str) : unmet known met ≤ known.length := List.length_filter_le ..
theorem unmet_lt {known met : List Str} {n : Str} (hk : n ∈ known) (hm : n ∉ met) : unmet known (met ++ [n]) < unmet known met := by
  have e : (known.filter fun x => decide (x ∉ met ++ [n])) = (known.filter fun x => decide (x ∉ met)).filter fun x => decide (x ≠ n) := by
    rw [List.filter_filter]
    refine congrArg (fun f => List.filter f known) (funext fun x => ?_)
    rw [← Bool.decide_and]
    exact decide_eq_decide.mpr ⟨fun h => ⟨fun e => h (List.mem_append_right _ (List.mem_singleton.mpr e)), fun q => h (List.mem_append_left _ q)⟩, fun h q => (List.mem_append.mp q).elim h.2 fun q => h.1 (List.mem_singleton.mp q)⟩
  show (known.filter fun x => decide (x ∉ met ++ [n])).length < _
  rw [e]
  exact List.length_filter_lt_length_iff_exists.mpr ⟨n, List.mem_filter.mpr ⟨hk, decide_eq_true hm⟩, by rw [decide_eq_false (fun h => h rfl)]; exact nofun⟩

/-- the first told -/
noncomputable def pick (parts : Str → List (Option Int)) (met : List Str) (i : Nat) : Option Int := met.findSome? fun n => ((parts n)[i]?).join
noncomputable def look (parts : Str → List (Option Int)) (met : List Str) : List (Option Int) := (List.range 6).map (pick parts met)
theorem look_nil (parts) : look parts [] = [none, none, none, none, none, none] := rfl
theorem pick_snoc (parts met n i) : pick parts (met ++ [n]) i = (pick parts met i).or ((parts n)[i]?).join := by
  unfold pick
  rw [List.findSome?_append]
  simp [List.findSome?]
  cases (parts n)[i]?.join <;> rfl
theorem look_snoc {parts met n} (h : (parts n).length = 6) : look parts (met ++ [n]) = List.zipWith (fun own part => own.or part) (look parts met) (parts n) := by
  obtain ⟨a, b, c, d, e, f, q⟩ := six h
  show [_, _, _, _, _, _] = List.zipWith _ [_, _, _, _, _, _] _
  simp only [pick_snoc, q]
  rfl
theorem look_length (parts met) : (look parts met).length = 6 := by simp [look]
theorem pick_some {parts met i n} (hn : n ∈ met) (h : (((parts n)[i]?).join).isSome = true) : (pick parts met i).isSome = true := by
  unfold pick
  rw [List.findSome?_isSome_iff]
  exact ⟨n, hn, h⟩
end Mine

end
section
open PySem PySem.Spec PySem.Calls PySem.W PyProof.Rows
set_option Elab.async false
set_option maxRecDepth 100000
namespace Mine

theorem instUp {g h : Heap} {x C : Addr} {ox : Obj} {od : Option Obj} (I : InstAt g x ox C od) (s : Sub g h) : InstAt h x ox C od := by
  refine ⟨s _ _ I.at_, I.cls, I.no, ?_⟩
  have := I.dict
  revert this
  cases ox.dict <;> cases od <;> simp
  exact fun e => s _ _ e

structure FaceD where
  parts : List (Option Int)
  parents : List Str
def FaceD.Good (f : FaceD) : Prop := f.parts.length = 6 ∧ f.parents.length ≤ 2

noncomputable abbrev faceO (w : World) (t1 t2 : Tok) (pa pr : Nat) (n : Nat) : Obj :=
  dictOf [{ hash := PyData.keyHash w.params (Str.ofString "parts"), key := .str (Str.ofString "parts") t1, val := .ref pa }, { hash := PyData.keyHash w.params (Str.ofString "parents"), key := .str (Str.ofString "parents") t2, val := .ref pr }] n
inductive FaceAt (w : World) (h : Heap) (x : Nat) (f : FaceD) : Prop
  | mk (d : Nat) (pa : Nat) (pr : Nat) (n : Nat) (t1 : Tok) (t2 : Tok) (vs : List Value) (ws : List Value) (f1 : InstAt h x (instObj 35 d) 35 (some (faceO w t1 t2 pa pr n))) (f2 : h.IsTuple pa vs.toArray) (f3 : Are PartIs f.parts vs) (f4 : h.IsTuple pr ws.toArray) (f5 : Are StrIs f.parents ws)
theorem FaceAt.up {w : World} {g h : Heap} {x : Nat} {f : FaceD} (s : Sub g h) : FaceAt w g x f → FaceAt w h x f := by
  rintro ⟨d, pa, pr, n, t1, t2, vs, ws, I, a, b, c, e⟩
  exact ⟨d, pa, pr, n, t1, t2, vs, ws, instUp I s, tupSub s a, b, tupSub s c, e⟩

noncomputable abbrev tabO (w : World) (t1 t2 t3 : Tok) (bn lk nu : Nat) (n : Nat) : Obj :=
  dictOf [{ hash := PyData.keyHash w.params (Str.ofString "by_name"), key := .str (Str.ofString "by_name") t1, val := .ref bn }, { hash := PyData.keyHash w.params (Str.ofString "looks"), key := .str (Str.ofString "looks") t2, val := .ref lk },
    { hash := PyData.keyHash w.params (Str.ofString "numbers"), key := .str (Str.ofString "numbers") t3, val := .ref nu }] n
/-- the table's own object and its attributes -/
inductive TabI (w : World) (h : Heap) (tb d bn lk nu : Nat) : Prop
  | mk (t1 : Tok) (t2 : Tok) (t3 : Tok) (n : Nat) (f1 : InstAt h tb (instObj 80 d) 80 (some (tabO w t1 t2 t3 bn lk nu n)))
theorem TabI.up {w : World} {g h : Heap} {tb d bn lk nu : Nat} (s : Sub g h) : TabI w g tb d bn lk nu → TabI w h tb d bn lk nu := by
  rintro ⟨t1, t2, t3, n, I⟩; exact ⟨t1, t2, t3, n, instUp I s⟩

abbrev FT := Str → Option FaceD
noncomputable def FT.tab (F : FT) : Str → Option (List Str) := fun n => (F n).map (·.parents)
noncomputable def FT.parts (F : FT) : Str → List (Option Int) := fun n => ((F n).map (·.parts)).getD []
/-- what the table of names holds -/
inductive NamesO (w : World) (h : Heap) (o : Obj) (F : FT) (known : List Str) : Prop
  | mk (kvs : List (Str × Value)) (f1 : o.IsDictOf (strKind Pg w) kvs) (f2 : kvs.length ≤ 6) (f3 : (∀ n, (F n).isSome = true → n ∈ known)) (f4 : known.length ≤ 6) (f5 : ∀ n, (F n = none ∧ valueAt kvs n = none) ∨ ∃ f x, F n = some f ∧ f.Good ∧ valueAt kvs n = some (.ref x) ∧ FaceAt w h x f)
theorem NamesO.up {w : World} {g h : Heap} {o : Obj} {F : FT} {known : List Str} (s : Sub g h) : NamesO w g o F known → NamesO w h o F known := by
  rintro ⟨kvs, a, b, c, c', d⟩
  refine ⟨kvs, a, b, c, c', fun n => ?_⟩
  rcases d n with d | ⟨f, x, e1, e2, e3, e4⟩
  · exact .inl d
  · exact .inr ⟨f, x, e1, e2, e3, e4.up s⟩
end Mine

end
section
open PySem PySem.Spec PySem.Calls PySem.W PyProof.Rows
set_option Elab.async false
set_option maxRecDepth 100000
namespace Mine
theorem untold {w : World} {g : Heap} (X : (hd.heap_39 w.params).In g) : g.IsTuple 16 (List.toArray [Value.none, .none, .none, .none, .none, .none]) := by
  have hrw : PySem.Challenge.rw_np0001_01 = PySem.Challenge.rw_np0001_01 := rfl
  revert X hrw
  k_fill
  intro X hrw
  exact ⟨_, X 16 _ (by k_is), rfl, _, rfl⟩
theorem plainT {w : World} {g : Heap} (X : (hd.heap_39 w.params).In g) : ∃ vs : List Value, g.IsTuple 15 vs.toArray ∧ Are PartIs [some 0, some 0, some 0, some 0, some 0, some 0] vs := by
  have hrw : PySem.Challenge.rw_np0001_01 = PySem.Challenge.rw_np0001_01 := rfl
  revert X hrw
  k_fill
  intro X hrw
  refine ⟨_, ⟨_, X 15 _ (by k_is), rfl, _, rfl⟩, ?_⟩
  exact .cons ⟨_, rfl⟩ (.cons ⟨_, rfl⟩ (.cons ⟨_, rfl⟩ (.cons ⟨_, rfl⟩ (.cons ⟨_, rfl⟩ (.cons ⟨_, rfl⟩ .nil)))))
section
variable {prog : Program} {w : World} {A : Around} {E : Value → Shared → Prop} {s : Shared} {g : Heap} {L : Nat} {m : Str → Option Value} {news : List (Addr × Obj)} {gN : Obj → List (Addr × Obj)}

/-- list(..) of a tuple or a list -/
theorem listN {T : String} {a : Nat} {o : Obj} {vs : List Value} {n : Nat} {Q : Value → Shared → Prop} (F : Fr g L s.heap m) (N : News g L s.heap news) (hT : T = "list" ∨ T = "tuple")
    (ho : s.heap.get? a = some o) (hc : o.cls = .type T) (hd : o.data = .seq vs.toArray n) (hsz : vs.length ≤ 1000)
    (h : ∀ (D : Nat) h' n', Fr g L h' m → News g L h' ((D, lstO vs n') :: news) → (∀ p ∈ news, p.1 < D) → Q (.ref D) { s with heap := h' }) :
    wpAny (model prog w) A (call (.type "list") [.ref a]) Q E s := by
  refine call_list_seq a hT ho hc hd (fun h' c' hk hD => ?_) (by rw [sizeLine_eq, List.size_toArray]; lia)
  obtain ⟨F', N', l'⟩ := news_add F N hk (Nat.le_refl _) hD
  exact h _ h' c' F' N' l'
theorem listT {a : Nat} {vs : List Value} {Q : Value → Shared → Prop} (F : Fr g L s.heap m) (N : News g L s.heap news) (ht : g.IsTuple a vs.toArray) (hsz : vs.length ≤ 1000)
    (h : ∀ (D : Nat) h' n', Fr g L h' m → News g L h' ((D, lstO vs n') :: news) → (∀ p ∈ news, p.1 < D) → Q (.ref D) { s with heap := h' }) :
    wpAny (model prog w) A (call (.type "list") [.ref a]) Q E s := by
  obtain ⟨o, ho, hc, n, hd⟩ := ht
  exact listN F N (.inr rfl) (F.keep _ _ ho) hc hd hsz h
theorem revN {l : Nat} {vs : List Value} {n : Nat} {value slice : Expr} {vk : Value} {ops : List Value} {Q : Value → Shared → Prop} (F : Fr g L s.heap m) (N : News g L s.heap news) (hm : (l, lstO vs n) ∈ news) (pk : IsPart vk (some (-1))) (hsz : vs.length ≤ 1000)
    (hs : subscripted slice false (.ref l) (.ref s.heap.objs.size) = operate ops (getItem (.ref l) (.ref s.heap.objs.size))) (ht : ∀ r, letTemporaryGo value (.ref l) r = pure ())
    (h : ∀ (D : Nat) h', Fr g L h' m → News g L h' ((D, lstO vs.reverse 0) :: news) → (∀ p ∈ news, p.1 < D) → Q (.ref D) { s with heap := h' }) :
    wpAny (model prog w) A (subscriptTail value slice (.ref l) (.ref s.heap.objs.size)) Q E { s with heap := s.heap.push { cls := .type "slice", data := .fields #[.none, .none, vk] } } :=
  krv_lit (its := vs.toArray) (zs := vs.reverse) F N ⟨_, (N _ hm).1, rfl, n, rfl⟩ pk rfl h hs ht (by rw [sizeLine_eq, List.size_toArray]; lia)
theorem addN {l b : Nat} {vs ws : List Value} {n n2 : Nat} {Q : Value → Shared → Prop} (F : Fr g L s.heap m) (N : News g L s.heap news) (hl : (l, lstO vs n) ∈ news) (hb : (b, lstO ws n2) ∈ news) (hsz : vs.length + ws.length ≤ 1000)
    (h : ∀ (D : Nat) h', Fr g L h' m → News g L h' ((D, lstO (vs ++ ws) 0) :: news) → (∀ p ∈ news, p.1 < D) → Q (.ref D) { s with heap := h' }) :
    wpAny (model prog w) A (binaryOp .Add (.ref l) (.ref b)) Q E s :=
  add_lists F N ⟨_, (N _ hl).1, rfl, n, rfl⟩ ⟨_, (N _ hb).1, rfl, n2, rfl⟩ (fun h' F' N' => h _ h' F' N' fun p hp => Heap.lt_size (N p hp).1) (by rw [sizeLine_eq]; lia)
end
end Mine

end
section
open PySem PySem.Spec PySem.Calls PySem.W PyProof.Rows
set_option Elab.async false
set_option maxRecDepth 100000
namespace Mine
theorem kxEqs : True := by
  k_with_none
  k_with "ne" => (refine neN ?_; (try dsimp only); first | with_reducible assumption | exact Ne.symm (by with_reducible assumption) | exact Nat.ne_of_lt (by with_reducible assumption) | exact Nat.ne_of_gt (by with_reducible assumption) | lia)
  k_with "mem" => first | exact nm0 | (refine nmC ?_ ?_; k_ne; k_mem) | (refine inL ?_; k_mem) | exact fa0 | (refine faC ?_ ?_; k_mem; k_mem)
  trivial
def IntIs (i : Int) (v : Value) : Prop := ∃ t, v = .int i t
theorem Are.ints : ∀ {ks : List Int} {vs : List Value}, Are PartIs (ks.map some) vs → Are IntIs ks vs
  | [], _, h => by cases h; exact .nil
  | _ :: ks, _, h => by
    cases h with
    | cons h t => exact .cons h (Are.ints t)
theorem Are.intsAre : ∀ {ks : List Int} {vs : List Value}, Are IntIs ks vs → IntsAre vs ks
  | _, _, .nil => .nil
  | _, _, .cons ⟨t, e⟩ h => by subst e; exact .cons _ t (Are.intsAre h)
theorem shapedT_int (xs : List Int) : SeqAt.shaped (.tuple (xs.map PyData.int)) = true := by
  simp [SeqAt.shaped, PyData.canLay0, PyData.depth, ke_canLayAll0, ke_depthAll]
section
variable {prog : Program} {w : World} {A : Around} {E : Value → Shared → Prop} {s : Shared} {a b : Addr} {xs ys : List Value} {ns ms : List Int} {ps qs : List Str} {Q : Value → Shared → Prop}
open PySem.SeqAt PySem.MeetsSeq PySem.MeetsSeq2 PySem.MeetsSeq3 PySem.SeqRoads2 in
theorem neL_nil (hl : s.heap.IsList a xs.toArray) (hb : s.heap.IsList b #[]) (hu : A.units < cLine) (h : Q (.bool (!xs.isEmpty)) s) :
    wpAny (model prog w) A (compareOp .NotEq (.ref a) (.ref b)) Q E s := by
  obtain ⟨⟨cls, dd, data, sl⟩, ho, hc, n, hd⟩ := id hl
  obtain ⟨⟨cls2, dd2, data2, sl2⟩, ho2, hc2, n2, hd2⟩ := id hb
  simp only at hc hd hc2 hd2
  subst hc hd hc2 hd2
  cases xs with
  | nil =>
    exact richCompare_meets_room (op := .NotEq) ⟨_, ho, rfl⟩ ⟨_, ho2, rfl⟩ F.slot_list_ne F.entry_list_ne (F.args_list_ne_2 _ _) (list_neAt a b #[] #[] n n2 dd dd2 sl sl2 rfl fun _ => true)
      ⟨ho, ho2, fun j h1 => absurd h1 (Nat.not_lt_zero j), (fun x => nomatch x), h⟩ hu
  | cons x xs =>
    exact richCompare_meets_room (op := .NotEq) ⟨_, ho, rfl⟩ ⟨_, ho2, rfl⟩ F.slot_list_ne F.entry_list_ne (F.args_list_ne_2 _ _) (list_ne_lengthsAt a b (x :: xs).toArray #[] n n2 dd dd2 sl sl2 (by first | k_mem | simp))
      ⟨ho, ho2, (fun x => nomatch x), h⟩ hu
theorem neNilF {g : Heap} {L : Nat} {m : Str → Option Value} {news : List (Addr × Obj)} {n n2 : Nat} (F : Fr g L s.heap m) (N : News g L s.heap news) (hl : (a, lstO xs n) ∈ news) (hb : (b, listOf #[] n2) ∈ news) (hx : xs = []) (hu : A.units < cLine) (h : Q (.bool false) s) :
    wpAny (model prog w) A (compareOp .NotEq (.ref a) (.ref b)) Q E s :=
  neL_nil ⟨_, (N _ hl).1, rfl, n, rfl⟩ ⟨_, (N _ hb).1, rfl, n2, rfl⟩ hu (by rw [hx]; exact h)
theorem neNilT {g : Heap} {L : Nat} {m : Str → Option Value} {news : List (Addr × Obj)} {n n2 : Nat} (F : Fr g L s.heap m) (N : News g L s.heap news) (hl : (a, lstO xs n) ∈ news) (hb : (b, listOf #[] n2) ∈ news) (hx : xs ≠ []) (hu : A.units < cLine) (h : Q (.bool true) s) :
    wpAny (model prog w) A (compareOp .NotEq (.ref a) (.ref b)) Q E s :=
  neL_nil ⟨_, (N _ hl).1, rfl, n, rfl⟩ ⟨_, (N _ hb).1, rfl, n2, rfl⟩ hu (by cases xs with | nil => exact absurd rfl hx | cons => exact h)
open PySem.SeqAt PySem.MeetsSeq PySem.MeetsSeq2 PySem.MeetsSeq3 PySem.SeqRoads2 in
theorem eqT_nil (hl : s.heap.IsTuple a xs.toArray) (hb : s.heap.IsTuple b #[]) (hu : A.units < cLine) (h : Q (.bool xs.isEmpty) s) :
    wpAny (model prog w) A (compareOp .Eq (.ref a) (.ref b)) Q E s := by
  refine eq_tupleAt (e := fun _ => true) hl hb hu (fun j _ h2 => absurd h2 (Nat.not_lt_zero j)) ?_
  cases xs with
  | nil => exact h
  | cons x xs => simpa using h
theorem eqT_int (ha : s.heap.IsTuple a xs.toArray) (hb : s.heap.IsTuple b ys.toArray) (hi : IntsAre xs ns) (hj : IntsAre ys ms) (hu : A.units + 64 < cLine) (h : Q (.bool (decide (ns = ms))) s) :
    wpAny (model prog w) A (compareOp .Eq (.ref a) (.ref b)) Q E s :=
  eq_dataH_same (reads_newDataT ha (ke_carried hi)) (reads_newDataT hb (ke_carried hj)) (shapedT_int _) (shapedT_int _) hu (SeqAt.noMix_of_shape (.tuples .int) rfl _ _ (tuples_map_has fun _ => rfl) (tuples_map_has fun _ => rfl)) (by
    have e : PySem.Spec.same (.tuple (ns.map PyData.int)) (.tuple (ms.map PyData.int)) = decide (ns = ms) := by simp only [PySem.Spec.same]; exact ke_sameAll ns ms
    rw [e]; exact h)
theorem neT_int (ha : s.heap.IsTuple a xs.toArray) (hb : s.heap.IsTuple b ys.toArray) (hi : IntsAre xs ns) (hj : IntsAre ys ms) (hu : A.units + 64 < cLine) (h : Q (.bool (!decide (ns = ms))) s) :
    wpAny (model prog w) A (compareOp .NotEq (.ref a) (.ref b)) Q E s :=
  ne_dataH_same (reads_newDataT ha (ke_carried hi)) (reads_newDataT hb (ke_carried hj)) (shapedT_int _) (shapedT_int _) hu (SeqAt.noMix_of_shape (.tuples .int) rfl _ _ (tuples_map_has fun _ => rfl) (tuples_map_has fun _ => rfl)) (by
    have e : PySem.Spec.same (.tuple (ns.map PyData.int)) (.tuple (ms.map PyData.int)) = decide (ns = ms) := by simp only [PySem.Spec.same]; exact ke_sameAll ns ms
    rw [e]; exact h)
end
end Mine

end
section
open PySem PySem.Spec PySem.Calls PySem.W PyProof.Rows
set_option Elab.async false
set_option linter.unusedVariables false
set_option maxRecDepth 100000
namespace Mine

theorem kxZp : True := by
  k_with_none
  k_with "ne" => (refine neN ?_; (try dsimp only); first | with_reducible assumption | exact Ne.symm (by with_reducible assumption) | exact Nat.ne_of_lt (by with_reducible assumption) | exact Nat.ne_of_gt (by with_reducible assumption) | lia)
  k_with "mem" => first | exact List.Mem.head _ | (refine' List.Mem.tail _ ?_; k_mem) | exact nm0 | (refine nmC ?_ ?_; k_ne; k_mem) | (refine inL ?_; k_mem) | exact fa0 | (refine faC ?_ ?_; k_mem; k_mem)
  trivial
theorem KB.same {d : Nat} {h h' : Heap} (x : Heap.SameBut d h h') : KB [d] h h' := KB.of_sameBut x
section
variable {prog : Program} {w : World} {A : Around} {E : Value → Shared → Prop} {s : Shared}

/-- an inner iterator i over l -/
structure Inner (i l : Nat) (xs : Array Value) (St : Nat → Heap → Prop) : Prop where
  frame : ∀ k h h', St k h → (∀ c o, c = i ∨ c = l → h.get? c = some o → h'.get? c = some o) → St k h'
  lt : ∀ k h, St k h → i < h.objs.size
  next : ∀ (prog : Program) (w : World) (A : Around) (E : Value → Shared → Prop) (s : Shared) (Q : Value → Shared → Prop) k x, St k s.heap → xs[k]? = some x →
    (∀ h', St (k + 1) h' → Heap.SameBut i s.heap h' → Q x { s with heap := h' }) → wpAny (model prog w) A (Builtin.SmallTypes.nextOf (.ref i)) Q E s
  stop : ∀ (prog : Program) (w : World) (A : Around) (E : Value → Shared → Prop) (s : Shared) (Q : Value → Shared → Prop) k, A.handled = none → St k s.heap → xs[k]? = none →
    (∀ h' e, Heap.ExtBut i s.heap h' → (∃ o, h'.get? e = some o ∧ o.cls = .type "StopIteration") → E (.ref e) { s with heap := h' }) → wpAny (model prog w) A (Builtin.SmallTypes.nextOf (.ref i)) Q E s
end

theorem Inner.list {i l : Nat} {xs : Array Value} (hne : l ≠ i) : Inner i l xs (fun k h => h.IsListIter i l k ∧ h.IsList l xs) where
  frame := fun _ _ _ ⟨a, b⟩ kb => ⟨a.at fun o e => kb i o (.inl rfl) e, b.at fun o e => kb l o (.inr rfl) e⟩
  lt := fun _ _ ⟨⟨_, e, _⟩, _⟩ => Heap.lt_size e
  next := fun _ _ _ _ _ _ _ _ ⟨a, b⟩ hx hQ => wpAny_nextOf_list_item a b hx fun h' a' hs => hQ h' ⟨a', b.extBut hs.extBut hne⟩ hs
  stop := fun _ _ _ _ _ _ _ hh ⟨a, b⟩ hx hE => wpAny_nextOf_list_end hh a b hx hE

section
variable {prog : Program} {w : World} {A : Around} {E : Value → Shared → Prop} {s : Shared}
theorem nextOf_tuple {it t : Nat} {k : Nat} {items : Array Value} {x : Value} {Q : Value → Shared → Prop} (hit : s.heap.IsTupleIter it t k) (ht : s.heap.IsTuple t items) (hx : items[k]? = some x)
    (hQ : ∀ h', h'.IsTupleIter it t (k + 1) → Heap.SameBut it s.heap h' → Q x { s with heap := h' }) : wpAny (model prog w) A (Builtin.SmallTypes.nextOf (.ref it)) Q E s := by
  obtain ⟨o, ho, hc, hd⟩ := id hit
  obtain ⟨ot, hot, _, n, hdt⟩ := ht
  unfold Builtin.SmallTypes.nextOf
  refine wpAny_bind (wpAny_callSpecial?_slot (name := Str.ofString "__next__") hit.typeIs F.slot_tuple_iterator_next (wpAny_call_entry F.slot_tuple_iterator_next hit.typeIs F.entry_tuple_iterator_next ?_ (F.args_tuple_iterator_next_1 _)))
  show wpAny _ _ (field (.ref it) 0 >>= _) _ _ s
  refine wpAny_bind (wpAny_field ho hd (x := .ref t) rfl ?_)
  show wpAny _ _ (if (Value.ref t == Value.none) = true then _ else _) _ _ s
  rw [if_neg (show ¬ ((Value.ref t == Value.none) = true) from Bool.false_ne_true)]
  show wpAny _ _ (field (.ref it) 1 >>= _) _ _ s
  refine wpAny_bind (wpAny_field ho hd (x := .int k 0) rfl ?_)
  show wpAny _ _ (seqItems? (.ref t) >>= _) _ _ s
  refine wpAny_bind (wpAny_seqItems hot hdt ?_)
  simp only [Int.toNat_natCast, hx]
  refine wpAny_bind (wpAny_setField ho hd (by first | k_mem | simp) (wpAny_pure ⟨x, rfl, wpAny_pure (hQ _ ?_ (Heap.SameBut.update ..))⟩))
  exact ⟨_, Heap.get?_update_self _ ho (Obj.isFreed_of_fields (Obj.data_mapFields hd _)), (Obj.cls_mapFields ..).trans hc, by rw [Obj.data_mapFields hd]; simp [rawInt]⟩
theorem stopOf_tuple {it t : Nat} {k : Nat} {items : Array Value} {Q : Value → Shared → Prop} (hh : A.handled = none) (hit : s.heap.IsTupleIter it t k) (ht : s.heap.IsTuple t items) (hx : items[k]? = none)
    (hE : ∀ h' e, Heap.ExtBut it s.heap h' → (∃ o, h'.get? e = some o ∧ o.cls = .type "StopIteration") → E (.ref e) { s with heap := h' }) : wpAny (model prog w) A (Builtin.SmallTypes.nextOf (.ref it)) Q E s := by
  obtain ⟨o, ho, hc, hd⟩ := id hit
  obtain ⟨ot, hot, _, n, hdt⟩ := ht
  unfold Builtin.SmallTypes.nextOf
  refine wpAny_bind (wpAny_callSpecial?_slot (name := Str.ofString "__next__") hit.typeIs F.slot_tuple_iterator_next (wpAny_call_entry F.slot_tuple_iterator_next hit.typeIs F.entry_tuple_iterator_next ?_ (F.args_tuple_iterator_next_1 _)))
  show wpAny _ _ (field (.ref it) 0 >>= _) _ _ s
  refine wpAny_bind (wpAny_field ho hd (x := .ref t) rfl ?_)
  show wpAny _ _ (if (Value.ref t == Value.none) = true then _ else _) _ _ s
  rw [if_neg (show ¬ ((Value.ref t == Value.none) = true) from Bool.false_ne_true)]
  show wpAny _ _ (field (.ref it) 1 >>= _) _ _ s
  refine wpAny_bind (wpAny_field ho hd (x := .int k 0) rfl ?_)
  show wpAny _ _ (seqItems? (.ref t) >>= _) _ _ s
  refine wpAny_bind (wpAny_seqItems hot hdt ?_)
  simp only [Int.toNat_natCast, hx]
  refine wpAny_bind (wpAny_rule (wpAny_bind (wpAny_setField ho hd (by first | k_mem | simp) ?_)))
  show wpAny _ _ (newExc (.type "StopIteration") [] >>= _) _ _ _
  refine wpAny_bind ?_
  simp only [newExc, newTuple]
  refine wpAny_bind (wpAny_newObj_type ?_ (by size_fits))
  refine wpAny_bind (m := firstArgMember _ _) (wpAny_of_eq (a := Value.none) (by first | rfl | (simp only [firstArgMember]; rfl)) ?_)
  refine wpAny_newObj_type ?_ (by size_fits)
  simp only [raiseNew]
  refine wpAny_bind (wpAny_handled ?_)
  first | rw [show A.in1.handled = none from hh] | rw [hh]
  refine wpAny_bind (wpAny_pure (wpAny_throw ?_))
  exact hE _ _ (((Heap.SameBut.update ..).extBut.push _).push _) ⟨_, Heap.get?_push_size _ rfl, rfl⟩
end
theorem Inner.tuple {i l : Nat} {xs : Array Value} (hne : l ≠ i) : Inner i l xs (fun k h => h.IsTupleIter i l k ∧ h.IsTuple l xs) where
  frame := fun _ _ _ ⟨a, b⟩ kb => ⟨let ⟨o, e, r⟩ := a; ⟨o, kb i o (.inl rfl) e, r⟩, b.at fun o e => kb l o (.inr rfl) e⟩
  lt := fun _ _ ⟨⟨_, e, _⟩, _⟩ => Heap.lt_size e
  next := fun _ _ _ _ _ _ _ _ ⟨a, b⟩ hx hQ => nextOf_tuple a b hx fun h' a' hs => hQ h' ⟨a', b.extBut hs.extBut hne⟩ hs
  stop := fun _ _ _ _ _ _ _ hh ⟨a, b⟩ hx hE => stopOf_tuple hh a b hx hE

section
variable {prog : Program} {w : World} {A : Around} {E : Value → Shared → Prop} {s : Shared} {z TI TO i1 i2 l1 l2 : Nat} {xs ys : Array Value} {S1 S2 : Nat → Heap → Prop} {k : Nat}

theorem Inner.on {i l : Nat} {xs : Array Value} {St : Nat → Heap → Prop} (I : Inner i l xs St) {h h' : Heap} {av : List Nat} (x : St k h) (kb : KB av h h') (n1 : i ∉ av) (n2 : l ∉ av) : St k h' :=
  I.frame _ _ _ x fun c o hc e => kb c o (by rcases hc with rfl | rfl <;> assumption) e

theorem zipItem {x y a b : Value} {Q : Value → Shared → Prop} (D : ZipApart z TI TO i1 i2 l1 l2) (I1 : Inner i1 l1 xs S1) (I2 : Inner i2 l2 ys S2)
    (hz : IsZip s.heap z TI TO .none) (hTI : IsPair s.heap TI (.ref i1) (.ref i2)) (hTO : IsPair s.heap TO a b) (h1 : S1 k s.heap) (h2 : S2 k s.heap) (hx : xs[k]? = some x) (hy : ys[k]? = some y)
    (hQ : ∀ (T : Nat) h', s.heap.objs.size ≤ T → IsZip h' z TI TO (rawInt T) → IsPair h' TO x y → S1 (k + 1) h' → S2 (k + 1) h' → IsPair h' T x y → KB [z, TO, i1, i2] s.heap h' → Q (.ref T) { s with heap := h' }) :
    wpAny (model prog w) A (Builtin.«zip.__next__» ⟨[.ref z], []⟩) (fun fin s' => ∃ v, fin = .done (.ret v) ∧ Q v s') E s := by
  have d1 : @Ne Nat TI z := D.TIz; have d2 : @Ne Nat TO z := D.TOz; have d3 : @Ne Nat i1 z := D.i1z; have d4 : @Ne Nat i2 z := D.i2z; have d5 : @Ne Nat TI TO := D.TITO; have d6 : @Ne Nat TI i1 := D.TIi1; have d7 : @Ne Nat TI i2 := D.TIi2; have d8 : @Ne Nat TO i1 := D.TOi1; have d9 : @Ne Nat TO i2 := D.TOi2; have d10 : @Ne Nat i1 i2 := D.i12; have d11 : @Ne Nat l1 z := D.l1z; have d12 : @Ne Nat l1 TO := D.l1TO; have d13 : @Ne Nat l1 i1 := D.l1i1; have d14 : @Ne Nat l1 i2 := D.l1i2; have d15 : @Ne Nat l2 z := D.l2z; have d16 : @Ne Nat l2 TO := D.l2TO; have d17 : @Ne Nat l2 i1 := D.l2i1; have d18 : @Ne Nat l2 i2 := D.l2i2
  show wpAny _ _ (field (.ref z) 2 >>= _) _ _ _
  refine wpAny_bind (wpAny_field hz rfl (x := .bool false) rfl ?_)
  show wpAny _ _ (field (.ref z) 3 >>= _) _ _ _
  refine wpAny_bind (wpAny_field hz rfl (x := .ref TI) rfl (wpAny_bind (wpAny_seqItems hTI rfl ?_)))
  show wpAny _ _ (Builtin.SmallTypes.ownedTupleIsFree (.ref z) >>= _) _ _ _
  refine wpAny_bind ?_
  unfold Builtin.SmallTypes.ownedTupleIsFree
  refine wpAny_bind (wpAny_field hz rfl (x := .none) rfl (wpAny_pure ?_))
  simp only [if_true]
  refine wpAny_bind (wpAny_rule (wpAny_bind (wpAny_field hz rfl (x := .ref TO) rfl ?_)))
  refine wpAny_bind (wpAny_setField_rec hz (by first | k_mem | simp) fun g1 hz1 q1 => wpAny_bind ?_)
  replace hz1 : IsZip g1 z TI TO .ellipsis := hz1
  have k1 : KB [z, TO, i1, i2] s.heap g1 := (KB.same q1).mono (by first | k_mem | simp)
  simp only [List.zipIdx_cons, List.zipIdx_nil, List.forIn_cons, List.forIn_nil]
  refine wpAny_bind (wpAny_bind (wpAny_onRaise ?_))
  show wpAny _ _ (Builtin.SmallTypes.nextOf (.ref i1) >>= _) _ _ _
  refine wpAny_bind (I1.next _ _ _ _ _ _ k x (I1.on h1 (KB.same q1) (by first | k_mem | (simp; lia)) (by first | k_mem | (simp; lia))) hx fun g2 a2 q2 => wpAny_pure ?_)
  have c2 : IsPair g2 TO a b := KB.same q2 _ _ (by first | k_mem | (simp; lia)) (KB.same q1 _ _ (by first | k_mem | (simp; lia)) hTO)
  have k2 : KB [z, TO, i1, i2] s.heap g2 := k1.trans ((KB.same q2).mono (by first | k_mem | simp))
  have b2 : S2 k g2 := I2.on (I2.on h2 (KB.same q1) (by first | k_mem | (simp; lia)) (by first | k_mem | (simp; lia))) (KB.same q2) (by first | k_mem | (simp; lia)) (by first | k_mem | (simp; lia))
  have e2 : IsZip g2 z TI TO .ellipsis := KB.same q2 _ _ (by first | k_mem | (simp; lia)) hz1
  refine wpAny_bind (wpAny_seqItems c2 rfl (wpAny_bind (wpAny_updateSeq_pair c2 fun g3 c3 q3 => ?_)))
  replace c3 : IsPair g3 TO x b := c3
  have k3 : KB [z, TO, i1, i2] s.heap g3 := k2.trans ((KB.same q3).mono (by first | k_mem | simp))
  have a3 : S1 (k + 1) g3 := I1.on a2 (KB.same q3) (by first | k_mem | (simp; lia)) (by first | k_mem | (simp; lia))
  have b3 : S2 k g3 := I2.on b2 (KB.same q3) (by first | k_mem | (simp; lia)) (by first | k_mem | (simp; lia))
  have e3 : IsZip g3 z TI TO .ellipsis := KB.same q3 _ _ (by first | k_mem | (simp; lia)) e2
  refine wpAny_bind (wpAny_letGo (wpAny_pure (wpAny_bind (wpAny_bind (wpAny_onRaise ?_)))))
  show wpAny _ _ (Builtin.SmallTypes.nextOf (.ref i2) >>= _) _ _ _
  refine wpAny_bind (I2.next _ _ _ _ _ _ k y b3 hy fun g4 b4 q4 => wpAny_pure ?_)
  have c4 : IsPair g4 TO x b := KB.same q4 _ _ (by first | k_mem | (simp; lia)) c3
  have k4 : KB [z, TO, i1, i2] s.heap g4 := k3.trans ((KB.same q4).mono (by first | k_mem | simp))
  have a4 : S1 (k + 1) g4 := I1.on a3 (KB.same q4) (by first | k_mem | (simp; lia)) (by first | k_mem | (simp; lia))
  have e4 : IsZip g4 z TI TO .ellipsis := KB.same q4 _ _ (by first | k_mem | (simp; lia)) e3
  refine wpAny_bind (wpAny_seqItems c4 rfl (wpAny_bind (wpAny_updateSeq_pair c4 fun g5 c5 q5 => ?_)))
  replace c5 : IsPair g5 TO x y := c5
  have k5 : KB [z, TO, i1, i2] s.heap g5 := k4.trans ((KB.same q5).mono (by first | k_mem | simp))
  have a5 : S1 (k + 1) g5 := I1.on a4 (KB.same q5) (by first | k_mem | (simp; lia)) (by first | k_mem | (simp; lia))
  have b5 : S2 (k + 1) g5 := I2.on b4 (KB.same q5) (by first | k_mem | (simp; lia)) (by first | k_mem | (simp; lia))
  have e5 : IsZip g5 z TI TO .ellipsis := KB.same q5 _ _ (by first | k_mem | (simp; lia)) e4
  refine wpAny_bind (wpAny_letGo (wpAny_pure (wpAny_pure (wpAny_bind (wpAny_seqItems c5 rfl (wpAny_bind (wpAny_newTuple ?_)))))))
  have zlt : z < g5.objs.size := ltSz e5
  have TOlt : TO < g5.objs.size := ltSz c5
  have i1lt : i1 < g5.objs.size := I1.lt _ _ a5
  have i2lt : i2 < g5.objs.size := I2.lt _ _ b5
  have sz : g5.objs.size = s.heap.objs.size := by rw [q5.1, q4.1, q3.1, q2.1, q1.1]
  show wpAny _ _ (Builtin.SmallTypes.ownedTupleHandOut (.ref z) (.ref g5.objs.size) >>= _) _ _ _
  refine wpAny_bind ?_
  unfold Builtin.SmallTypes.ownedTupleHandOut
  have e6 : IsZip (g5.push { cls := .type "tuple", data := .seq #[x, y] }) z TI TO .ellipsis := Heap.get?_push_of_some _ e5
  refine wpAny_bind (wpAny_setField_rec e6 (by first | k_mem | simp) fun g7 e7 q7 => ?_)
  replace e7 : IsZip g7 z TI TO (rawInt g5.objs.size) := e7
  refine wpAny_setField_rec e7 (by first | k_mem | simp) fun g8 e8 q8 => ?_
  replace e8 : IsZip g8 z TI TO (rawInt g5.objs.size) := e8
  have up : KB [z] g5 g8 := fun c o nc e => KB.same q8 _ _ nc (KB.same q7 _ _ nc (Heap.get?_push_of_some _ e))
  have t8 : IsPair g8 g5.objs.size x y := KB.same q8 _ _ (by first | k_mem | (simp; lia)) (KB.same q7 _ _ (by first | k_mem | (simp; lia)) (Heap.get?_push_size _ rfl))
  exact wpAny_pure ⟨_, rfl, hQ g5.objs.size g8 (Nat.le_of_eq sz.symm) e8 (up _ _ (by first | k_mem | (simp; lia)) c5) (I1.on a5 up (by first | k_mem | (simp; lia)) (by first | k_mem | (simp; lia))) (I2.on b5 up (by first | k_mem | (simp; lia)) (by first | k_mem | (simp; lia))) t8 (k5.trans (up.mono (by first | k_mem | simp)))⟩

theorem zipStop {Q : Fin → Shared → Prop} (hh : A.handled = none) (D : ZipApart z TI TO i1 i2 l1 l2) (I1 : Inner i1 l1 xs S1)
    (hz : IsZip s.heap z TI TO .none) (hTI : IsPair s.heap TI (.ref i1) (.ref i2)) (h1 : S1 k s.heap) (hx : xs[k]? = none)
    (hE : ∀ h' e, KB [z, TO, i1, i2] s.heap h' → (∃ o, h'.get? e = some o ∧ o.cls = .type "StopIteration") → E (.ref e) { s with heap := h' }) :
    wpAny (model prog w) A (Builtin.«zip.__next__» ⟨[.ref z], []⟩) Q E s := by
  have d3 : @Ne Nat i1 z := D.i1z
  have d11 : @Ne Nat l1 z := D.l1z
  show wpAny _ _ (field (.ref z) 2 >>= _) _ _ _
  refine wpAny_bind (wpAny_field hz rfl (x := .bool false) rfl ?_)
  show wpAny _ _ (field (.ref z) 3 >>= _) _ _ _
  refine wpAny_bind (wpAny_field hz rfl (x := .ref TI) rfl (wpAny_bind (wpAny_seqItems hTI rfl ?_)))
  show wpAny _ _ (Builtin.SmallTypes.ownedTupleIsFree (.ref z) >>= _) _ _ _
  refine wpAny_bind ?_
  unfold Builtin.SmallTypes.ownedTupleIsFree
  refine wpAny_bind (wpAny_field hz rfl (x := .none) rfl (wpAny_pure ?_))
  simp only [if_true]
  refine wpAny_bind (wpAny_rule (wpAny_bind (wpAny_field hz rfl (x := .ref TO) rfl ?_)))
  refine wpAny_bind (wpAny_setField_rec hz (by first | k_mem | simp) fun g1 hz1 q1 => wpAny_bind ?_)
  replace hz1 : IsZip g1 z TI TO .ellipsis := hz1
  simp only [List.zipIdx_cons, List.zipIdx_nil, List.forIn_cons, List.forIn_nil]
  refine wpAny_bind (wpAny_bind (wpAny_onRaise ?_))
  show wpAny _ _ (Builtin.SmallTypes.nextOf (.ref i1) >>= _) _ _ _
  refine wpAny_bind (I1.stop _ _ _ _ _ _ k hh (I1.on h1 (KB.same q1) (by first | k_mem | (simp; lia)) (by first | k_mem | (simp; lia))) hx fun g2 e q2 he => ?_)
  obtain ⟨oe, hoe, hce⟩ := he
  have e2 : IsZip g2 z TI TO .ellipsis := q2 _ _ (fun q => d3 q.symm) hz1
  have ez : e ≠ z := fun q => by subst q; first | exact nS (e2) hoe | (rw [e2] at hoe; cases hoe); simp at hce
  refine wpAny_setField_rec e2 (by first | k_mem | simp) fun g3 _ q3 => hE g3 e ?_ ⟨oe, q3.extBut _ _ ez hoe, hce⟩
  intro c o nc x
  simp only [List.mem_cons, List.not_mem_nil, or_false, not_or] at nc
  exact q3.extBut _ _ nc.1 (q2 _ _ nc.2.2.1 (q1.extBut _ _ nc.1 x))

theorem nextZ {x y a b : Value} {Q : Option Value → Shared → Prop} (D : ZipApart z TI TO i1 i2 l1 l2) (I1 : Inner i1 l1 xs S1) (I2 : Inner i2 l2 ys S2)
    (hz : IsZip s.heap z TI TO .none) (hTI : IsPair s.heap TI (.ref i1) (.ref i2)) (hTO : IsPair s.heap TO a b) (h1 : S1 k s.heap) (h2 : S2 k s.heap) (hx : xs[k]? = some x) (hy : ys[k]? = some y)
    (hQ : ∀ (T : Nat) h', s.heap.objs.size ≤ T → IsZip h' z TI TO (rawInt T) → IsPair h' TO x y → S1 (k + 1) h' → S2 (k + 1) h' → IsPair h' T x y → KB [z, TO, i1, i2] s.heap h' → Q (some (.ref T)) { s with heap := h' }) :
    wpAny (model prog w) A (pyNext (.ref z)) Q E s := by
  have hT : s.TypeIs (.ref z) "zip" := ⟨_, hz, rfl⟩
  unfold pyNext
  exact wpAny_bind (wpAny_attempt (wpAny_callSpecial?_slot (name := Str.ofString "__next__") hT F.slot_zip_next
    (wpAny_call_entry F.slot_zip_next hT F.entry_zip_next
      (zipItem D I1 I2 hz hTI hTO h1 h2 hx hy fun T h' a0 a1 a2 a3 a4 a5 a6 => wpAny_pure (hQ T h' a0 a1 a2 a3 a4 a5 a6)) (F.args_zip_next_1 _))))
theorem stopZ {Q : Option Value → Shared → Prop} (hh : A.handled = none) (D : ZipApart z TI TO i1 i2 l1 l2) (I1 : Inner i1 l1 xs S1)
    (hz : IsZip s.heap z TI TO .none) (hTI : IsPair s.heap TI (.ref i1) (.ref i2)) (h1 : S1 k s.heap) (hx : xs[k]? = none)
    (hQ : ∀ h', KB [z, TO, i1, i2] s.heap h' → Q none { s with heap := h' }) : wpAny (model prog w) A (pyNext (.ref z)) Q E s := by
  have hT : s.TypeIs (.ref z) "zip" := ⟨_, hz, rfl⟩
  unfold pyNext
  refine wpAny_bind (wpAny_attempt (wpAny_callSpecial?_slot (name := Str.ofString "__next__") hT F.slot_zip_next
    (wpAny_call_entry F.slot_zip_next hT F.entry_zip_next (zipStop hh D I1 hz hTI h1 hx fun h' e hk he => ?_) (F.args_zip_next_1 _))))
  obtain ⟨o, ho, hc⟩ := he
  exact wpAny_bind (wpAny_isInstance (T := "StopIteration") (b := true) ⟨o, ho, hc⟩ isSubtype_stop (wpAny_pure (hQ _ hk)))

abbrev ZSt (z TI TO i1 i2 : Nat) (S1 S2 : Nat → Heap → Prop) (k : Nat) (h : Heap) : Prop :=
  IsZip h z TI TO .none ∧ IsPair h TI (.ref i1) (.ref i2) ∧ (∃ a b, IsPair h TO a b) ∧ S1 k h ∧ S2 k h
theorem ItS.zip {elts : List Expr} {kk : Nat} {pos : Pos} (hh : A.handled = none) (D : ZipApart z TI TO i1 i2 l1 l2) (I1 : Inner i1 l1 xs S1) (I2 : Inner i2 l2 ys S2) (hsz : xs.size = ys.size) :
    ItS prog w A (.Tuple elts kk pos) z [z, TI, TO, i1, i2, l1, l2] [z, TO, i1, i2] xs.size (fun i v h => ∃ (x y : Value) (T : Nat), v = .ref T ∧ xs[i]? = some x ∧ ys[i]? = some y ∧ IsPair h T x y ∧ z < T)
      (ZSt z TI TO i1 i2 S1 S2) where
  sub := by simp
  frame := fun i h h' ⟨a, b, ⟨c1, c2, c⟩, d, e⟩ kb => ⟨kb z (by first | k_mem | simp) _ a, kb TI (by first | k_mem | simp) _ b, ⟨c1, c2, kb TO (by first | k_mem | simp) _ c⟩,
    I1.frame _ _ _ d fun c o hc x => kb c (by rcases hc with rfl | rfl <;> simp) o x, I2.frame _ _ _ e fun c o hc x => kb c (by rcases hc with rfl | rfl <;> simp) o x⟩
  item := fun i s Q hi ⟨a, b, ⟨c1, c2, c⟩, d, e⟩ hQ => by
    have d1 : @Ne Nat TI z := D.TIz; have d2 : @Ne Nat TO z := D.TOz; have d3 : @Ne Nat i1 z := D.i1z; have d4 : @Ne Nat i2 z := D.i2z
    have d5 : @Ne Nat TI TO := D.TITO; have d6 : @Ne Nat TI i1 := D.TIi1; have d7 : @Ne Nat TI i2 := D.TIi2
    have d11 : @Ne Nat l1 z := D.l1z; have d15 : @Ne Nat l2 z := D.l2z
    have hx : xs[i]? = some xs[i] := Array.getElem?_eq_getElem hi
    have hy : ys[i]? = some (ys[i]'(hsz ▸ hi)) := Array.getElem?_eq_getElem (hsz ▸ hi)
    have zlt := ltSz a; have TOlt := ltSz c; have i1lt := I1.lt _ _ d; have i2lt := I2.lt _ _ e
    refine nextZ D I1 I2 a b c d e hx hy fun T h' hT a' c' d' e' t' kb => ⟨_, rfl, ?_⟩
    have Tz : T ∉ [z, TO, i1, i2] := by simp; lia
    have Tzz : T ∉ [z] := by simp; lia
    refine wpAny_letOwnedTupleGo_zip a' fun h'' a'' q => ?_
    have kz := KB.same q
    exact hQ _ h'' s.toks ⟨_, _, T, rfl, hx, hy, kz _ _ Tzz t', by lia⟩ ⟨a'', kz _ _ (by first | k_mem | (simp; lia)) (kb _ _ (by first | k_mem | (simp; lia)) b), ⟨_, _, kz _ _ (by first | k_mem | (simp; lia)) c'⟩, I1.on d' kz (by first | k_mem | (simp; lia)) (by first | k_mem | (simp; lia)), I2.on e' kz (by first | k_mem | (simp; lia)) (by first | k_mem | (simp; lia))⟩
      (kb.trans (kz.mono (by first | k_mem | simp)))
  done := fun s Q ⟨a, b, _, d, _⟩ hQ => by
    exact stopZ hh D I1 a b d (Array.getElem?_eq_none (Nat.le_refl _)) fun h' kb => ⟨rfl, hQ h' s.toks kb⟩
  self := fun i s Q ⟨a, _⟩ hQ => wpAny_pyIter_zip a hQ

end
noncomputable abbrev itO (T : String) (l : Nat) : Obj := { cls := .type T, data := .fields #[.ref l, .int 0 0] }
noncomputable abbrev zH (T1 T2 : String) (l1 l2 : Nat) (h : Heap) : Heap :=
  ((((h.push (itO T1 l1)).push (itO T2 l2)).push { cls := .type "tuple", data := .seq #[.ref h.objs.size, .ref (h.push (itO T1 l1)).objs.size] }).push { cls := .type "tuple", data := .seq #[.none, .none] })
noncomputable abbrev zO (h : Heap) (T1 T2 : String) (l1 l2 : Nat) : Obj :=
  { cls := .type "zip", data := .fields #[.none, .bool false, .bool false, .ref ((h.push (itO T1 l1)).push (itO T2 l2)).objs.size, .ref (((h.push (itO T1 l1)).push (itO T2 l2)).push { cls := .type "tuple", data := .seq #[.ref h.objs.size, .ref (h.push (itO T1 l1)).objs.size] }).objs.size] }
theorem zipNewLT (l1 l2 : Nat) (xs ys : Array Value) : Meets (Builtin.«zip.__new__» ⟨[.type "zip", .ref l1, .ref l2], []⟩) (fun _ R s => s.heap.IsList l1 xs ∧ s.heap.IsTuple l2 ys ∧
    R (.ok (.ret (.ref (zH "list_iterator" "tuple_iterator" l1 l2 s.heap).objs.size))) { s with heap := (zH "list_iterator" "tuple_iterator" l1 l2 s.heap).push (zO s.heap "list_iterator" "tuple_iterator" l1 l2) }) :=
  .of_wp fun prog w A R s h => by
    obtain ⟨hp, g, d, tk, os⟩ := s; obtain ⟨hl1, hl2, h⟩ := h
    have hsub := sub_zip
    have hL1 : Heap.IsList (Shared.heap ⟨hp, g, d, tk, os⟩) l1 xs := hl1
    have hL2 : Heap.IsTuple (Shared.heap ⟨hp.push (itO "list_iterator" l1), g, d, tk, os⟩) l2 ys := Heap.IsTuple.push hl2 _
    wp_walk using wpAny_pyIter_list hL1, wpAny_pyIter_tuple hL2
    exact ⟨_, rfl, h⟩
theorem zipNewTT (l1 l2 : Nat) (xs ys : Array Value) : Meets (Builtin.«zip.__new__» ⟨[.type "zip", .ref l1, .ref l2], []⟩) (fun _ R s => s.heap.IsTuple l1 xs ∧ s.heap.IsTuple l2 ys ∧
    R (.ok (.ret (.ref (zH "tuple_iterator" "tuple_iterator" l1 l2 s.heap).objs.size))) { s with heap := (zH "tuple_iterator" "tuple_iterator" l1 l2 s.heap).push (zO s.heap "tuple_iterator" "tuple_iterator" l1 l2) }) :=
  .of_wp fun prog w A R s h => by
    obtain ⟨hp, g, d, tk, os⟩ := s; obtain ⟨hl1, hl2, h⟩ := h
    have hsub := sub_zip
    have hL1 : Heap.IsTuple (Shared.heap ⟨hp, g, d, tk, os⟩) l1 xs := hl1
    have hL2 : Heap.IsTuple (Shared.heap ⟨hp.push (itO "tuple_iterator" l1), g, d, tk, os⟩) l2 ys := Heap.IsTuple.push hl2 _
    wp_walk using wpAny_pyIter_tuple hL1, wpAny_pyIter_tuple hL2
    exact ⟨_, rfl, h⟩
section
variable {prog : Program} {w : World} {A : Around} {E : Value → Shared → Prop} {s : Shared} {l1 l2 : Nat} {xs ys : Array Value}
theorem zHeap {T1 T2 : String} {h : Heap} : ∃ h', h' = (zH T1 T2 l1 l2 h).push (zO h T1 T2 l1 l2) ∧ (zH T1 T2 l1 l2 h).objs.size = h.objs.size + 4 ∧ IsZip h' (h.objs.size + 4) (h.objs.size + 2) (h.objs.size + 3) .none ∧ IsPair h' (h.objs.size + 2) (.ref h.objs.size) (.ref (h.objs.size + 1)) ∧
    IsPair h' (h.objs.size + 3) .none .none ∧ h'.get? h.objs.size = some (itO T1 l1) ∧ h'.get? (h.objs.size + 1) = some (itO T2 l2) ∧ Sub h h' := by
  have z1 : (h.push (itO T1 l1)).objs.size = h.objs.size + 1 := Heap.size_push ..
  have z2 : ((h.push (itO T1 l1)).push (itO T2 l2)).objs.size = h.objs.size + 2 := by rw [Heap.size_push, z1]
  have z3 : (((h.push (itO T1 l1)).push (itO T2 l2)).push { cls := .type "tuple", data := .seq #[.ref h.objs.size, .ref (h.push (itO T1 l1)).objs.size] }).objs.size = h.objs.size + 3 := by rw [Heap.size_push, z2]
  have z4 : (zH T1 T2 l1 l2 h).objs.size = h.objs.size + 4 := by rw [Heap.size_push, z3]
  have g5 : ((zH T1 T2 l1 l2 h).push (zO h T1 T2 l1 l2)).get? (zH T1 T2 l1 l2 h).objs.size = some (zO h T1 T2 l1 l2) := Heap.get?_push_size _ rfl
  have g4 : ((zH T1 T2 l1 l2 h).push (zO h T1 T2 l1 l2)).get? (((h.push (itO T1 l1)).push (itO T2 l2)).push { cls := .type "tuple", data := .seq #[.ref h.objs.size, .ref (h.push (itO T1 l1)).objs.size] }).objs.size = some { cls := .type "tuple", data := .seq #[.none, .none] } :=
    Heap.get?_push_of_some _ (Heap.get?_push_size _ rfl)
  have g3 : ((zH T1 T2 l1 l2 h).push (zO h T1 T2 l1 l2)).get? ((h.push (itO T1 l1)).push (itO T2 l2)).objs.size = some { cls := .type "tuple", data := .seq #[.ref h.objs.size, .ref (h.push (itO T1 l1)).objs.size] } :=
    Heap.get?_push_of_some _ (Heap.get?_push_of_some _ (Heap.get?_push_size _ rfl))
  have g2 : ((zH T1 T2 l1 l2 h).push (zO h T1 T2 l1 l2)).get? (h.push (itO T1 l1)).objs.size = some (itO T2 l2) :=
    Heap.get?_push_of_some _ (Heap.get?_push_of_some _ (Heap.get?_push_of_some _ (Heap.get?_push_size _ rfl)))
  have g1 : ((zH T1 T2 l1 l2 h).push (zO h T1 T2 l1 l2)).get? h.objs.size = some (itO T1 l1) :=
    Heap.get?_push_of_some _ (Heap.get?_push_of_some _ (Heap.get?_push_of_some _ (Heap.get?_push_of_some _ (Heap.get?_push_size _ rfl))))
  rw [z4] at g5
  rw [z3] at g4
  rw [z2, z1] at g3
  rw [z1] at g2
  refine ⟨_, rfl, z4, ?_, g3, g4, g1, g2, fun c o x => Heap.get?_push_of_some _ (Heap.get?_push_of_some _ (Heap.get?_push_of_some _ (Heap.get?_push_of_some _ (Heap.get?_push_of_some _ x))))⟩
  show _ = _
  rw [g5]
  unfold zO
  rw [z2, z3]
theorem apartZ {n : Nat} (h1 : l1 < n) (h2 : l2 < n) : ZipApart (n + 4) (n + 2) (n + 3) n (n + 1) l1 l2 := by
  have q : ∀ {a b : Nat}, a ≠ b → @Ne Addr a b := fun h => h
  constructor <;> (apply q; lia)
/-- zip(..) as the source of a loop -/
theorem zip_callLT {Q : Value → Shared → Prop} (hl1 : s.heap.IsList l1 xs) (hl2 : s.heap.IsTuple l2 ys)
    (h : ∀ h' z, z = s.heap.objs.size + 4 → Sub s.heap h' → ZSt z (s.heap.objs.size + 2) (s.heap.objs.size + 3) s.heap.objs.size (s.heap.objs.size + 1) (fun k h => h.IsListIter s.heap.objs.size l1 k ∧ h.IsList l1 xs) (fun k h => h.IsTupleIter (s.heap.objs.size + 1) l2 k ∧ h.IsTuple l2 ys) 0 h' →
      Q (.ref z) { s with heap := h' }) :
    wpAny (model prog w) A (call (.type "zip") [.ref l1, .ref l2]) Q E s := by
  obtain ⟨h', rfl, zs, hz, hTI, hTO, g1, g2, hsub⟩ := zHeap (l1 := l1) (l2 := l2) (T1 := "list_iterator") (T2 := "tuple_iterator") (h := s.heap)
  refine callType_new F.called_zip (by decide) (F.typeCall_zip_2 _ _) (F.newCall_zip_2 _ _) (fun obj => F.args_object_init_3 obj _ _) F.entry_zip_new (zipNewLT l1 l2 xs ys) ⟨hl1, hl2, ?_⟩
  rw [zs]
  exact ⟨⟨_, hz, rfl⟩, h _ _ rfl hsub ⟨hz, hTI, ⟨_, _, hTO⟩, ⟨⟨_, g1, rfl, rfl⟩, hl1.at fun o e => hsub _ o e⟩, ⟨⟨_, g2, rfl, rfl⟩, hl2.at fun o e => hsub _ o e⟩⟩⟩
theorem zip_callTT {Q : Value → Shared → Prop} (hl1 : s.heap.IsTuple l1 xs) (hl2 : s.heap.IsTuple l2 ys)
    (h : ∀ h' z, z = s.heap.objs.size + 4 → Sub s.heap h' → ZSt z (s.heap.objs.size + 2) (s.heap.objs.size + 3) s.heap.objs.size (s.heap.objs.size + 1) (fun k h => h.IsTupleIter s.heap.objs.size l1 k ∧ h.IsTuple l1 xs) (fun k h => h.IsTupleIter (s.heap.objs.size + 1) l2 k ∧ h.IsTuple l2 ys) 0 h' →
      Q (.ref z) { s with heap := h' }) :
    wpAny (model prog w) A (call (.type "zip") [.ref l1, .ref l2]) Q E s := by
  obtain ⟨h', rfl, zs, hz, hTI, hTO, g1, g2, hsub⟩ := zHeap (l1 := l1) (l2 := l2) (T1 := "tuple_iterator") (T2 := "tuple_iterator") (h := s.heap)
  refine callType_new F.called_zip (by decide) (F.typeCall_zip_2 _ _) (F.newCall_zip_2 _ _) (fun obj => F.args_object_init_3 obj _ _) F.entry_zip_new (zipNewTT l1 l2 xs ys) ⟨hl1, hl2, ?_⟩
  rw [zs]
  exact ⟨⟨_, hz, rfl⟩, h _ _ rfl hsub ⟨hz, hTI, ⟨_, _, hTO⟩, ⟨⟨_, g1, rfl, rfl⟩, hl1.at fun o e => hsub _ o e⟩, ⟨⟨_, g2, rfl, rfl⟩, hl2.at fun o e => hsub _ o e⟩⟩⟩
end
end Mine

end
section
open PySem PySem.Spec PySem.Calls PySem.W PyProof.Rows
set_option Elab.async false
set_option linter.unusedVariables false
set_option maxRecDepth 100000
namespace Mine

theorem kxZc : True := by
  k_with_none
  k_with "ne" => (refine neN ?_; (try dsimp only); first | with_reducible assumption | exact Ne.symm (by with_reducible assumption) | exact Nat.ne_of_lt (by with_reducible assumption) | exact Nat.ne_of_gt (by with_reducible assumption) | lia)
  k_with "mem" => first | exact nm0 | (refine nmC ?_ ?_; k_ne; k_mem) | (refine inL ?_; k_mem) | exact fa0 | (refine faC ?_ ?_; k_mem; k_mem)
  trivial
noncomputable abbrev pairO (x y : Value) : Obj := { cls := .type "tuple", data := .seq #[x, y] }
theorem ns_ne {h : Heap} {C T : Nat} {m : Str → Option Value} {x y : Value} (n : h.Ns C m) (t : IsPair h T x y) : T ≠ C := by
  rintro rfl
  obtain ⟨o, _, _, ho, _⟩ := n
  first | exact nS (t) ho | (rw [t] at ho; cases ho)
  simp_all
inductive OrEnd (gB : Heap) (C T : Nat) (x y : Value) (r : Option Int) (frz : List (Addr × Obj)) (G : Array GenState) (Dr : Drawn) (O : OsState) (v : Value) (s₃ : Shared) : Prop
  | mk (h' : Heap) (tk' : Nat) (m' : Str → Option Value) (f1 : s₃ = ⟨h', G, Dr, tk', O⟩) (f2 : Fr gB C h' m') (f3 : News gB C h' ((T, pairO x y) :: frz)) (f4 : PartIs r v)
/-- one value of such a comprehension -/
def EltOr (w : World) (mean : ExcName → Option Value) (mg mb : Str → Option Value) (A : Around) (env : Env) (elt target : Expr) (scope : Scope) (cl : List (Str × Addr)) (G : Array GenState) (Dr : Drawn) (O : OsState) : Prop :=
  ∀ (gB : Heap) (C : Nat) (h : Heap) (tk : Nat) (m₂ : Str → Option Value) (T : Nat) (p q : Option Int) (x y : Value) (frz : List (Addr × Obj)), (hd.heap_39 w.params).In gB → Top Vw Lo mean mg mb gB →
    Fr gB C h m₂ → News gB C h ((T, pairO x y) :: frz) → PartIs p x → PartIs q y →
    wpAny (model Pg w) A (assign target (compEnvC scope cl C env) (.ref T)) (fun _ s₂ => wpAny (model Pg w) A (eval elt (compEnvC scope cl C env)) (OrEnd gB C T x y (p.or q) frz G Dr O) Nv s₂) Nv ⟨h, G, Dr, tk, O⟩

theorem zip_comp {w : World} {mean : ExcName → Option Value} {mg mb : Str → Option Value} {A : Around} {env : Env} {elt : Expr} {elts : List Expr} {kk : Nat} {pos : Pos} {scope : Scope} {cl : List (Str × Addr)}
    {g : Heap} {L : Nat} {m : Str → Option Value} {hp : Heap} {G : Array GenState} {Dr : Drawn} {t0 : Nat} {O : OsState} {news : List (Addr × Obj)} {l1 l2 : Nat} {xs ys : List Value} {ps qs : List (Option Int)} {S1 S2 : Nat → Heap → Prop}
    {fn : Shared → Nat → List Value → Nat → List Nat → Heap → Nat → Prop} {E : Value → Shared → Prop}
    (X : (hd.heap_39 w.params).In g) (T : Top Vw Lo mean mg mb g) (F : Fr g L hp m) (N : News g L hp news) (hh : A.handled = none)
    (hcall : ∀ (Q : Value → Shared → Prop) (E : Value → Shared → Prop), (∀ h' z, z = hp.objs.size + 4 → Sub hp h' → ZSt z (hp.objs.size + 2) (hp.objs.size + 3) hp.objs.size (hp.objs.size + 1) S1 S2 0 h' → Q (.ref z) ⟨h', G, Dr, t0, O⟩) →
      wpAny (model Pg w) A (call (.type "zip") [.ref l1, .ref l2]) Q E ⟨hp, G, Dr, t0, O⟩)
    (I1 : Inner hp.objs.size l1 xs.toArray S1) (I2 : Inner (hp.objs.size + 1) l2 ys.toArray S2) (h1 : l1 < hp.objs.size) (h2 : l2 < hp.objs.size) (hx : Are PartIs ps xs) (hy : Are PartIs qs ys) (hsz : ps.length = qs.length) (hb : ps.length ≤ 100)
    (helt : EltOr w mean mg mb A env elt (.Tuple elts kk pos) scope cl G Dr O)
    (fin : ∀ h2 zs (D : Nat) C av h' tk' e, Fr g L h' m → News g L h' ((D, lstO zs e) :: news) → (∀ p ∈ news, p.1 < D) → Are PartIs (List.zipWith Option.or ps qs) zs → g.get? C = none → (∀ p ∈ (D, lstO zs e) :: news, p.1 ≠ C) → fn ⟨h2, G, Dr, t0, O⟩ D zs C av h' tk') :
    wpAny (model Pg w) A (call (.type "zip") [.ref l1, .ref l2]) (fun xv s₁ => wpAny (model Pg w) A (pyIter xv) (fun it s₂ => (∃ m, s₂.heap.Ns L m) ∧ CompAt Pg w A env elt (.Tuple elts kk pos) [] scope cl s₂ it (fn s₂)) E s₁) E ⟨hp, G, Dr, t0, O⟩ := by
  refine hcall _ _ fun h0 z hz sub0 st0 => wpAny_pyIter_zip st0.1 ?_
  refine ⟨⟨m, F.ns.at' fun o e => sub0 _ _ e⟩, ?_⟩
  have zlt : z < h0.objs.size := ltSz st0.1
  have iz1 : hp.objs.size < h0.objs.size := I1.lt _ _ st0.2.2.2.1
  have len1 : xs.length = ps.length := hx.length.symm
  have len2 : ys.length = qs.length := hy.length.symm
  have fresh : ∀ a, hp.objs.size ≤ a → g.get? a = none := fun a ha => fresh_none F.keep ha
  refine ⟨z, _, _, [], _, _, _, rfl, ItS.zip hh (by subst hz; exact apartZ h1 h2) I1 I2 (by simp [len1, len2, hsz]), ?_, st0, ?_, by simp, ?_⟩
  · rw [sizeLine_eq, List.size_toArray, len1]; lia
  · show ∀ b ∈ [z, hp.objs.size + 2, hp.objs.size + 3, hp.objs.size, hp.objs.size + 1, l1, l2], b < h0.objs.size
    have a : hp.objs.size + 4 < h0.objs.size := by lia
    refine faC ?_ (faC ?_ (faC ?_ (faC ?_ (faC ?_ (faC ?_ (faC ?_ fa0)))))) <;> lia
  intro D C hD hC
  replace hD : D = h0.objs.size := hD
  replace hC : C = h0.objs.size + 1 := hC
  have kdrop : ∀ {h : Heap}, KB ([] ++ [z, hp.objs.size + 3, hp.objs.size, hp.objs.size + 1]) h0 h → Sub hp h := fun {h} kb b o e => by
    have := ltSz e
    exact kb b o (by first | k_mem | (simp; lia)) (sub0 _ _ e)
  refine ⟨fun i zs _ => Are PartIs ((List.zipWith Option.or ps qs).take i) zs, ?_, fun _ _ _ _ a _ => a, ?_, ?_⟩
  · exact .nil
  · rintro i v zs h tk m₁ hi ⟨x, y, T', rfl, hx', hy', ht, htn⟩ hst hJ hnsC hkb
    have hsubp := kdrop hkb
    have hsubg : Sub g h := fun b o e => hsubp b o (F.keep b o e)
    have TC : T' ≠ C := ns_ne hnsC ht
    have gT : g.get? T' = none := fresh _ (by lia)
    obtain ⟨frz, F2, N2, off, infrz, kback⟩ := kmode (own := [(T', pairO x y)]) (g := g) hnsC hsubg (by have a1 : g.objs.size ≤ L := F.above; have a2 : L < hp.objs.size := F.ns.lt; lia) (by
      intro p hp'
      obtain rfl := List.mem_singleton.mp hp'
      exact ⟨ht, TC, gT⟩)
    have hip : i < ps.length := by rw [← len1]; simpa using hi
    have hiq : i < qs.length := by lia
    obtain ⟨p, hp, hpx⟩ := hx.get' (i := i) (v := x) (by simpa using hx')
    obtain ⟨q, hq, hqy⟩ := hy.get' (i := i) (v := y) (by simpa using hy')
    refine wpQ (helt g C h tk m₁ T' p q x y frz X T F2 N2 hpx hqy) fun _ s₂ k₂ => wpAny_tests_nil ?_
    simp only [if_true]
    refine wpQ k₂ ?_
    rintro v s₃ ⟨h', tk', m', rfl, F3, N3, hv⟩
    refine ⟨h', tk', m', rfl, ?_, F3.ns, ?_⟩
    · intro b o nb e
      have hbC : b ≠ C := by first | exact nb | simpa using nb
      by_cases hbT : b = T'
      · subst hbT; first | exact nS (ht) e | (rw [ht] at e; cases e); exact (N3 _ (.head _)).1
      · exact kback h' m' _ F3 N3 (fun p hp' => List.mem_cons_of_mem _ hp') b o (by simp; exact ⟨hbC, hbT⟩) e
    · have e : (List.zipWith Option.or ps qs).take (i + 1) = (List.zipWith Option.or ps qs).take i ++ [p.or q] := by
        rw [List.take_add_one]
        congr 1
        rw [List.getElem?_zipWith, hp, hq]; rfl
      show Are PartIs ((List.zipWith Option.or ps qs).take (i + 1)) _
      rw [e]; exact hJ.snoc hv
  · rintro zs h tk hJ hpl hkb
    have hsubp := kdrop hkb
    obtain ⟨e, hpl⟩ := hpl
    have hJ' : Are PartIs (List.zipWith Option.or ps qs) zs := by
      have hJ : Are PartIs ((List.zipWith Option.or ps qs).take xs.toArray.size) zs := hJ
      rw [List.take_of_length_le (by simp [len1]; lia)] at hJ
      exact hJ
    have hDle : hp.objs.size ≤ D := by lia
    obtain ⟨F', N', l'⟩ := news_add F N hsubp hDle hpl
    refine fin _ zs D C _ h tk e F' N' l' hJ' (fresh _ (by lia)) fun p hp' => ?_
    rcases List.mem_cons.mp hp' with rfl | hp'
    · exact neN (show D ≠ C by lia)
    · have h2 : @LT.lt Nat _ p.1 hp.objs.size := ltSz (N p hp').1
      exact neN (by lia)
theorem aftC {g h h'' : Heap} {L C : Nat} {m m' : Str → Option Value} {news : List (Addr × Obj)} (F : Fr g L h m) (N : News g L h news) (gC : g.get? C = none) (nC : ∀ p ∈ news, p.1 ≠ C) (hn : h''.Ns L m') (hk : KB [L, C] h h'') : Fr g L h'' m' ∧ News g L h'' news := by
  refine ⟨⟨hn, fun b o e => hk b o (fun q => ?_) (F.keep b o e), F.above⟩, fun p hp => ⟨hk _ _ (fun q => ?_) (N p hp).1, (N p hp).2⟩⟩
  · simp only [List.mem_cons, List.not_mem_nil, or_false] at q
    rcases q with q | q <;> replace q := q.symm <;> subst q
    · first | exact nS (gL_none F) e | (rw [gL_none F] at e; cases e)
    · first | exact nS (gC) e | (rw [gC] at e; cases e)
  · simp only [List.mem_cons, List.not_mem_nil, or_false] at q
    rcases q with q | q
    · exact (N p hp).2.1 q
    · exact nC p hp q
theorem storeC {prog : Program} {w : World} {A : Around} {E : Value → Shared → Prop} {s : Shared} {g : Heap} {C : Nat} {m : Str → Option Value} {news : List (Addr × Obj)} {env : Env} {x : Str} {v : Value} {Q : Unit → Shared → Prop}
    (F : Fr g C s.heap m) (N : News g C s.heap news) (hC : env.locals = C) (hx : env.kindOf x = some .local) (hk : env.scope.kind = .function)
    (h : ∀ h', Fr g C h' (fun z => if z = x then some v else m z) → News g C h' news → Q () { s with heap := h', toks := s.toks + 1 }) :
    wpAny (model prog w) A (storeName env x v) Q E s := by
  subst hC
  refine wpAny_storeName_local hx F.ns (fun h₂ hn₂ hs₂ => ?_) ?_
  · have kb := KB.of_sameBut hs₂
    refine h h₂ ⟨hn₂, fun b o e => kb b o (fun q => ?_) (F.keep b o e), F.above⟩ fun p hp => ⟨kb _ _ (fun q => (N p hp).2.1 (List.mem_singleton.mp q)) (N p hp).1, (N p hp).2⟩
    first | exact nS2 (List.mem_singleton.mp q) (gL_none F) e | (rw [List.mem_singleton.mp q, gL_none F] at e; cases e)
  · rw [hk]; rfl
end Mine

end
section
open PySem PySem.Spec PySem.Calls PySem.W PyProof.Rows
set_option Elab.async false
set_option maxRecDepth 100000
namespace Mine
theorem kxDv : True := by
  k_with_none
  k_with "ne" => (refine neN ?_; (try dsimp only); first | with_reducible assumption | exact Ne.symm (by with_reducible assumption) | exact Nat.ne_of_lt (by with_reducible assumption) | exact Nat.ne_of_gt (by with_reducible assumption) | lia)
  k_with "mem" => first | exact nm0 | (refine nmC ?_ ?_; k_ne; k_mem) | (refine inL ?_; k_mem) | exact fa0 | (refine faC ?_ ?_; k_mem; k_mem)
  trivial
theorem va_cons (a : Str × Value) (l : List (Str × Value)) (x : Str) : valueAt (a :: l) x = if a.1 = x then some a.2 else valueAt l x := by
  unfold valueAt
  rw [List.find?_cons]
  by_cases h : a.1 = x
  · rw [decide_eq_true h, if_pos h]; rfl
  · rw [decide_eq_false h, if_neg h]
theorem va_app {l : List (Str × Value)} {k : Str} (v : Value) (x : Str) (h : valueAt l k = none) : valueAt (l ++ [(k, v)]) x = if x = k then some v else valueAt l x := by
  induction l with
  | nil =>
    rw [List.nil_append, va_cons]
    by_cases e : x = k
    · rw [if_pos e.symm, if_pos e]
    · rw [if_neg (Ne.symm e), if_neg e]
  | cons a l ih =>
    rw [va_cons] at h
    have ha : a.1 ≠ k := fun e => by rw [if_pos e] at h; cases h
    rw [if_neg ha] at h
    rw [List.cons_append, va_cons, va_cons, ih h]
    by_cases e : a.1 = x
    · rw [if_pos e, if_pos e, if_neg (e ▸ ha)]
    · rw [if_neg e, if_neg e]
theorem va_map_ne (l : List (Str × Value)) {k x : Str} (v : Value) (h : x ≠ k) : valueAt (l.map fun kv => if kv.1 = k then (kv.1, v) else kv) x = valueAt l x := by
  induction l with
  | nil => rfl
  | cons a l ih =>
    rw [List.map_cons, va_cons, va_cons, ih]
    by_cases ha : a.1 = k
    · rw [if_pos ha, if_neg (by show a.1 ≠ x; rw [ha]; exact Ne.symm h), if_neg (by rw [ha]; exact Ne.symm h)]
    · rw [if_neg ha]
theorem va_map_eq (l : List (Str × Value)) {k : Str} (v : Value) (h : valueAt l k ≠ none) : valueAt (l.map fun kv => if kv.1 = k then (kv.1, v) else kv) k = some v := by
  induction l with
  | nil => exact absurd rfl h
  | cons a l ih =>
    rw [List.map_cons, va_cons]
    rw [va_cons] at h
    by_cases ha : a.1 = k
    · rw [if_pos ha, if_pos ha]
    · rw [if_neg ha] at h ⊢
      rw [if_neg ha]
      exact ih h
theorem valueAt_stored (kvs : List (Str × Value)) (k x : Str) (v : Value) : valueAt (stored kvs k v) x = if x = k then some v else valueAt kvs x := by
  cases h : valueAt kvs k with
  | none => rw [stored_absent h, va_app v x h]
  | some y =>
    have hn : valueAt kvs k ≠ none := by rw [h]; exact nofun
    have e : stored kvs k v = kvs.map (fun kv => if kv.1 = k then (kv.1, v) else kv) := by
      unfold stored
      rw [if_pos]
      cases hf : kvs.find? (fun kv => decide (kv.1 = k)) with
      | none => exact absurd (show valueAt kvs k = none by unfold valueAt; rw [hf]; rfl) hn
      | some z => exact List.any_eq_true.mpr ⟨z, List.mem_of_find?_eq_some hf, List.find?_some (p := fun kv : Str × Value => decide (kv.1 = k)) hf⟩
    rw [e]
    by_cases hx : x = k
    · rw [if_pos hx, hx]; exact va_map_eq kvs v hn
    · rw [if_neg hx]; exact va_map_ne kvs v hx
end Mine
namespace Mine
section
variable {prog : Program} {w : World} {A : Around} {E : Value → Shared → Prop} {s : Shared} {d : Nat} {o : Obj}
theorem inB {kvs : List (Str × Value)} {x : Str} {t : Tok} {b : Bool} {Q : Value → Shared → Prop} (hl : (d == sysModules) = false) (ho : s.heap.get? d = some o) (hd : o.IsDictOf (strKind prog w) kvs) (hv : (valueAt kvs x).isSome = b)
    (h : Q (.bool b) { s with toks := s.toks + 1 }) : wpAny (model prog w) A (compareOp .In (.str x t) (.ref d)) Q E s :=
  wpAny_in_of (strKind_is prog w x t) hl (Heap.DictOf.mapOf (Heap.dictOf_iff.mpr ⟨o, ho, hd⟩)) (by rw [hv]; exact h)
theorem notinB {kvs : List (Str × Value)} {x : Str} {t : Tok} {b : Bool} {Q : Value → Shared → Prop} (hl : (d == sysModules) = false) (ho : s.heap.get? d = some o) (hd : o.IsDictOf (strKind prog w) kvs) (hv : (!(valueAt kvs x).isSome) = b)
    (h : Q (.bool b) { s with toks := s.toks + 1 }) : wpAny (model prog w) A (compareOp .NotIn (.str x t) (.ref d)) Q E s :=
  wpAny_notIn_of (strKind_is prog w x t) hl (Heap.DictOf.mapOf (Heap.dictOf_iff.mpr ⟨o, ho, hd⟩)) (by rw [hv]; exact h)
theorem itemB {value slice : Expr} {kvs : List (Str × Value)} {x : Str} {t : Tok} {v : Value} {Q : Value → Shared → Prop} (ho : s.heap.get? d = some o) (hd : o.IsDictOf (strKind prog w) kvs) (hv : valueAt kvs x = some v)
    (h : Q v { s with toks := s.toks + 1 })
    (hs : subscripted slice false (.ref d) (.str x t) = operate [.ref d, .str x t] (getItem (.ref d) (.str x t))) (hg : ∀ r, letTemporaryGo value (.ref d) r = pure ()) :
    wpAny (model prog w) A (subscriptTail value slice (.ref d) (.str x t)) Q E s := by
  have hD : s.heap.DictOf (strKind prog w) d kvs := Heap.dictOf_iff.mpr ⟨o, ho, hd⟩
  exact subscriptTail_builtin hD.typeIs slot_dict_getitem.lookup (wpAny_getItem_of (strKind_is prog w x t) hD.mapOf hv h) hs hg
theorem popN {g : Heap} {L : Nat} {m : Str → Option Value} {news : List (Addr × Obj)} {gN : Obj → List (Addr × Obj)} {l : Nat} {vs : List Value} {v : Value} {n : Nat} {Q : Value → Shared → Prop}
    (F : Fr g L s.heap m) (N : News g L s.heap news) (U : UpdF l (lstO (vs ++ [v]) n) news gN) (hsz : vs.length ≤ 1000)
    (h : ∀ h' n', Fr g L h' m → News g L h' (gN (lstO vs n')) → Q v { s with heap := h' }) :
    wpAny (model prog w) A (call (.builtin "list.pop") [.ref l]) Q E s := by
  have hl := (N _ (updF_mem U)).1
  refine call_meets PySem.F.slot_list_pop ⟨_, hl, rfl⟩ PySem.F.entry_list_pop (PySem.F.args_list_pop_1 _) (PySem.MeetsSeq.list_pop_last l (vs ++ [v]).toArray n v (by first | k_mem | simp) (by rw [sizeLine_eq, List.size_toArray]; simp; lia)) ⟨hl, ?_⟩
  have e := IsL.update (show IsL s.heap l (vs ++ [v]).toArray n from hl) (fun xs => xs.eraseIdxIfInBounds ((vs ++ [v]).toArray.size - 1))
  have e2 : (vs ++ [v]).toArray.eraseIdxIfInBounds ((vs ++ [v]).toArray.size - 1) = vs.toArray := by simp [Array.eraseIdxIfInBounds, List.eraseIdx_append_of_length_le (Nat.le_refl vs.length)]
  rw [e2] at e
  obtain ⟨F', N'⟩ := upd_fr F N U (KB.of_sameBut (Heap.SameBut.update ..)) (show _ = some (lstO vs _) from e)
  exact h _ _ F' N'
theorem extN {g : Heap} {L : Nat} {m : Str → Option Value} {news : List (Addr × Obj)} {gN : Obj → List (Addr × Obj)} {l b : Nat} {vs ws : List Value} {n n2 : Nat} {Q : Value → Shared → Prop}
    (F : Fr g L s.heap m) (N : News g L s.heap news) (U : UpdF l (lstO vs n) news gN) (hb : (b, lstO ws n2) ∈ news) (hsz : vs.length + ws.length ≤ 1000)
    (h : ∀ h' n', Fr g L h' m → News g L h' (gN (lstO (vs ++ ws) n')) → Q .none { s with heap := h' }) :
    wpAny (model prog w) A (call (.builtin "list.extend") [.ref l, .ref b]) Q E s := by
  have hl := (N _ (updF_mem U)).1
  refine call_meets PySem.F.slot_list_extend ⟨_, hl, rfl⟩ PySem.F.entry_list_extend (PySem.F.args_list_extend_2 _ _) (PySem.AutoSeq1.list_extend_list_list_0 l vs.toArray n b ws.toArray n2 ?_ (by rw [sizeLine_eq, List.size_toArray]; lia) (by rw [sizeLine_eq, List.size_toArray, List.size_toArray]; lia)) ⟨hl, (N _ hb).1, ?_⟩
  · have : Builtin.List.listTooLong (vs.toArray.size + ws.toArray.size) = false := by
      unfold Builtin.List.listTooLong
      rw [sizeLine_eq, List.size_toArray, List.size_toArray, decide_eq_false_iff_not]; lia
    rw [this]; simp
  · have e := IsL.update (show IsL s.heap l vs.toArray n from hl) (fun xs => xs ++ ws.toArray)
    have e2 : vs.toArray ++ ws.toArray = (vs ++ ws).toArray := by simp
    rw [e2] at e
    obtain ⟨F', N'⟩ := upd_fr F N U (KB.of_sameBut (Heap.SameBut.update ..)) (show _ = some (lstO (vs ++ ws) _) from e)
    exact h _ _ F' N'
end
end Mine
namespace Mine
theorem while_rule' {prog : Program} {w : World} {A : Around} {env : Env} {test : Expr} {body : List Stmt} {pos : Pos} {Q : Flow → Shared → Prop} {s : Shared} {E : Value → Shared → Prop} (I : Nat → Shared → Prop)
    (turn : ∀ n s, I n s → ∀ Qc : Shared → Prop, (∀ s' m, m < n → I m s' → Qc s') → wpAny (model prog w) A (isTrue test env (eval test env)) (fun b s₂ =>
        if b = true then wpAny (model prog w) A (execs body env) (fun f s₃ => match f with
            | .next | .cont => Qc s₃
            | .brk => Q .next s₃
            | .ret v => Q (.ret v) s₃) Nv s₂
        else Q .next s₂) Nv s)
    (n : Nat) (h : I n s) : wpAny (model prog w) A (exec (.While test body [] pos) env) Q E s :=
  while_rule I (fun n s hI => turn n s hI (fun s' => ∃ m, m < n ∧ I m s') fun s' m a b => ⟨m, a, b⟩) n h
end Mine

end
section
open PySem PySem.Spec PySem.Calls PySem.W PyProof.Rows
set_option Elab.async false
set_option linter.unusedVariables false
set_option maxRecDepth 100000
namespace Mine

section enter
variable {prog : Program} {w : World} {A : Around} {K : Frag} {p : Program} {loose : List Str} {mean : ExcName → Option Value} {mg mb : Str → Option Value}
  {g₀ : Heap} {s : Shared} {R : Result → Shared → Prop} {own : List (Addr × Obj)} {name qual : Str} {params : Arguments} {body : List Stmt} {scope : Scope}
  {dV kV doc pm cdv ct oc : Value} {an od : Option Addr} {osl : Array (Option Value)} {f : Addr} {args : Args} {binds : List (Str × Value)}

theorem enter1 (X : K.In g₀) (T : Top p loose mean mg mb g₀) (hg : Sub g₀ s.heap) (hown : ∀ q ∈ own, s.heap.get? q.1 = some q.2 ∧ g₀.get? q.1 = none)
    (ho : K.lookup f = some ⟨oc, od, .func (fnOf name qual params body scope dV kV doc pm an cdv ct), osl⟩) (hcd : codeIn K cdv qual = true) (hroom : A.depth < recursionLimit)
    (hbind : BindsTo s (fnOf name qual params body scope dV kV doc pm an cdv ct) args binds) (hloc : ∀ y ∈ binds, scope.names.lookup y.1 = some .local)
    (h : ∀ g L h₁, Fr g L h₁ (fun y => binds.reverse.lookup y) → News g L h₁ own → K.In g → Top p loose mean mg mb g → (∀ p ∈ own, p.1 < L) →
      KB (own.map (·.1)) s.heap g → Sub g₀ g → s.heap.objs.size ≤ L →
      wpAny (model prog w) (A.deeper (envOf qual scope L f cdv)) (execs body (envOf qual scope L f cdv))
        (fun fl s' => R (.ok (.ret (match fl with | .ret v => v | _ => .none))) s') (fun _ _ => False) { s with heap := h₁, toks := s.toks + binds.length })
    (hcell : ∀ x ∈ scope.names, x.2 ≠ .cell) (hco : scope.isCoroutine = false) (hgen : scope.isGenerator = false) (hk : scope.kind = .function) :
    codeAny (model prog w) A (.call (.ref f) args) R s := by
  refine codeAny_call_def (fd := fnOf name qual params body scope dV kV doc pm an cdv ct) (body := body) (binds := binds) hroom (hg _ _ (X _ _ ho)) rfl (T.nolimit.keeps hg)
    (codeRec_of (X.keeps hg) hcd) rfl hbind hcell hloc (fun h₁ hns hk₁ => ?_) hco hgen hk
  have nm : ∀ b o, g₀.get? b = some o → b ∉ own.map (·.1) := fun b o e q => by
    obtain ⟨p, hp, rfl⟩ := List.mem_map.mp q
    first | exact nS ((hown p hp).2) e | (rw [(hown p hp).2] at e; cases e)
  have st : Sub g₀ (hideAll s.heap (own.map (·.1))) := fun b o e => hideAll_get _ (hg b o e) (nm b o e)
  exact wpAny_mono (h (hideAll s.heap (own.map (·.1))) s.heap.objs.size h₁ ⟨hns, fun b o e => hk₁ b o (of_hideAll _ e), Nat.le_of_eq (hideAll_size _ _)⟩
    (fun p hp => ⟨hk₁ _ _ (hown p hp).1, Nat.ne_of_lt (Heap.lt_size (hown p hp).1), hideAll_none _ (List.mem_map_of_mem hp)⟩) (X.keeps st) (T.keeps st)
    (fun p hp => Heap.lt_size (hown p hp).1) (fun b o n e => hideAll_get _ e n) st (Nat.le_refl _)) (fun _ _ x => x) fun _ _ x => x.elim
end enter
section
variable {prog : Program} {w : World} {A : Around} {E : Value → Shared → Prop} {s : Shared} {g : Heap} {L : Nat} {m : Str → Option Value} {news : List (Addr × Obj)}
theorem tupleL {l : Addr} {vs : List Value} {n : Nat} {Q : Value → Shared → Prop}
    (F : Fr g L s.heap m) (N : News g L s.heap news) (hm : (l, lstO vs n) ∈ news) (hsz : vs.length ≤ 100)
    (h : ∀ (T : Nat) h', Fr g L h' m → News g L h' ((T, tupO vs) :: news) → (∀ p ∈ news, p.1 < T) → L < T → Q (.ref T) { s with heap := h' }) :
    wpAny (model prog w) A (call (.type "tuple") [.ref l]) Q E s := by
  refine call_tuple_list (items := vs.toArray) ⟨_, (N _ hm).1, rfl, n, rfl⟩ (fun h' hk => ?_) (by rw [List.size_toArray, sizeLine_eq]; lia)
  have F1 := F.keeps hk
  have N1 : News g L h' news := fun p hp => ⟨hk _ _ (N p hp).1, (N p hp).2⟩
  obtain ⟨F', N', l'⟩ := news_add F1 N1 (fun b o e => Heap.get?_push_of_some (tupO vs) e) (Nat.le_refl _) (Heap.get?_push_size _ rfl)
  exact h _ _ F' N' l' F1.ns.lt
end

def LookAt (h : Heap) (ks : List Int) (v : Value) : Prop := ∃ (a : Nat) (vs : List Value), v = .ref a ∧ h.IsTuple a vs.toArray ∧ Are IntIs ks vs
theorem tupKB {av : List Nat} {h h' : Heap} {a : Nat} {items : Array Value} (k : KB av h h') (x : h.IsTuple a items) (n : ∀ b ∈ av, ∃ o, h.get? b = some o ∧ o.cls ≠ .type "tuple") : h'.IsTuple a items := by
  obtain ⟨o, ho, hc, r⟩ := x
  refine ⟨o, k _ _ (fun q => ?_) ho, hc, r⟩
  obtain ⟨o', ho', hc'⟩ := n _ q
  rw [ho] at ho'; cases ho'; exact hc' hc
theorem LookAt.kb {av : List Nat} {h h' : Heap} {ks : List Int} {v : Value} (k : KB av h h') (x : LookAt h ks v) (n : ∀ b ∈ av, ∃ o, h.get? b = some o ∧ o.cls ≠ .type "tuple") : LookAt h' ks v := by
  obtain ⟨a, vs, e, x, y⟩ := x
  exact ⟨a, vs, e, tupKB k x n, y⟩
abbrev KeyI (w : World) (h : Heap) (ks : List Int) (a : Nat) : Prop := IsTupleKey (intKind Pg w) h ks a
theorem keyKB {w : World} {av : List Nat} {h h' : Heap} {ks : List Int} {a : Nat} (k : KB av h h') (x : KeyI w h ks a) (n : ∀ b ∈ av, ∃ o, h.get? b = some o ∧ o.cls ≠ .type "tuple") : KeyI w h' ks a := by
  obtain ⟨o, items, n', ho, hc, r⟩ := x
  refine ⟨o, items, n', k _ _ (fun q => ?_) ho, hc, r⟩
  obtain ⟨o', ho', hc'⟩ := n _ q
  rw [ho] at ho'; cases ho'; exact hc' hc
theorem keyItems {prog : Program} {w : World} {ks : List Int} {vs : List Value} (x : Are IntIs ks vs) : ItemsAre (intKind prog w) ks vs := by
  induction x with
  | nil => exact .nil
  | cons h _ ih =>
    obtain ⟨t, e⟩ := h
    subst e
    exact .cons (by simp [intKind, Value.isInt]) ih
theorem keyOf {w : World} {h : Heap} {ks : List Int} {T : Nat} {vs : List Value} (x : h.IsTuple T vs.toArray) (y : Are IntIs ks vs) : KeyI w h ks T := by
  obtain ⟨o, ho, hc, n, hd⟩ := x
  exact ⟨o, _, n, ho, hc, hd, keyItems y⟩

/-- what the dict of numbers holds -/
structure NumX (w : World) (h : Heap) (looks : List (List Int)) (xs : List (List Int × Addr × Value)) : Prop where
  keys : xs.map (·.1) = looks
  at_ : ∀ x ∈ xs, KeyI w h x.1 x.2.1
  val : ∀ (i : Nat) x, xs[i]? = some x → IntIs (i : Int) x.2.2
theorem NumX.kb {w : World} {av : List Nat} {h h' : Heap} {looks : List (List Int)} {xs} (k : KB av h h') (x : NumX w h looks xs) (n : ∀ b ∈ av, ∃ o, h.get? b = some o ∧ o.cls ≠ .type "tuple") : NumX w h' looks xs :=
  ⟨x.keys, fun y hy => keyKB k (x.at_ y hy) n, x.val⟩
theorem NumX.none {w : World} {h : Heap} {looks : List (List Int)} {xs} (x : NumX w h looks xs) {L : List Int} (hL : L ∉ looks) : atKey xs L = none := by
  unfold atKey
  have : (xs.find? fun y => decide (y.1 = L)) = Option.none := by
    rw [List.find?_eq_none]
    intro y hy he
    refine hL ?_
    rw [← x.keys, ← of_decide_eq_true he]
    exact List.mem_map_of_mem hy
  rw [this]; rfl
theorem NumX.some {w : World} {h : Heap} {looks : List (List Int)} {xs} (x : NumX w h looks xs) (hn : looks.Nodup) {L : List Int} {i : Nat} (hL : looks[i]? = some L) : ∃ a t, atKey xs L = some (a, .int i t) := by
  have h1 : (xs[i]?).map (·.1) = Option.some L := by rw [← List.getElem?_map, x.keys, hL]
  cases e : xs[i]? with
  | none => first | exact nS (e) h1 | (rw [e] at h1; cases h1)
  | some y =>
    rw [e] at h1
    obtain ⟨k, a, v⟩ := y
    have h2 : k = L := by simpa using h1
    subst h2
    obtain ⟨t, hv⟩ := x.val i _ e
    simp only at hv
    subst hv
    exact ⟨a, t, atKey_of_get (by rw [x.keys]; exact hn) e⟩
theorem NumX.snoc {w : World} {h : Heap} {looks : List (List Int)} {xs} (x : NumX w h looks xs) {L : List Int} {a : Nat} {t : Tok} (ha : KeyI w h L a) : NumX w h (looks ++ [L]) (xs ++ [(L, a, .int (looks.length : Nat) t)]) := by
  refine ⟨by simp [x.keys], fun y hy => ?_, fun i y hy => ?_⟩
  · rcases List.mem_append.mp hy with hy | hy
    · exact x.at_ y hy
    · rw [List.mem_singleton.mp hy]; exact ha
  · have hl : xs.length = looks.length := by rw [← x.keys]; simp
    by_cases hi : i < xs.length
    · rw [List.getElem?_append_left hi] at hy; exact x.val i y hy
    · have : i < (xs ++ [(L, a, Value.int (looks.length : Nat) t)]).length := by
        rcases Nat.lt_or_ge i (xs ++ [(L, a, Value.int (looks.length : Nat) t)]).length with q | q
        · exact q
        · first | exact nS (List.getElem?_eq_none q) hy | (rw [List.getElem?_eq_none q] at hy; cases hy)
      have : i = xs.length := by simp at this; lia
      subst this
      simp at hy
      subst hy
      exact ⟨t, by rw [hl]⟩
end Mine

end
section
open PySem PySem.Spec PySem.Calls PySem.W PyProof.Rows
set_option Elab.async false
set_option maxRecDepth 100000
namespace Mine
theorem kxMg : True := by
  k_with_none
  k_with "ne" => (refine neN ?_; (try dsimp only); first | with_reducible assumption | exact Ne.symm (by with_reducible assumption) | exact Nat.ne_of_lt (by with_reducible assumption) | exact Nat.ne_of_gt (by with_reducible assumption) | lia)
  k_with "mem" => first | exact nm0 | (refine nmC ?_ ?_; k_ne; k_mem) | (refine inL ?_; k_mem) | exact fa0 | (refine faC ?_ ?_; k_mem; k_mem)
  trivial
local macro_rules | `(tactic| k_all) => `(tactic| assumption)
local macro_rules | `(tactic| k_inst) => `(tactic| exact instUp (by assumption) (Fr.keep (by k_asm)))
theorem wMg1 : True := by
  k_with "call type:list" => k_dflt (refine' listT ?F ?N ?M ?hz ?_; (case F => k_asm); (case N => k_asm); (case M => assumption); (case hz => first | assumption | lia); intro _ _ _ _ _ l1; (try k_lt l1); (first | (revert l1; intro _) | skip))
  trivial
theorem wMg2 : True := by
  k_with "subscriptTail Name Slice ref ref" => ((with_reducible show wpAny _ _ (subscriptTail _ (PySem.Expr.Slice none none (some _) _) (Value.ref _) (Value.ref _)) _ _ _); k_dflt (refine' revN ?F ?N ?M ?pk ?hz ?hs ?ht ?_; (case F => k_asm); (case N => k_asm); (case M => k_mem); (case pk => exact IsPart.int _ _); (case hz => first | assumption | lia); (case hs => with_unfolding_all rfl); (case ht => intro _; with_unfolding_all rfl); intro _ _ _ _ l1; (try k_lt l1); (first | (revert l1; intro _) | skip)))
  trivial
theorem wMg3 : True := by
  k_with "binaryOp Add" => k_dflt (refine' addN ?F ?N ?M1 ?M2 ?hz ?_; (case F => k_asm); (case N => k_asm); (case M1 => k_mem); (case M2 => k_mem); (case hz => (simp only [List.length_reverse, List.length_cons, List.length_nil]; lia)); intro _ _ _ _ l1; (try k_lt l1); (first | (revert l1; intro _) | skip))
  trivial
theorem wMg4 : True := by
  k_with "compareOp NotEq ref ref" => k_dflt (refine' neNilF ?F ?N ?M1 ?M2 ?hx ?hu ?_; (case hx => assumption); (case F => k_asm); (case N => k_asm); (case M1 => k_mem); (case M2 => k_mem); (case hu => (dsimp only [Ar, Around.deeper]; rw [show cLine = 9900 from rfl]; lia)))
  trivial
theorem wMg5 : True := by
  k_with "compareOp NotEq ref ref" => k_dflt (refine' neNilT ?F ?N ?M1 ?M2 ?hx ?hu ?_; (case hx => assumption); (case F => k_asm); (case N => k_asm); (case M1 => k_mem); (case M2 => k_mem); (case hu => (dsimp only [Ar, Around.deeper]; rw [show cLine = 9900 from rfl]; lia)))
  trivial
theorem wMg6 : True := by
  k_with "call type:tuple" => k_dflt (refine' tupleL ?F ?N ?M ?hz ?_; (case F => k_asm); (case N => k_asm); (case M => k_mem); (case hz => assumption); intro _ _ _ _ l1 lT; (try k_lt l1); (first | (revert l1 lT; intro _ _) | (revert lT; intro _) | skip))
  trivial
theorem wMg7 : True := by
  k_with "call builtin:list.pop" => k_dflt (refine' popN ?F ?N ?U ?hz ?_; (case F => k_asm); (case N => k_asm); (case U => k_updF); (case hz => (rw [List.length_reverse]; lia)); intro _ _ _ _)
  trivial
theorem wMg8 : True := by
  k_with "compareOp In" => k_dflt (refine' inB ?hl ?ho ?hd ?hv ?_; (case ho => first | exact Fr.keep (by k_asm) _ _ (by assumption) | exact News.get (by k_asm) (by k_mem)); (case hd => assumption); (case hv => assumption); (case hl => assumption))
  trivial
theorem wMg9 : True := by
  k_with "compareOp NotIn" => k_dflt (refine' notinB ?hl ?ho ?hd ?hv ?_; (case ho => first | exact Fr.keep (by k_asm) _ _ (by assumption) | exact News.get (by k_asm) (by k_mem)); (case hd => assumption); (case hv => assumption); (case hl => assumption))
  trivial
noncomputable abbrev mM (o1 o2 : Option Value) (Df Dm Dw tb nt : Nat) : Str → Option Value := fun y => if y = Str.ofString "name" then o1 else if y = Str.ofString "face" then o2 else if y = Str.ofString "found" then some (.ref Df) else if y = Str.ofString "met" then some (.ref Dm)
  else if y = Str.ofString "waiting" then some (.ref Dw) else if y = Str.ofString "self" then some (.ref tb) else if y = Str.ofString "names" then some (.ref nt) else none
theorem mM_name {v : Value} {o1 o2 : Option Value} {Df Dm Dw tb nt : Nat} : (fun y => if y = Str.ofString "name" then some v else mM o1 o2 Df Dm Dw tb nt y) = mM (some v) o2 Df Dm Dw tb nt := by
  funext y
  by_cases h : y = Str.ofString "name"
  · rw [if_pos h]; show _ = if y = _ then _ else _; rw [if_pos h]
  · rw [if_neg h]; show (if y = _ then _ else _) = if y = _ then _ else _; rw [if_neg h, if_neg h]
theorem wMg10 : True := by
  k_with "setItem" => k_dflt (refine' sset_str ?F ?N ?U ?hd ?hz ?_; (case F => k_asm); (case N => k_asm); (case U => k_updF); (case hd => assumption); (case hz => lia); intro _ _ _ _ _)
  trivial
theorem wMg11 : True := by
  k_with "subscriptTail" => ((with_reducible show wpAny _ _ (subscriptTail _ _ (Value.ref _) (Value.str _ _)) _ _ _); k_dflt (refine' itemB ?ho ?hd ?hv ?_ ?hs ?hg; (case ho => first | exact Fr.keep (by k_asm) _ _ (by assumption) | exact News.get (by k_asm) (by k_mem)); (case hd => assumption); (case hv => assumption); (case hs => with_unfolding_all rfl); (case hg => intro _; with_unfolding_all rfl)))
  trivial
theorem wMg12 : True := by
  k_with "exec Assign cons ListComp" => k_dflt (refine' comp_assign ?hsw ?hclos ?hcell ?hkind ?hnames ?hy ?hp ?_ ?hs; (case hsw => with_unfolding_all rfl); (case hclos => with_unfolding_all rfl); (case hcell => decide); (case hkind => with_unfolding_all rfl); (case hnames => decide); (case hy => with_unfolding_all rfl); (case hp => with_unfolding_all rfl); (case hs => intro _; with_unfolding_all rfl))
  trivial
theorem mM_take {v1 v2 : Value} {o1 o2 : Option Value} {Df Df' Dm Dw tb nt : Nat} : (fun y => if y = Str.ofString "found" then some (.ref Df') else (fun y => if y = Str.ofString "face" then some v2 else if y = Str.ofString "name" then some v1 else mM o1 o2 Df Dm Dw tb nt y) y) = mM (some v1) (some v2) Df' Dm Dw tb nt := by
  funext y
  show _ = (if y = Str.ofString "name" then some v1 else if y = Str.ofString "face" then some v2 else if y = Str.ofString "found" then some (.ref Df') else if y = Str.ofString "met" then some (.ref Dm) else if y = Str.ofString "waiting" then some (.ref Dw) else if y = Str.ofString "self" then some (.ref tb) else if y = Str.ofString "names" then some (.ref nt) else none)
  by_cases h1 : y = Str.ofString "name"
  · subst h1; with_unfolding_all rfl
  by_cases h2 : y = Str.ofString "face"
  · subst h2; with_unfolding_all rfl
  by_cases h3 : y = Str.ofString "found"
  · subst h3; with_unfolding_all rfl
  · simp only [mM, if_neg h1, if_neg h2, if_neg h3]
theorem wMg13 : True := by
  k_with "call builtin:list.extend" => k_dflt (refine' extN ?F ?N ?U ?hb ?hz ?_; (case F => k_asm); (case N => k_asm); (case U => k_updF); (case hb => k_mem); (case hz => (simp only [List.length_reverse]; lia)); intro _ _ _ _)
  trivial
theorem wMg14 : True := by
  k_with "storeName" => ((with_reducible show wpAny _ _ (storeName _ (Str.ofString "own") _) _ _ _); k_dflt (refine' storeC ?F ?N ?hC ?hx ?hk ?_; (case hC => with_unfolding_all rfl); (case hx => with_unfolding_all rfl); (case hk => with_unfolding_all rfl); (case F => k_asm); (case N => k_asm); intro _ _ _))
  trivial
theorem wMg15 : True := by
  k_with "storeName" => ((with_reducible show wpAny _ _ (storeName _ (Str.ofString "part") _) _ _ _); k_dflt (refine' storeC ?F ?N ?hC ?hx ?hk ?_; (case hC => with_unfolding_all rfl); (case hx => with_unfolding_all rfl); (case hk => with_unfolding_all rfl); (case F => k_asm); (case N => k_asm); intro _ _ _))
  trivial
theorem nsEq {h : Heap} {L : Nat} {m m' : Str → Option Value} (x : h.Ns L m) (e : m = m') : h.Ns L m' := e ▸ x
inductive NameAt (w : World) (h : Heap) (F : FT) (kvs : List (Str × Value)) (n : Str) : Prop
  | no (a : F n = none) (b : valueAt kvs n = none)
  | yes (f : FaceD) (x : Nat) (a : F n = some f) (b : f.Good) (c : valueAt kvs n = some (.ref x)) (d : FaceAt w h x f)
theorem NameAt.of {w : World} {h : Heap} {F : FT} {kvs : List (Str × Value)} {n : Str} (x : (F n = none ∧ valueAt kvs n = none) ∨ ∃ f x, F n = some f ∧ f.Good ∧ valueAt kvs n = some (.ref x) ∧ FaceAt w h x f) : NameAt w h F kvs n := by
  rcases x with ⟨a, b⟩ | ⟨f, x, a, b, c, d⟩
  · exact .no a b
  · exact .yes f x a b c d
inductive MJ (w : World) (g : Heap) (L tb nt Dm Dw : Nat) (F : FT) (known top : List Str) (n : Nat) (h : Heap) : Prop
  | mk (o1 : Option Value) (o2 : Option Value) (Df : Nat) (st : List Str) (sv : List Value) (met : List Str) (kvs : List (Str × Value)) (om : Obj) (fv : List Value) (nw : Nat) (nf : Nat) (f1 : h.Ns L (mM o1 o2 Df Dm Dw tb nt)) (f2 : Sub g h) (f3 : h.get? Dw = some (lstO sv.reverse nw)) (f4 : Are StrIs st sv) (f5 : h.get? Dm = some om) (f6 : om.IsDictOf (strKind Pg w) kvs) (f7 : (∀ x, (valueAt kvs x).isSome = true ↔ x ∈ met)) (f8 : kvs.length + unmet known met ≤ 6) (f9 : h.get? Df = some (lstO fv nf)) (f10 : Are PartIs (look F.parts met) fv) (f11 : (∀ r, Go F.tab st met r → Go F.tab top [] r)) (f12 : n = 3 * unmet known met + st.length) (f13 : Dw ≠ Df) (f14 : Dm ≠ Df) (f15 : n ≤ 100) (f16 : Df ≠ L) (f17 : g.get? Df = none)
set_option maxHeartbeats 8000000 in
theorem merged_ok {w : World} {mean : ExcName → Option Value} {mg mb : Str → Option Value} {g₀ : Heap} {s : Shared} {dp un : Nat} {fr : Option (List Env)} {gd : Option (List Code)} {R : Result → Shared → Prop}
    {tb d bn lk nu nt : Nat} {bo : Obj} {F : FT} {known names : List Str} {ws : List Value} {last : List (Option Int)}
    (G : Gd w mean mg mb g₀) (hs : Sub g₀ s.heap) (hT : TabI w s.heap tb d bn lk nu) (hb : s.heap.get? bn = some bo) (hbs : (bn == sysModules) = false) (hN : NamesO w s.heap bo F known)
    (hn : s.heap.IsTuple nt ws.toArray) (hw : Are StrIs names ws) (hlen : names.length ≤ 10) (hdp : dp < 800) (hun : un < 900)
    (ret : ∀ (T : Nat) vs r h' tk', KB [] s.heap h' → s.heap.objs.size ≤ T → h'.get? T = some (tupO vs) → Go F.tab (names ++ [Str.ofString "default"]) [] r → Are PartIs (look F.parts r) vs →
      R (.ok (.ret (.ref T))) { s with heap := h', toks := tk' }) :
    codeAny (model Pg w) (Ar dp un fr gd) (.call (.ref 63) ⟨[.ref tb, .ref nt], []⟩) R s := by
  obtain ⟨X, T⟩ := G
  have hrw : PySem.Challenge.rw_np0001_01 = PySem.Challenge.rw_np0001_01 := rfl
  revert X hrw
  k_fill
  intro X hrw
  refine enter1 (binds := [(Str.ofString "self", Value.ref tb), (Str.ofString "names", Value.ref nt)]) (own := []) X T hs ?ko (by k_is) (by k_is) ?kr (BindsTo.of_eq (by with_unfolding_all rfl)) (locs rfl) ?kb (by decide) rfl rfl rfl
  case ko => simp
  case kr => show dp < recursionLimit; simp only [recursionLimit]; lia
  case kb =>
    intro g L h₁ F₁ N X' T' hlt lift hsg hLs
    clear X T hs hrw
    have lift' : Sub s.heap g := fun b o e => lift b o (by first | k_mem | simp) e
    obtain ⟨t1, t2, t3, tn, hI⟩ := hT.up lift'
    have hn' : g.IsTuple nt ws.toArray := tupSub lift' hn
    have hUn := untold X'
    have h6 : [Value.none, .none, .none, .none, .none, .none].length ≤ 1000 := by decide
    have hws : ws.length ≤ 900 := by have := hw.length; lia
    refine stmtH fun Q1 k1 k2 => ?_
    k_steps
    refine k1 _ (fun tk => ?_) _
    clear k1 k2 Q1
    rename_i Dw hww lw Dm hmm om lom hsm fsm him fim lm Df hf nf lf Dt ht lt ha hb' hc hA FA NA
    (revert Dw; intro (Dw : Nat); set_option tactic.hygienic false in intros)
    (revert Dm; intro (Dm : Nat); set_option tactic.hygienic false in intros)
    (revert Df; intro (Df : Nat); set_option tactic.hygienic false in intros)
    have gsubA : Sub g hA := FA.keep
    have nDw := NA (Dw, _) (by k_mem)
    have nDm := NA (Dm, _) (by k_mem)
    have nDf := NA (Df, _) (by k_mem)
    have dwm : Dw < Dm := ltN lm.1
    have dmf : Dm < Df := ltN lf.1
    have hbG : g.get? bn = some bo := lift' _ _ hb
    have hNG := hN.up lift'
    have hns0 : hA.Ns L (mM none none Df Dm Dw tb nt) := nsL FA.ns [(Str.ofString "waiting", some (Value.ref Dw)), (Str.ofString "met", some (Value.ref Dm)), (Str.ofString "found", some (Value.ref Df))]
        [(Str.ofString "name", none), (Str.ofString "face", none), (Str.ofString "found", some (Value.ref Df)), (Str.ofString "met", some (Value.ref Dm)), (Str.ofString "waiting", some (Value.ref Dw)), (Str.ofString "self", some (Value.ref tb)), (Str.ofString "names", some (Value.ref nt))] [(Str.ofString "names", Value.ref nt), (Str.ofString "self", Value.ref tb)] (by with_unfolding_all rfl) (by with_unfolding_all rfl) (by with_unfolding_all rfl) (by refine fa7 ?_ ?_ ?_ ?_ ?_ ?_ ?_ <;> with_unfolding_all rfl)
    refine stmtH fun Q1 k1 k2 => ?_
    refine while_rule' (fun n s' => ∃ h tk, s' = ⟨h, s.gens, s.drawn, tk, s.os⟩ ∧ MJ w g L tb nt Dm Dw F known (names ++ [Str.ofString "default"]) n h) ?turn (3 * unmet known [] + (names ++ [Str.ofString "default"]).length) ?init
    case init =>
      obtain ⟨kvsB, hB1, hB2, hB3, hB4, hB5⟩ := id hNG
      have hul := unmet_le known []
      have hnl : (names ++ [Str.ofString "default"]).length ≤ 11 := by rw [List.length_append]; show names.length + 1 ≤ 11; lia
      have hDw := nDw.1
      refine ⟨_, _, rfl, none, none, Df, names ++ [Str.ofString "default"], ws ++ [Value.str (Str.ofString "default") 189], [], [], om, _, 0, _, hns0, gsubA, ?_, hw.append (.cons ⟨_, rfl⟩ .nil), nDm.1, hsm, ?_, ?_, nDf.1, ?_, fun r hr => hr, rfl, neN (by lia), neN (by lia), by lia, nDf.2.1, nDf.2.2⟩
      · rw [List.reverse_append]; exact hDw
      · intro x; simp [valueAt]
      · show 0 + _ ≤ 6; lia
      · rw [look_nil]; exact .cons rfl (.cons rfl (.cons rfl (.cons rfl (.cons rfl (.cons rfl .nil)))))
    case turn =>
      rintro n _ ⟨h, tk, rfl, o1, o2, Df, st, sv, met, kvs, om, fv, nw, nf, hns, hsub, hw, hst, hm, hd, hv, hk, hf, hp, hgo, hn, d1, d2, d3, d4, d5⟩ Qc kc
      obtain ⟨frz, F3, N3, off, infrz, kback⟩ := kmode (own := [(Dw, lstO sv.reverse nw), (Dm, om), (Df, lstO fv nf)]) (g := g) hns hsub FA.above (by
        intro p hp'
        simp only [List.mem_cons, List.not_mem_nil, or_false] at hp'
        rcases hp' with rfl | rfl | rfl
        · exact ⟨hw, nDw.2⟩
        · exact ⟨hm, nDm.2⟩
        · exact ⟨hf, d4, d5⟩)
      simp only [List.cons_append, List.nil_append] at N3
      have off_w : ∀ p ∈ frz, p.1 ≠ Dw := offOne off (by repeat (first | exact List.Mem.head _ | refine List.Mem.tail _ ?_))
      have off_m : ∀ p ∈ frz, p.1 ≠ Dm := offOne off (by repeat (first | exact List.Mem.head _ | refine List.Mem.tail _ ?_))
      have off_f : ∀ p ∈ frz, p.1 ≠ Df := offOne off (by repeat (first | exact List.Mem.head _ | refine List.Mem.tail _ ?_))
      cases hst with
      | nil =>
        have hx : ([] : List Value).reverse = [] := rfl
        k_steps
        refine k1 _ (fun tk => ?_) _
        clear k1 k2 Q1
        have hf6 : fv.length ≤ 100 := by have := hp.length; rw [look_length] at this; lia
        k_steps
        rename News _ _ _ _ => N5
        rename Fr _ _ _ _ => F5
        exact ret _ _ met _ _ (fun b o _ e => F5.keep b o (lift' b o e)) (Nat.le_of_lt (Nat.lt_of_le_of_lt hLs (by assumption))) (N5 _ (.head _)).1 (hgo met (.nil _)) hp
      | cons hx1 hst' =>
        rename_i x v rest vs
        obtain ⟨t, rfl⟩ := hx1
        rw [List.reverse_cons] at N3
        have hvl : vs.length ≤ 100 := by have := hst'.length; rw [List.length_cons] at hn; lia
        have hx : vs.reverse ++ [Value.str x t] ≠ [] := by simp
        obtain ⟨kvsB, hB1, hB2, hB3, hB4, hB5⟩ := id hNG
        rcases NameAt.of (hB5 x) with ⟨hF, hvB⟩ | ⟨f, fx, hF, hgood, hvB, hface⟩
        · have hvB' : (valueAt kvsB x).isSome = false := by rw [hvB]; rfl
          k_steps
          rename News _ _ _ _ => N5
          rename Fr _ _ _ _ => F5
          refine kc _ (3 * unmet known met + rest.length) (by rw [List.length_cons] at hn; lia) ⟨_, _, rfl, some (.str x t), o2, Df, rest, vs, met, kvs, om, fv, _, _, nsEq F5.ns ?_, F5.keep, (N5 (Dw, _) (by k_mem)).1, hst', (N5 (Dm, _) (by k_mem)).1, hd, hv, hk, (N5 (Df, _) (by k_mem)).1, hp, fun r hr => hgo r (.skip (.inl ?_) hr), rfl, d1, d2, by rw [List.length_cons] at hn; lia, d4, d5⟩
          · exact mM_name
          · show (F x).map _ = none
            rw [hF]; rfl
        · have hvB' : (valueAt kvsB x).isSome = true := by rw [hvB]; rfl
          by_cases hmx : x ∈ met
          · have hvM : (!(valueAt kvs x).isSome) = false := by rw [(hv x).mpr hmx]; rfl
            k_steps
            rename News _ _ _ _ => N5
            rename Fr _ _ _ _ => F5
            refine kc _ (3 * unmet known met + rest.length) (by rw [List.length_cons] at hn; lia) ⟨_, _, rfl, some (.str x t), o2, Df, rest, vs, met, kvs, om, fv, _, _, nsEq F5.ns ?_, F5.keep, (N5 (Dw, _) (by k_mem)).1, hst', (N5 (Dm, _) (by k_mem)).1, hd, hv, hk, (N5 (Df, _) (by k_mem)).1, hp, fun r hr => hgo r (.skip (.inr hmx) hr), rfl, d1, d2, by rw [List.length_cons] at hn; lia, d4, d5⟩
            exact mM_name
          · have hvM : (!(valueAt kvs x).isSome) = true := by
              cases e : (valueAt kvs x).isSome with
              | false => rfl
              | true => exact absurd ((hv x).mp e) hmx
            obtain ⟨fd, pa, pr, fnn, u1, u2, pvs, pws, hIf, hpa, hpp, hpr, hpw⟩ := hface
            have hf6 : fv.length ≤ 100 := by have := hp.length; rw [look_length] at this; lia
            have hfl : (look F.parts met).length = f.parts.length := by rw [look_length, hgood.1]
            k_steps
            rename News _ _ _ _ => N5
            rename Fr _ _ _ _ => F5
            have hDf := (N5 (Df, _) (by k_mem)).1
            have hpaH := tupSub F5.keep hpa
            refine zip_comp (S1 := fun k h => h.IsListIter _ Df k ∧ h.IsList Df fv.toArray) (S2 := fun k h => h.IsTupleIter _ pa k ∧ h.IsTuple pa pvs.toArray) X' T' F5 N5 rfl (fun Q E hQ => zip_callLT ⟨_, hDf, rfl, _, rfl⟩ hpaH hQ)
              (Inner.list (Nat.ne_of_lt (ltSz hDf))) (Inner.tuple (Nat.ne_of_lt (by obtain ⟨o, e, _⟩ := hpaH; have := ltSz e; lia))) (ltSz hDf) (by obtain ⟨o, e, _⟩ := hpaH; exact ltSz e) hp hpp hfl (by rw [look_length]; decide) ?_ ?_
            · intro gB C hh tkk m₂ T p q x y frz' XB TB FB NB hpx hqy
              clear kback infrz off hT hN ret
              cases p with
              | none =>
                obtain rfl : x = .none := hpx
                k_steps
                all_goals first | (rename News _ _ _ _ => N8; rename Fr _ _ _ _ => F8; exact ⟨_, _, _, rfl, F8, N8, hqy⟩) | exact Str.ofString "" | exact Value.none | exact ([] : List (Str × Addr)) | exact (0 : Nat)
              | some i =>
                obtain ⟨t', rfl⟩ := hpx
                k_steps
                all_goals first | (rename News _ _ _ _ => N8; rename Fr _ _ _ _ => F8; exact ⟨_, _, _, rfl, F8, N8, ⟨_, rfl⟩⟩) | exact Str.ofString "" | exact Value.none | exact ([] : List (Str × Addr)) | exact (0 : Nat)
            · intro h2 zs D C av h' tk' e FN NN lD hz gC nC
              refine ⟨_, FN.ns, fun h'' tk'' hn2 hk2 => ?_⟩
              obtain ⟨F6, N6⟩ := aftC FN NN gC nC hn2 hk2
              have wD : Dw < D := ltN (lD (Dw, _) (by k_mem))
              have mD : Dm < D := ltN (lD (Dm, _) (by k_mem))
              have hpwl : pws.length ≤ 2 := by rw [← hpw.length]; exact hgood.2
              clear FN NN N5 F5 hn2 hk2 lD nC
              k_steps
              rename News _ _ _ _ => N5
              rename Fr _ _ _ _ => F5
              have hFx : F.tab x = some f.parents := by show (F x).map _ = _; rw [hF]; rfl
              have hPx : F.parts x = f.parts := by show ((F x).map _).getD _ = _; rw [hF]; rfl
              have hul := unmet_lt (hB3 x (by rw [hF]; rfl)) hmx
              have hsl := stored_length_le kvs x (Value.bool true)
              have hgl := hgood.2
              rw [List.length_cons] at hn
              have hw5 := (N5 (Dw, _) (by k_mem)).1
              rw [← List.reverse_append] at hw5
              refine kc _ (3 * unmet known (met ++ [x]) + (f.parents ++ rest).length) (by rw [List.length_append]; lia) ⟨_, _, rfl, some (.str x t), some (.ref fx), D, f.parents ++ rest, pws ++ vs, met ++ [x], stored kvs x (.bool true), _, zs, _, _, nsEq F5.ns mM_take, F5.keep, hw5, hpw.append hst', (N5 (Dm, _) (by k_mem)).1, by assumption, ?_, by lia, (N5 (D, _) (by k_mem)).1, ?_, fun r hr => hgo r (.take hFx hmx hr), rfl, by lia, by lia, by rw [List.length_append]; lia, (N5 (D, _) (by k_mem)).2.1, (N5 (D, _) (by k_mem)).2.2⟩
              · intro z
                rw [valueAt_stored, List.mem_append, List.mem_singleton]
                by_cases hz : z = x
                · simp [hz]
                · rw [if_neg hz]; simp [hz, hv z]
              · rw [look_snoc (by rw [hPx]; exact hgood.1), hPx]; exact hz
end Mine

end
section
open PySem PySem.Spec PySem.Calls PySem.W PyProof.Rows
set_option Elab.async false
set_option linter.unusedVariables false
set_option maxRecDepth 100000
namespace Mine

theorem kxNo : True := by
  k_with_none
  k_with "ne" => (refine neN ?_; (try dsimp only); first | with_reducible assumption | exact Ne.symm (by with_reducible assumption) | exact Nat.ne_of_lt (by with_reducible assumption) | exact Nat.ne_of_gt (by with_reducible assumption) | lia)
  k_with "mem" => first | exact nm0 | (refine nmC ?_ ?_; k_ne; k_mem) | (refine inL ?_; k_mem) | exact fa0 | (refine faC ?_ ?_; k_mem; k_mem)
  trivial
theorem use_merged {w : World} {mean : ExcName → Option Value} {mg mb : Str → Option Value} {g : Heap} {L : Nat} {m : Str → Option Value} {s : Shared} {A : Around} {news : List (Addr × Obj)}
    {tb d bn lk nu nt : Nat} {bo : Obj} {F : FT} {known names : List Str} {ws : List Value} {Q : Value → Shared → Prop} {E : Value → Shared → Prop}
    (X : (hd.heap_39 w.params).In g) (T : Top Vw Lo mean mg mb g) (F₁ : Fr g L s.heap m) (N : News g L s.heap news) (hT : TabI w g tb d bn lk nu) (hb : g.get? bn = some bo) (hbs : (bn == sysModules) = false) (hN : NamesO w g bo F known)
    (hn : g.IsTuple nt ws.toArray) (hw : Are StrIs names ws) (hlen : names.length ≤ 10) (hh : A.handled = none) (hdp : A.depth < 800) (hun : A.units < 900)
    (h : ∀ (T : Nat) vs r h' tk', Fr g L h' m → News g L h' ((T, tupO vs) :: news) → (∀ p ∈ news, p.1 < T) → Go F.tab (names ++ [Str.ofString "default"]) [] r → Are PartIs (look F.parts r) vs → Q (.ref T) { s with heap := h', toks := tk' }) :
    wpAny (model Pg w) A (call (.ref 63) [.ref tb, .ref nt]) Q E s := by
  refine wpNv ?_
  obtain ⟨hd, dp, fr, gd, un⟩ := A
  dsimp only at hh hdp hun
  subst hh
  refine wpAny_call (merged_ok (last := []) ⟨X, T⟩ F₁.keep (hT.up F₁.keep) (F₁.keep _ _ hb) hbs (hN.up F₁.keep) (tupSub F₁.keep hn) hw hlen hdp hun ?_)
  intro T vs r h' tk' kb hT' ht' hgo hp
  obtain ⟨F', N', l'⟩ := news_add F₁ N (fun b o e => kb b o (by first | k_mem | simp) e) hT' ht'
  exact h T vs r h' tk' F' N' l' hgo hp

theorem lookTold {parts : Str → List (Option Int)} {r : List Str} {n : Str} {ks : List Int} (hn : n ∈ r) (h : parts n = ks.map some) (hl : ks.length = 6) : ∃ L : List Int, look parts r = L.map some := by
  have hs : ∀ o ∈ look parts r, o.isSome = true := by
    intro o ho
    obtain ⟨i, hi, rfl⟩ := List.mem_map.mp ho
    have hi6 : i < 6 := List.mem_range.mp hi
    refine pick_some hn ?_
    rw [h, List.getElem?_map, List.getElem?_eq_getElem (by lia : i < ks.length)]; rfl
  refine ⟨(look parts r).map (·.getD 0), ?_⟩
  rw [List.map_map]
  conv => lhs; rw [← List.map_id (look parts r)]
  refine List.map_congr_left fun o ho => ?_
  cases o with
  | none => exact absurd (hs _ ho) (by first | k_mem | simp)
  | some i => rfl
theorem clsD {w : World} {o : Obj} {xs : List (List Int × Addr × Value)} (h : TDo Pg w o xs) : o.cls ≠ .type "tuple" := by
  obtain ⟨⟨a, _⟩, _⟩ := h
  rw [a]; decide

section
variable {prog : Program} {w : World} {A : Around} {E : Value → Shared → Prop} {s : Shared} {g : Heap} {L : Nat} {m : Str → Option Value} {news : List (Addr × Obj)} {gN : Obj → List (Addr × Obj)} {d a b : Nat} {o : Obj}
theorem eqNil {vs : List Value} {r : Bool} {Q : Value → Shared → Prop} (F : Fr g L s.heap m) (N : News g L s.heap news) (hl : g.IsTuple a vs.toArray) (hb : (b, ({ cls := .type "tuple", data := .seq #[] } : Obj)) ∈ news) (hx : vs.isEmpty = r) (hu : A.units < cLine) (h : Q (.bool r) s) :
    wpAny (model prog w) A (compareOp .Eq (.ref a) (.ref b)) Q E s :=
  eqT_nil (tupSub F.keep hl) ⟨_, (N _ hb).1, rfl, _, rfl⟩ hu (by rw [hx]; exact h)
theorem notinT {xs : List (List Int × Addr × Value)} {ks : List Int} {vs : List Value} {r : Bool} {Q : Value → Shared → Prop} (F : Fr g L s.heap m) (N : News g L s.heap news) (hd : (d, o) ∈ news) (ha : (a, tupO vs) ∈ news) (ho : TDo prog w o xs)
    (hk : ∀ x ∈ xs, IsTupleKey (intKind prog w) g x.1 x.2.1) (hv : Are IntIs ks vs) (hr : (!(atKey xs ks).isSome) = r) (hs : (d == sysModules) = false) (hu : A.units + 1 < cLine)
    (h : ∀ tk, Q (.bool r) { s with toks := tk }) : wpAny (model prog w) A (compareOp .NotIn (.ref a) (.ref d)) Q E s :=
  wpAny_notIn_heap (knd := TK prog w) (k := ks) (tupleKind_room_in1 hu) ⟨_, _, _, (N _ ha).1, rfl, rfl, keyItems hv⟩ hs (ho.at (N _ hd).1 fun x hx => Mine.IsTupleKey.up (hk x hx) F.keep) (by rw [hr]; exact h _)
theorem itemT {value slice : Expr} {xs : List (List Int × Addr × Value)} {ks : List Int} {vs : List Value} {p : Addr × Value} {Q : Value → Shared → Prop} (F : Fr g L s.heap m) (N : News g L s.heap news) (hd : (d, o) ∈ news) (ha : (a, tupO vs) ∈ news) (ho : TDo prog w o xs)
    (hk : ∀ x ∈ xs, IsTupleKey (intKind prog w) g x.1 x.2.1 ∨ (x.1 = ks ∧ x.2.1 = a)) (hv : Are IntIs ks vs) (hp : atKey xs ks = some p) (hu : A.units + 1 < cLine) (h : ∀ tk, Q p.2 { s with toks := tk })
    (hs : subscripted slice false (.ref d) (.ref a) = operate [.ref d, .ref a] (getItem (.ref d) (.ref a))) (hg : ∀ r, letTemporaryGo value (.ref d) r = pure ()) :
    wpAny (model prog w) A (subscriptTail value slice (.ref d) (.ref a)) Q E s := by
  have hka : IsTupleKey (intKind prog w) s.heap ks a := ⟨_, _, _, (N _ ha).1, rfl, rfl, keyItems hv⟩
  have hD := ho.at (N _ hd).1 fun x hx => by
    rcases hk x hx with q | ⟨q1, q2⟩
    · exact Mine.IsTupleKey.up q F.keep
    · rw [q1, q2]; exact hka
  exact subscriptTail_builtin hD.typeIs slot_dict_getitem.lookup (wpAny_getItem_heap (knd := TK prog w) (k := ks) (tupleKind_room_in1 hu) hka hD hp (h _)) hs hg
theorem lenN {l : Nat} {vs : List Value} {n k : Nat} {Q : Value → Shared → Prop} (F : Fr g L s.heap m) (N : News g L s.heap news) (hm : (l, lstO vs n) ∈ news) (hk : vs.length = k) (hb : vs.length ≤ 1000)
    (h : ∀ t tk, Q (.int (k : Nat) t) { s with toks := tk }) : wpAny (model prog w) A (call (.builtin "len") [.ref l]) Q E s := by
  subst hk
  have e : vs.toArray.size = vs.length := List.size_toArray
  refine call_len_list (items := vs.toArray) ⟨_, (N _ hm).1, rfl, n, rfl⟩ ?_ ?_
  · rw [e]; show (vs.length : Int) < 9223372036854775808; lia
  · rw [e]; exact h _ _
theorem ssetT {xs : List (List Int × Addr × Value)} {ks : List Int} {vs : List Value} {v : Value} {Q : Unit → Shared → Prop} (F : Fr g L s.heap m) (N : News g L s.heap news) (U : UpdF d o news gN) (ha : (a, tupO vs) ∈ news) (ho : TDo prog w o xs)
    (hk : ∀ x ∈ xs, IsTupleKey (intKind prog w) g x.1 x.2.1) (hv : Are IntIs ks vs) (hp : atKey xs ks = none) (hsz : xs.length ≤ 1000) (hu : A.units + 1 < cLine)
    (h : ∀ h' o' tk, Fr g L h' m → News g L h' (gN o') → TDo prog w o' (xs ++ [(ks, a, v)]) → Q () { s with heap := h', toks := tk }) :
    wpAny (model prog w) A (setItem (.ref d) (.ref a) v) Q E s :=
  sset_tup F N U hu ho (fun x hx => Mine.IsTupleKey.up (hk x hx) F.keep) ⟨_, _, _, (N _ ha).1, rfl, rfl, keyItems hv⟩ hsz fun h' o' tk F' N' ho' => h h' o' tk F' N' (by rw [storedH_new hp] at ho'; exact ho')
end
theorem wNo1 : True := by
  k_with "compareOp NotIn" => k_dflt (refine' notinT ?F ?N ?hd ?ha ?ho ?hk ?hv ?hr ?hs ?hu ?_; (case F => k_asm); (case N => k_asm); (case hd => k_mem); (case ha => k_mem); (case ho => assumption); (case hk => assumption); (case hv => assumption); (case hr => assumption); (case hs => assumption); (case hu => (dsimp only [Ar, Around.deeper]; rw [show cLine = 9900 from rfl]; lia)); intro _)
  trivial
theorem wNo2 : True := by
  k_with "subscriptTail" => k_dflt (refine' itemT ?F ?N ?hd ?ha ?ho ?hk ?hv ?hp ?hu ?_ ?hs ?hg; (case F => k_asm); (case N => k_asm); (case hd => k_mem); (case ha => k_mem); (case ho => assumption); (case hk => assumption); (case hv => assumption); (case hp => assumption); (case hu => (dsimp only [Ar, Around.deeper]; rw [show cLine = 9900 from rfl]; lia)); (case hs => with_unfolding_all rfl); (case hg => intro _; with_unfolding_all rfl); intro _)
  trivial
theorem wNo3 : True := by
  k_with "call builtin:len" => k_dflt (refine' lenN ?F ?N ?hm ?hk ?hb ?_; (case F => k_asm); (case N => k_asm); (case hm => k_mem); (case hk => assumption); (case hb => assumption); intro _ _)
  trivial
theorem wNo4 : True := by
  k_with "setItem" => k_dflt (refine' ssetT ?F ?N ?U ?ha ?ho ?hk ?hv ?hp ?hz ?hu ?_; (case F => k_asm); (case N => k_asm); (case U => k_updF); (case ha => k_mem); (case ho => assumption); (case hk => assumption); (case hv => assumption); (case hp => assumption); (case hz => assumption); (case hu => (dsimp only [Ar, Around.deeper]; rw [show cLine = 9900 from rfl]; lia)); intro _ _ _ _ _ _)
  trivial
local macro_rules | `(tactic| k_all) => `(tactic| assumption)
local macro_rules | `(tactic| k_inst) => `(tactic| exact instUp (by assumption) (Fr.keep (by k_asm)))
theorem wNo5 : True := by
  k_with "compareOp Eq ref ref" => k_dflt (refine' eqNil ?F ?N ?M ?hb ?hx ?hu ?_; (case F => k_asm); (case N => k_asm); (case M => assumption); (case hb => k_mem); (case hx => first | assumption); (case hu => (dsimp only [Ar, Around.deeper]; rw [show cLine = 9900 from rfl]; lia)))
  trivial
theorem wNo6 : True := by
  k_with "call ref" => k_dflt (refine' use_merged ?X ?T ?F ?N ?hT ?hb ?hbs ?hN ?hn ?hw ?hl ?hh ?hd ?hu ?_; (case X => assumption); (case T => assumption); (case F => k_asm); (case N => k_asm); (case hT => assumption); (case hb => assumption); (case hbs => assumption); (case hN => assumption); (case hn => assumption); (case hw => assumption); (case hl => assumption); (case hh => rfl); (case hd => (dsimp only [Ar, Around.deeper]; lia)); (case hu => (dsimp only [Ar, Around.deeper]; lia)); intro _ _ _ _ _ _ _ l1 hgo' hp'; (try k_lt l1); (first | (revert l1 hgo' hp'; intro _ _ _) | (revert hgo' hp'; intro _ _) | skip))
  trivial
set_option maxHeartbeats 8000000 in
theorem number_ok {w : World} {mean : ExcName → Option Value} {mg mb : Str → Option Value} {g₀ : Heap} {s : Shared} {dp un : Nat} {fr : Option (List Env)} {gd : Option (List Code)} {R : Result → Shared → Prop}
    {tb d bn lk nu nt n : Nat} {bo no : Obj} {F : FT} {known names : List Str} {ws lv : List Value} {ks : List Int} {fd : FaceD} {xs : List (List Int × Addr × Value)} {looks : List (List Int)}
    (G : Gd w mean mg mb g₀) (hs : Sub g₀ s.heap) (hT : TabI w g₀ tb d bn lk nu) (hb : g₀.get? bn = some bo) (hbs : (bn == sysModules) = false) (hN : NamesO w g₀ bo F known)
    (hn : g₀.IsTuple nt ws.toArray) (hw : Are StrIs names ws) (hlen : names.length ≤ 10) (hdef : F (Str.ofString "default") = some fd) (hks : fd.parts = ks.map some) (hks6 : ks.length = 6)
    (hlk : s.heap.get? lk = some (lstO lv n)) (hnu : s.heap.get? nu = some no) (hno : TDo Pg w no xs) (glk : g₀.get? lk = none) (gnu : g₀.get? nu = none) (hnus : (nu == sysModules) = false)
    (hlooks : Are (LookAt s.heap) looks lv) (hX : NumX w s.heap looks xs) (hnd : looks.Nodup) (hll : looks.length ≤ 50) (hdp : dp < 700) (hun : un < 800)
    (ret : ∀ (i : Nat) t looks' lv' n' no' xs' h' tk', KB [lk, nu] s.heap h' → h'.get? lk = some (lstO lv' n') → h'.get? nu = some no' → TDo Pg w no' xs' → Are (LookAt h') looks' lv' → NumX w h' looks' xs' → looks'.Nodup → (looks' = looks ∨ ∃ L, looks' = looks ++ [L]) →
      ((names = [] ∧ i = 0 ∧ looks' = looks) ∨ ∃ r L, Go F.tab (names ++ [Str.ofString "default"]) [] r ∧ look F.parts r = L.map some ∧ looks'[i]? = some L ∧ (L ∈ looks → looks' = looks)) →
      R (.ok (.ret (.int (i : Nat) t))) { s with heap := h', toks := tk' }) :
    codeAny (model Pg w) (Ar dp un fr gd) (.call (.ref 70) ⟨[.ref tb, .ref nt], []⟩) R s := by
  obtain ⟨X, T⟩ := G
  have hrw : PySem.Challenge.rw_np0001_01 = PySem.Challenge.rw_np0001_01 := rfl
  revert X hrw
  k_fill
  intro X hrw
  have hne : lk ≠ nu := by
    rintro rfl
    first | exact nS (hlk) hnu | (rw [hlk] at hnu; cases hnu)
    obtain ⟨⟨a, _⟩, _⟩ := hno
    exact absurd a (show (Value.type "list") ≠ .type "dict" by decide)
  refine enter1 (binds := [(Str.ofString "self", Value.ref tb), (Str.ofString "names", Value.ref nt)]) (own := [(lk, lstO lv n), (nu, no)]) X T hs ?ko (by k_is) (by k_is) ?kr (BindsTo.of_eq (by with_unfolding_all rfl)) (locs rfl) ?kb (by decide) rfl rfl rfl
  case ko =>
    refine fa2 ?_ ?_
    · exact ⟨hlk, glk⟩
    · exact ⟨hnu, gnu⟩
  case kr => show dp < recursionLimit; simp only [recursionLimit]; lia
  case kb =>
    intro g L h₁ F₁ N X' T' hlt lift hsg hLs
    clear X T hs hrw
    have lkL : lk < L := ltN (hlt (lk, _) (.head _))
    have nuL : nu < L := ltN (hlt (nu, _) (.tail _ (.head _)))
    have ntup : ∀ b ∈ [lk, nu], ∃ o, s.heap.get? b = some o ∧ o.cls ≠ .type "tuple" := by
      refine fa2 ?_ ?_
      · exact ⟨_, hlk, by show (Value.type "list") ≠ .type "tuple"; decide⟩
      · exact ⟨_, hnu, clsD hno⟩
    obtain ⟨t1, t2, t3, tn, hI⟩ := hT.up hsg
    have hTg := hT.up hsg
    have hbg := hsg _ _ hb
    have hNg := hN.up hsg
    have hng := tupSub hsg hn
    have hXg := hX.kb lift ntup
    have fin1 : ∀ {h' : Heap} {m' : Str → Option Value}, Fr g L h' m' → News g L h' [(lk, lstO lv n), (nu, no)] → KB [lk, nu] s.heap h' := fun F' N' => exitKB lift F'
    cases hw with
    | nil =>
      have hx : ([] : List Value).isEmpty = true := rfl
      k_steps
      rename News _ _ _ _ => N5
      rename Fr _ _ _ _ => F5
      have kb := exitKB lift F5
      exact ret 0 _ looks lv n no xs _ _ kb (N5 (lk, _) (by k_mem)).1 (N5 (nu, _) (by k_mem)).1 hno (hlooks.mono fun a v x => x.kb kb ntup) (hX.kb kb ntup) hnd (.inl rfl) (.inl ⟨rfl, rfl, rfl⟩)
    | cons hw1 hw' =>
      rename_i x v rest vs
      have hw : Are StrIs (x :: rest) (v :: vs) := .cons hw1 hw'
      have hx : (v :: vs).isEmpty = false := rfl
      refine stmtH fun Q1 k1 k2 => ?_
      k_steps
      refine k1 _ (fun tk => ?_) _
      clear k1 k2 Q1
      refine stmtH fun Q1 k1 k2 => ?_
      k_steps
      refine k1 _ (fun tk => ?_) _
      clear k1 k2 Q1
      rename_i T' vs' r hh tkm hgo hp lT hA FA NA
      (revert T'; intro (T' : Nat); set_option tactic.hygienic false in intros)
      have hdr : Str.ofString "default" ∈ r := hgo.has _ (by first | k_mem | simp) (by show ((F _).map _).isSome = true; rw [hdef]; rfl)
      have hPd : F.parts (Str.ofString "default") = ks.map some := by show ((F _).map _).getD _ = _; rw [hdef]; exact hks
      obtain ⟨LL, hL⟩ := lookTold hdr hPd hks6
      rw [hL] at hp
      have hi := Are.ints hp
      have hkN := hXg.at_
      have hxl : xs.length ≤ 1000 := by have : xs.length = looks.length := by rw [← hXg.keys]; simp
                                        lia
      by_cases hm : LL ∈ looks
      · obtain ⟨i, hi'⟩ := List.mem_iff_getElem?.mp hm
        obtain ⟨a, t, hat⟩ := hXg.some hnd hi'
        have hr : (!(atKey xs LL).isSome) = false := by rw [hat]; rfl
        have hk2 : ∀ x ∈ xs, (KeyI w g x.1 x.2.1) ∨ (x.1 = LL ∧ x.2.1 = T') := fun x hx => .inl (hkN x hx)
        k_steps
        rename News _ _ _ _ => N5
        rename Fr _ _ _ _ => F5
        have kb := exitKB lift F5
        exact ret i _ looks lv n no xs _ _ kb (N5 (lk, _) (by k_mem)).1 (N5 (nu, _) (by k_mem)).1 hno (hlooks.mono fun a v x => x.kb kb ntup) (hX.kb kb ntup) hnd (.inl rfl) (.inr ⟨r, LL, hgo, hL, hi', fun _ => rfl⟩)
      · have hat := hXg.none hm
        have hr : (!(atKey xs LL).isSome) = true := by rw [hat]; rfl
        have hlvl : lv.length = looks.length := hlooks.length.symm
        have hlvb : lv.length ≤ 1000 := by lia
        k_steps
        rename_i tkA tA tkB hB oB tkC hoB hC FC NC
        have kb := exitKB lift FC
        have hndL : (looks ++ [LL]).Nodup := by
          rw [List.nodup_append]
          exact ⟨hnd, by simp, fun a ha b hb e => hm (by rw [List.mem_singleton.mp hb] at e; exact e ▸ ha)⟩
        have hX3 := (hX.kb kb ntup).snoc (t := tA) (keyOf (w := w) (T := T') ⟨_, (NC (T', _) (by k_mem)).1, rfl, _, rfl⟩ hi)
        obtain ⟨a2, t2', hat2⟩ := hX3.some hndL (i := looks.length) (L := LL) (by first | k_mem | simp)
        have hk2 : ∀ x ∈ xs ++ [(LL, T', Value.int (looks.length : Nat) tA)], (KeyI w g x.1 x.2.1) ∨ (x.1 = LL ∧ x.2.1 = T') := by
          intro x hx
          rcases List.mem_append.mp hx with hx | hx
          · exact .inl (hkN x hx)
          · rw [List.mem_singleton.mp hx]; exact .inr ⟨rfl, rfl⟩
        k_steps
        exact ret looks.length _ (looks ++ [LL]) (lv ++ [.ref T']) _ _ _ _ _ kb (NC (lk, _) (by k_mem)).1 (NC (nu, _) (by k_mem)).1 hoB
          ((hlooks.mono fun a v x => x.kb kb ntup).snoc ⟨T', vs', rfl, ⟨_, (NC (T', _) (by k_mem)).1, rfl, _, rfl⟩, hi⟩) hX3 hndL (.inr ⟨LL, rfl⟩) (.inr ⟨r, LL, hgo, hL, by simp, fun h => absurd h hm⟩)
end Mine

end
section
open PySem PySem.Spec PySem.Calls PySem.W PyProof.Rows
set_option Elab.async false
set_option linter.unusedVariables false
set_option maxRecDepth 100000
namespace Mine
set_option maxHeartbeats 8000000 in
theorem init_ok {w : World} {mean : ExcName → Option Value} {mg mb : Str → Option Value} {g₀ : Heap} {s : Shared} {A : Around} {R : Result → Shared → Prop} {x dx pa : Nat}
    (G : Gd w mean mg mb g₀) (hs : Sub g₀ s.heap) (hx : s.heap.get? x = some (instObj 35 dx)) (hd : s.heap.get? dx = some (dictOf [] 0)) (gx : g₀.get? x = none) (gd : g₀.get? dx = none) (hxd : dx < x) (hh : A.handled = none) (hdp : A.depth < 800)
    (ret : ∀ (pr : Nat) t1 t2 h' tk', KB [dx] s.heap h' → h'.get? dx = some (faceO w t1 t2 pa pr 2) → g₀.IsTuple pr #[] → R (.ok (.ret .none)) { s with heap := h', toks := tk' }) :
    codeAny (model Pg w) A (.call (.ref 32) ⟨[.ref x, .ref pa], []⟩) R s := by
  obtain ⟨X, T⟩ := G
  have hrw : PySem.Challenge.rw_np0001_01 = PySem.Challenge.rw_np0001_01 := rfl
  revert X hrw
  k_fill
  intro X hrw
  refine enter1 (own := [(x, instObj 35 dx), (dx, dictOf [] 0)]) X T hs ?ko (by k_is) (by k_is) ?kr (binds_K (X.keeps hs) rfl (by k_is) rfl rfl rfl) (locs rfl) ?kb (by decide) rfl rfl rfl
  case ko =>
    refine fa2 ?_ ?_
    · exact ⟨hx, gx⟩
    · exact ⟨hd, gd⟩
  case kr => simp only [recursionLimit]; lia
  case kb =>
    intro g L h₁ F₁ N X' T' hlt lift hsg hLs
    clear T hs
    have xL : x < L := ltN (hlt (x, _) (.head _))
    k_steps
    rename News _ _ _ _ => N5
    rename Fr _ _ _ _ => F5
    have kb := exitKB lift F5
    refine ret _ _ _ _ _ (fun b o nb e => ?_) (N5 _ (.tail _ (.head _))).1 ⟨_, X _ _ (by k_is), rfl, _, rfl⟩
    by_cases hb : b = x
    · subst hb; first | exact nS (hx) e | (rw [hx] at e; cases e); exact (N5 _ (.head _)).1
    · exact kb b o (by simp at nb; simp [hb, nb]) e

theorem use_face {w : World} {mean : ExcName → Option Value} {mg mb : Str → Option Value} {g : Heap} {L : Nat} {m : Str → Option Value} {s : Shared} {A : Around} {news : List (Addr × Obj)} {pa : Nat} {Q : Value → Shared → Prop} {E : Value → Shared → Prop}
    (X : (hd.heap_39 w.params).In g) (T : Top Vw Lo mean mg mb g) (F : Fr g L s.heap m) (N : News g L s.heap news) (hh : A.handled = none) (hdp : A.depth < 700)
    (h : ∀ (x dx pr : Nat) t1 t2 h' tk', Fr g L h' m → News g L h' ((x, instObj 35 dx) :: (dx, faceO w t1 t2 pa pr 2) :: news) → (∀ p ∈ news, p.1 < dx) → dx < x → g.IsTuple pr #[] → Q (.ref x) { s with heap := h', toks := tk' }) :
    wpAny (model Pg w) A (call (.ref 35) [.ref pa]) Q E s := by
  refine wpNv ?_
  have hrw : PySem.Challenge.rw_np0001_01 = PySem.Challenge.rw_np0001_01 := rfl
  have G : Gd w mean mg mb g := ⟨X, T⟩
  revert X hrw
  k_fill
  intro X hrw
  refine call_cls (fI := 32) F X N (by k_is) (by k_is) (by k_is) fun x dx h' F' N' l1 l2 => ?_
  have l2 : (dx : Nat) < x := ltN l2
  (revert dx; intro (dx : Nat); set_option tactic.hygienic false in intros)
  (revert x; intro (x : Nat); set_option tactic.hygienic false in intros)
  refine init_ok (dx := dx) G F'.keep (N' _ (.head _)).1 (N' _ (.tail _ (.head _))).1 (N' _ (.head _)).2.2 (N' _ (.tail _ (.head _))).2.2 l2 ?_ ?_ ?_
  · simpa [Around.under] using hh
  · rw [depth_under_make]; lia
  · intro pr t1 t2 h'' tk' kb hdx hpr
    unfold InitBack
    refine ⟨rfl, ?_⟩
    refine h x dx pr t1 t2 h'' tk' (frKB F' kb (by simpa using (Ne.symm (N' _ (.tail _ (.head _))).2.1)) (by intro a ha; rw [List.mem_singleton.mp ha]; exact (N' _ (.tail _ (.head _))).2.2)) ?_ l1 l2 hpr
    intro p hp
    rcases List.mem_cons.mp hp with rfl | hp
    · exact ⟨kb _ _ (fun q => Nat.ne_of_gt l2 (List.mem_singleton.mp q)) (N' _ (.head _)).1, (N' _ (.head _)).2⟩
    · rcases List.mem_cons.mp hp with rfl | hp
      · exact ⟨hdx, (N' _ (.tail _ (.head _))).2⟩
      · exact ⟨kb _ _ (fun q => Nat.lt_irrefl _ (List.mem_singleton.mp q ▸ l1 p hp)) (N' p (.tail _ (.tail _ hp))).1, (N' p (.tail _ (.tail _ hp))).2⟩

theorem UpdF.upd {d : Nat} {o o' : Obj} {news : List (Addr × Obj)} {gN : Obj → List (Addr × Obj)} (U : UpdF d o news gN) : Upd d o o' news (gN o') := by
  obtain ⟨pre, post, rfl, hg, h1, h2⟩ := U.split
  rw [hg]
  clear hg U
  induction pre with
  | nil => exact .head h2
  | cons p pre ih => exact .tail (h1 p (.head _)) (ih fun q hq => h1 q (.tail _ hq))
theorem setNum {w : World} {g : Heap} {L : Nat} {m : Str → Option Value} {s : Shared} {A : Around} {news : List (Addr × Obj)} {gN : Obj → List (Addr × Obj)} {tb d bn lk nu nu' tn : Nat} {t1 t2 t3 : Tok} {Q : Unit → Shared → Prop} {E : Value → Shared → Prop}
    (X : (hd.heap_39 w.params).In g) (F : Fr g L s.heap m) (N : News g L s.heap news) (htb : (tb, instObj 80 d) ∈ news) (U : UpdF d (tabO w t1 t2 t3 bn lk nu tn) news gN)
    (h : ∀ h' tk, Fr g L h' m → News g L h' (gN (tabO w t1 t2 t3 bn lk nu' tn)) → Q () { s with heap := h', toks := tk }) :
    wpAny (model Pg w) A (setAttr (.ref tb) (Str.ofString "numbers") (.ref nu')) Q E s := by
  have hrw : PySem.Challenge.rw_np0001_01 = PySem.Challenge.rw_np0001_01 := rfl
  revert X hrw
  k_fill
  intro X hrw
  refine set_dict (n' := tn) (es' := [{ hash := PyData.keyHash w.params (Str.ofString "by_name"), key := .str (Str.ofString "by_name") t1, val := .ref bn }, { hash := PyData.keyHash w.params (Str.ofString "looks"), key := .str (Str.ofString "looks") t2, val := .ref lk },
    { hash := PyData.keyHash w.params (Str.ofString "numbers"), key := .str (Str.ofString "numbers") t3, val := .ref nu' }]) F X N (InstAt.of_news N htb (updF_mem U)) rfl (by k_is) (by k_is) (by k_is) (by k_is) ?_ ?_ (Mine.UpdF.upd U) (Nat.le_of_ble_eq_true rfl) fun h' F' N' => h h' _ F' N'
  · with_unfolding_all rfl
  · with_unfolding_all rfl

theorem ItS.ofT {prog : Program} {w : World} {A : Around} {elts : List Expr} {k : Nat} {pos : Pos} {I : Nat} {fp wr : List Nat} {n : Nat} {Pt : Nat → Array Value → Prop} {St : Nat → Heap → Prop} {Mid : Nat → Addr → Heap → Prop}
    (W : WalksT prog w A I fp wr n Pt St Mid) (hI : ∀ i h, St i h → I < h.objs.size) :
    ItS prog w A (.Tuple elts k pos) I fp wr n (fun i v h => ∃ (T : Nat) (vals : Array Value), v = .ref T ∧ Pt i vals ∧ h.IsTuple T vals ∧ I < T) St where
  sub := W.sub
  frame := W.frame
  item := fun i s Q hi hst hQ => by
    have h1 := hI _ _ hst
    refine W.item i s _ _ hi hst fun T vals h' tk hP hT hTu hM hk => ⟨_, rfl, ?_⟩
    refine W.go elts k pos i T _ _ _ hM fun h'' hst' hk' => ?_
    refine hQ _ h'' tk ⟨T, vals, rfl, hP, ?_, Nat.lt_of_lt_of_le h1 hT⟩ hst' fun b o nb e => hk' b o nb (hk b o nb e)
    exact hTu.at fun o e => hk' _ o (W.apart _ _ _ hM) e
  done := fun s Q hst h => W.done s _ _ hst fun h' tk k => ⟨rfl, h h' tk k⟩
  self := fun i s Q hst h => W.self i s Q _ hst h
theorem unpackN {prog : Program} {w : World} {A : Around} {E : Value → Shared → Prop} {s : Shared} {g : Heap} {L : Nat} {m : Str → Option Value} {news : List (Addr × Obj)} {T k : Nat} {items : Array Value} {Q : List Value → Shared → Prop}
    (F : Fr g L s.heap m) (N : News g L s.heap news) (hh : A.handled = none) (hT : s.heap.IsTuple T items) (hk : k = items.size) (h : ∀ h', Fr g L h' m → News g L h' news → Q items.toList { s with heap := h' }) :
    wpAny (model prog w) A (unpackItems (.ref T) k none) Q E s := by
  subst hk
  refine wpAny_unpackItems_tuple hh hT fun h' hs => ?_
  have kb : Sub s.heap h' := fun b o e => hs _ o (Nat.ne_of_lt (ltSz e)) e
  exact h h' (F.keeps kb) fun p hp => ⟨kb _ _ (N p hp).1, (N p hp).2⟩

theorem orZero {ps : List (Option Int)} (h : ps.length = 6) : List.zipWith Option.or ps [some 0, some 0, some 0, some 0, some 0, some 0] = (ps.map (·.getD 0)).map some := by
  have o : ∀ a : Option Int, a.or (some 0) = some (a.getD 0) := fun a => by cases a <;> rfl
  obtain ⟨a, b, c, d, e, f, rfl⟩ := six h
  simp only [List.zipWith, List.map, o]

theorem kbKeep {av bv : List Nat} {h h' : Heap} (k : KB av h h') (hs : ∀ b ∈ av, b ∈ bv ∨ ∃ o, h.get? b = some o ∧ h'.get? b = some o) : KB bv h h' := fun b o nb e => by
  by_cases hb : b ∈ av
  · rcases hs b hb with q | ⟨o', q1, q2⟩
    · exact absurd q nb
    · first | exact nS (q1) e | (rw [q1] at e; cases e); exact q2
  · exact k b o hb e
end Mine

end
section
open PySem PySem.Spec PySem.Calls PySem.W PyProof.Rows
set_option Elab.async false
set_option linter.unusedVariables false
set_option maxRecDepth 100000
namespace Mine
theorem kxDf : True := by
  k_with_none
  k_with "ne" => (refine neN ?_; (try dsimp only); first | with_reducible assumption | exact Ne.symm (by with_reducible assumption) | exact Nat.ne_of_lt (by with_reducible assumption) | exact Nat.ne_of_gt (by with_reducible assumption) | lia)
  k_with "mem" => first | exact nm0 | (refine nmC ?_ ?_; k_ne; k_mem) | (refine inL ?_; k_mem) | exact fa0 | (refine faC ?_ ?_; k_mem; k_mem)
  trivial
theorem neStrT {prog : Program} {w : World} {A : Around} {E : Value → Shared → Prop} {s : Shared} {x y : Str} {t u : Tok} {Q : Value → Shared → Prop} (hne : x ≠ y) (h : Q (.bool true) s) : wpAny (model prog w) A (compareOp .NotEq (.str x t) (.str y u)) Q E s := by
  refine P.ne_str ?_
  have e : (x.cps.toList != y.cps.toList) = true := by
    rw [bne_iff_ne]
    intro q
    exact hne (by cases x; cases y; simp at q; simp [q])
  rw [e]; exact h
theorem wDf1 : True := by
  k_with "compareOp NotEq str str" => k_dflt (refine' neStrT ?hn ?_; (case hn => assumption))
  trivial
local macro_rules | `(tactic| k_all) => `(tactic| assumption)
local macro_rules | `(tactic| k_inst) => `(tactic| exact instUp (by assumption) (Fr.keep (by k_asm)))
theorem wDf2 : True := by
  k_with "setItem" => k_dflt (refine' sset_str ?F ?N ?U ?hd ?hz ?_; (case F => k_asm); (case N => k_asm); (case U => k_updF); (case hd => assumption); (case hz => lia); intro _ _ _ _ _)
  trivial
set_option maxHeartbeats 8000000 in
theorem define_name {w : World} {mean : ExcName → Option Value} {mg mb : Str → Option Value} {g₀ : Heap} {s : Shared} {dp un : Nat} {fr : Option (List Env)} {gd : Option (List Code)} {R : Result → Shared → Prop}
    {tb d bn lk nu fx : Nat} {bo : Obj} {kvs : List (Str × Value)} {nm : Str} {t : Tok}
    (G : Gd w mean mg mb g₀) (hs : Sub g₀ s.heap) (hT : TabI w s.heap tb d bn lk nu) (hb : s.heap.get? bn = some bo) (hbd : bo.IsDictOf (strKind Pg w) kvs) (hkl : kvs.length ≤ 20) (gb : g₀.get? bn = none) (tbn : tb ≠ bn) (dbn : d ≠ bn)
    (hnm : nm ≠ Str.ofString "default") (hdp : dp < 700) (hun : un < 800)
    (ret : ∀ h' tk' bo', KB [bn] s.heap h' → h'.get? bn = some bo' → bo'.IsDictOf (strKind Pg w) (stored kvs nm (.ref fx)) → R (.ok (.ret .none)) { s with heap := h', toks := tk' }) :
    codeAny (model Pg w) (Ar dp un fr gd) (.call (.ref 58) ⟨[.ref tb, .str nm t, .ref fx], []⟩) R s := by
  obtain ⟨X, T⟩ := G
  have hrw : PySem.Challenge.rw_np0001_01 = PySem.Challenge.rw_np0001_01 := rfl
  revert X hrw
  k_fill
  intro X hrw
  refine enter1 (binds := [(Str.ofString "self", Value.ref tb), (Str.ofString "name", Value.str nm t), (Str.ofString "face", Value.ref fx)]) (own := [(bn, bo)]) X T hs ?ko (by k_is) (by k_is) ?kr (BindsTo.of_eq (by with_unfolding_all rfl)) (locs rfl) ?kb (by decide) rfl rfl rfl
  case ko => intro p hp; obtain rfl := List.mem_singleton.mp hp; exact ⟨hb, gb⟩
  case kr => show dp < recursionLimit; simp only [recursionLimit]; lia
  case kb =>
    intro g L h₁ F₁ N X' T' hlt lift hsg hLs
    clear X T hs hrw
    have bnL : bn < L := ltN (hlt (bn, _) (.head _))
    obtain ⟨t1, t2, t3, tn, hI⟩ := hT
    have hI : InstAt g tb (instObj 80 d) 80 (some (tabO w t1 t2 t3 bn lk nu tn)) := by
      refine ⟨lift _ _ (by simpa using tbn) hI.at_, hI.cls, hI.no, ?_⟩
      exact lift _ _ (by simpa using dbn) hI.dict
    k_steps
    rename News _ _ _ _ => N5
    rename Fr _ _ _ _ => F5
    exact ret _ _ _ (exitKB lift F5) (N5 _ (.head _)).1 (by assumption)

local macro_rules | `(tactic| k_room) => `(tactic| (simp only [depth_under_make, depth_under_kw, depth_in1, depth_deeper, Ar, recursionLimit]; lia))
theorem wDf3 : True := by
  k_with "call ref" => k_dflt (refine' use_face ?X ?T ?F ?N ?hh ?hd ?_; (case X => assumption); (case T => assumption); (case F => k_asm); (case N => k_asm); (case hh => rfl); (case hd => (dsimp only [Ar, Around.deeper]; lia)); intro _ _ _ _ _ _ _ _ _ l1 l2 hpr'; (try k_lt l1); (first | (revert l1 l2 hpr'; intro _ _ _) | (revert l2 hpr'; intro _ _) | skip))
  trivial
theorem wDf4 : True := by
  k_with "setAttr ref" => k_dflt (refine' setNum ?X ?F ?N ?M ?U ?_; (case X => assumption); (case F => k_asm); (case N => k_asm); (case M => k_mem); (case U => k_updF); intro _ _ _ _)
  trivial
theorem wDf5 : True := by
  k_with "exec For Tuple Call" => k_dflt (refine' for_rule ?_ ?hs; (case hs => intro _; with_unfolding_all rfl))
  trivial
theorem wDf6 : True := by
  k_with "unpackItems" => k_dflt (refine' unpackN ?F ?N ?hh ?hT ?hk ?_; (case hT => first | assumption | exact tupSub (Fr.keep (by k_asm)) (by assumption)); (case F => k_asm); (case N => k_asm); (case hh => rfl); (case hk => exact rfl); intro _ _ _)
  trivial
theorem neStrF {prog : Program} {w : World} {A : Around} {E : Value → Shared → Prop} {s : Shared} {x : Str} {t u : Tok} {Q : Value → Shared → Prop} (h : Q (.bool false) s) : wpAny (model prog w) A (compareOp .NotEq (.str x t) (.str x u)) Q E s := by
  refine P.ne_str ?_
  have e : (x.cps.toList != x.cps.toList) = false := by simp
  rw [e]; exact h
theorem wDf7 : True := by
  k_with "compareOp NotEq str str" => k_dflt (refine' neStrF ?_)
  trivial
theorem wDf8 : True := by
  k_with "exec Assign cons ListComp" => k_dflt (refine' comp_assign ?hsw ?hclos ?hcell ?hkind ?hnames ?hy ?hp ?_ ?hs; (case hsw => with_unfolding_all rfl); (case hclos => with_unfolding_all rfl); (case hcell => decide); (case hkind => with_unfolding_all rfl); (case hnames => decide); (case hy => with_unfolding_all rfl); (case hp => with_unfolding_all rfl); (case hs => intro _; with_unfolding_all rfl))
  trivial
theorem wDf9 : True := by
  k_with "storeName" => ((with_reducible show wpAny _ _ (storeName _ (Str.ofString "plain") _) _ _ _); k_dflt (refine' storeC ?F ?N ?hC ?hx ?hk ?_; (case hC => with_unfolding_all rfl); (case hx => with_unfolding_all rfl); (case hk => with_unfolding_all rfl); (case F => k_asm); (case N => k_asm); intro _ _ _))
  trivial
theorem wDf10 : True := by
  k_with "storeName" => ((with_reducible show wpAny _ _ (storeName _ (Str.ofString "part") _) _ _ _); k_dflt (refine' storeC ?F ?N ?hC ?hx ?hk ?_; (case hC => with_unfolding_all rfl); (case hx => with_unfolding_all rfl); (case hk => with_unfolding_all rfl); (case F => k_asm); (case N => k_asm); intro _ _ _))
  trivial
theorem wDf11 : True := by
  k_with "call type:tuple" => k_dflt (refine' tupleN ?F ?N ?M ?hz ?_; (case F => k_asm); (case N => k_asm); (case M => k_mem); (case hz => assumption); intro _ _ _ _ l1; (try k_lt l1); (first | (revert l1; intro _) | skip))
  trivial
theorem wDf12 : True := by
  k_with "compareOp NotIn" => k_dflt (refine' notinT (xs := []) (r := true) ?F ?N ?hd ?ha ?ho ?hk ?hv ?hr ?hs ?hu ?_; (case F => k_asm); (case N => k_asm); (case hd => k_mem); (case ha => k_mem); (case ho => assumption); (case hk => intro x hx; cases hx); (case hv => assumption); (case hr => exact rfl); (case hs => assumption); (case hu => (dsimp only [Ar, Around.deeper]; rw [show cLine = 9900 from rfl]; lia)); intro _)
  trivial
theorem wDf13 : True := by
  k_with "setItem ref ref" => k_dflt (refine' ssetT (xs := []) ?F ?N ?U ?ha ?ho ?hk ?hv ?hp ?hz ?hu ?_; (case F => k_asm); (case N => k_asm); (case U => k_updF); (case ha => k_mem); (case ho => assumption); (case hk => intro x hx; cases hx); (case hv => assumption); (case hp => exact rfl); (case hz => decide); (case hu => (dsimp only [Ar, Around.deeper]; rw [show cLine = 9900 from rfl]; lia)); intro _ _ _ _ _ _)
  trivial
noncomputable abbrev mD (o1 o2 : Option Value) (D tb fx : Nat) (t : Tok) : Str → Option Value := fun y => if y = Str.ofString "number" then o1 else if y = Str.ofString "look" then o2 else if y = Str.ofString "told" then some (.ref D)
  else if y = Str.ofString "self" then some (.ref tb) else if y = Str.ofString "name" then some (.str (Str.ofString "default") t) else if y = Str.ofString "face" then some (.ref fx) else none
set_option maxHeartbeats 8000000 in
theorem define_def {w : World} {mean : ExcName → Option Value} {mg mb : Str → Option Value} {g₀ : Heap} {s : Shared} {dp un : Nat} {fr : Option (List Env)} {gd : Option (List Code)} {R : Result → Shared → Prop}
    {tb d bn lk nu fx T0 n0 tn : Nat} {bo : Obj} {kvs : List (Str × Value)} {t t1 t2 t3 : Tok} {f : FaceD}
    (G : Gd w mean mg mb g₀) (hs : Sub g₀ s.heap) (htb : s.heap.get? tb = some (instObj 80 d)) (hd : s.heap.get? d = some (tabO w t1 t2 t3 bn lk nu tn)) (hb : s.heap.get? bn = some bo) (hlk : s.heap.get? lk = some (lstO [.ref T0] n0))
    (hbd : bo.IsDictOf (strKind Pg w) kvs) (hkl : kvs.length ≤ 20) (gtb : g₀.get? tb = none) (gd' : g₀.get? d = none) (gb : g₀.get? bn = none) (glk : g₀.get? lk = none) (o1 : d < tb) (o2 : tb < bn) (o3 : bn < lk)
    (hf : FaceAt w (hideAll s.heap [tb, d, bn, lk]) fx f) (hg : f.Good) (hdp : dp < 600) (hun : un < 800) (avx : List Nat) (havx : ∀ a ∈ avx, @LT.lt Nat _ a lk ∧ ∃ o, s.heap.get? a = some o ∧ ∀ xs n, o.cls = .type "tuple" → o.data = .seq xs n → False)
    (ret : ∀ (fx' nu' T2 n' : Nat) h' tk' bo' no' tt (vs : List Value), KB [tb, d, bn, lk] s.heap h' → h'.get? tb = some (instObj 80 d) → h'.get? d = some (tabO w t1 t2 t3 bn lk nu' tn) → h'.get? bn = some bo' → bo'.IsDictOf (strKind Pg w) (stored kvs (Str.ofString "default") (.ref fx')) →
      FaceAt w (hideAll h' ([tb, d, bn, lk, nu'] ++ avx)) fx' ⟨(f.parts.map (·.getD 0)).map some, []⟩ → h'.get? lk = some (lstO [.ref T2] n') → h'.IsTuple T2 vs.toArray → Are IntIs (f.parts.map (·.getD 0)) vs →
      h'.get? nu' = some no' → TDo Pg w no' [(f.parts.map (·.getD 0), T2, .int 0 tt)] → s.heap.get? nu' = none → s.heap.get? T2 = none → (nu' == sysModules) = false → @LT.lt Nat _ lk nu' → R (.ok (.ret .none)) { s with heap := h', toks := tk' }) :
    codeAny (model Pg w) (Ar dp un fr gd) (.call (.ref 58) ⟨[.ref tb, .str (Str.ofString "default") t, .ref fx], []⟩) R s := by
  obtain ⟨X, T⟩ := G
  have hrw : PySem.Challenge.rw_np0001_01 = PySem.Challenge.rw_np0001_01 := rfl
  revert X hrw
  k_fill
  intro X hrw
  refine enter1 (binds := [(Str.ofString "self", Value.ref tb), (Str.ofString "name", Value.str (Str.ofString "default") t), (Str.ofString "face", Value.ref fx)]) (own := [(tb, instObj 80 d), (d, tabO w t1 t2 t3 bn lk nu tn), (bn, bo), (lk, lstO [.ref T0] n0)]) X T hs ?ko (by k_is) (by k_is) ?kr (BindsTo.of_eq (by with_unfolding_all rfl)) (locs rfl) ?kb (by decide) rfl rfl rfl
  case ko =>
    refine fa4 ?_ ?_ ?_ ?_
    · exact ⟨htb, gtb⟩
    · exact ⟨hd, gd'⟩
    · exact ⟨hb, gb⟩
    · exact ⟨hlk, glk⟩
  case kr => show dp < recursionLimit; simp only [recursionLimit]; lia
  case kb =>
    intro g L h₁ F₁ N X' T' hlt lift hsg hLs
    clear X T hs hrw
    have tbL : tb < L := ltN (hlt (tb, _) (.head _))
    have dL : d < L := ltN (hlt (d, _) (.tail _ (.head _)))
    have bnL : bn < L := ltN (hlt (bn, _) (.tail _ (.tail _ (.head _))))
    have lkL : lk < L := ltN (hlt (lk, _) (.tail _ (.tail _ (.tail _ (.head _)))))
    have o4 : d < bn := by lia
    have o5 : d < lk := by lia
    have o6 : tb < lk := by lia
    have hsubh : Sub (hideAll s.heap [tb, d, bn, lk]) g := fun b o e => lift b o (fun q => by have q' : b ∈ [tb, d, bn, lk] := q; rw [hideAll_none _ q'] at e; cases e) (of_hideAll _ e)
    obtain ⟨fdd, pa, pr, fnn, u1, u2, pvs, pws, hIf, hpa, hpp, hpr, hpw⟩ := hf.up hsubh
    obtain ⟨zvs, hz15, hzp⟩ := plainT X'
    k_steps
    rename News _ _ _ _ => N5
    rename Fr _ _ _ _ => F5
    have hpaH := tupSub F5.keep hpa
    have hzH := tupSub F5.keep hz15
    have hz6 : zvs.length ≤ 100 := by have := hzp.length; simp at this; lia
    refine zip_comp (S1 := fun k h => h.IsTupleIter _ pa k ∧ h.IsTuple pa pvs.toArray) (S2 := fun k h => h.IsTupleIter _ 15 k ∧ h.IsTuple 15 zvs.toArray) X' T' F5 N5 rfl (fun Q E hQ => zip_callTT hpaH hzH hQ)
      (Inner.tuple (Nat.ne_of_lt (by obtain ⟨o, e, _⟩ := hpaH; exact ltSz e))) (Inner.tuple (Nat.ne_of_lt (by obtain ⟨o, e, _⟩ := hzH; have := ltSz e; exact Nat.lt_succ_of_lt this))) (by obtain ⟨o, e, _⟩ := hpaH; exact ltSz e) (by obtain ⟨o, e, _⟩ := hzH; exact ltSz e) hpp hzp (by rw [hg.1]; rfl) (by rw [hg.1]; decide) ?_ ?_
    · intro gB C hh tkk m₂ T p q x y frz' XB TB FB NB hpx hqy
      clear hf ret
      cases p with
      | none =>
        obtain rfl : x = .none := hpx
        k_steps
        all_goals first | (rename News _ _ _ _ => N8; rename Fr _ _ _ _ => F8; exact ⟨_, _, _, rfl, F8, N8, hqy⟩) | exact Str.ofString "" | exact Value.none | exact ([] : List (Str × Addr)) | exact (0 : Nat)
      | some i =>
        obtain ⟨t', rfl⟩ := hpx
        k_steps
        all_goals first | (rename News _ _ _ _ => N8; rename Fr _ _ _ _ => F8; exact ⟨_, _, _, rfl, F8, N8, ⟨_, rfl⟩⟩) | exact Str.ofString "" | exact Value.none | exact ([] : List (Str × Addr)) | exact (0 : Nat)
    · intro h2 zs D C av h' tk' e FN NN lD hz gC nC
      refine ⟨_, FN.ns, fun h'' tk'' hn2 hk2 => ?_⟩
      obtain ⟨F6, N6⟩ := aftC FN NN gC nC hn2 hk2
      have tbD : tb < D := ltN (lD (tb, _) (by k_mem))
      have dD : d < D := ltN (lD (d, _) (by k_mem))
      have bnD : bn < D := ltN (lD (bn, _) (by k_mem))
      have lkD : lk < D := ltN (lD (lk, _) (by k_mem))
      have hzl : zs.length ≤ 100 := by rw [← hz.length, List.length_zipWith, hg.1]; simp
      clear FN NN N5 F5 hn2 hk2 lD nC
      k_steps
      rename News _ _ _ _ => N5
      rename Fr _ _ _ _ => F5
      rename_i T1 hT1 lT1 fx' fd' pr' u1' u2' hfx tkfx lfx hpr' lfx2 hbn bo' hbd' tkb T2 hT2 lT2 hlk2 nu' hnu no' FA NA lonu hsnu hfnu hinu hfinu lnu hcur tkcur
      (revert nu'; intro (nu' : Nat); set_option tactic.hygienic false in intros)
      clear FA NA
      have gL : g.get? L = none := gL_none F5
      rw [orZero hg.1] at hz
      have hzi := Are.ints hz
      have hlkH := (N5 (lk, _) (by k_mem)).1
      have hnuH := (N5 (nu', _) (by k_mem)).1
      have hno0 : TDo Pg w no' [] := by
        obtain ⟨es, ep, a, b, _, c, _⟩ := hsnu
        cases hes : es.toList with
        | nil => exact ⟨a, es, ep, b, by rw [hes]; rfl, List.nodup_nil⟩
        | cons x y => rw [hes] at c; cases c
      refine call_enumerate_list (items := #[.ref T2]) ⟨_, hlkH, rfl, _, rfl⟩ fun h0 he hit hsz hk => ?_
      have nuI : nu' < hcur.objs.size := ltSz hnuH
      have lkI : lk < hcur.objs.size := ltSz hlkH
      have LI : @LT.lt Nat _ L hcur.objs.size := F5.ns.lt
      have WE := fun (A : Around) (hA : A.handled = none) => WalksT.enumerate (prog := Pg) (w := w) (A := A) hA (hcur.objs.size + 1) hcur.objs.size lk (Nat.succ_ne_self _) (Nat.ne_of_lt (Nat.lt_succ_of_lt lkI)) (Nat.ne_of_lt lkI) #[.ref T2]
      have ik : Sub hcur h0 := hk
      have st0 : (∃ old, IsEnum h0 (hcur.objs.size + 1) hcur.objs.size (0 : Nat) old) ∧ h0.IsListIter hcur.objs.size lk 0 ∧ h0.IsList lk #[.ref T2] := ⟨⟨_, he⟩, hit, ⟨_, ik _ _ hlkH, rfl, _, rfl⟩⟩
      refine (WE _ rfl).self 0 _ _ _ st0 ?_
      have hns0 : hcur.Ns L (mD none none D tb fx t) := nsL F5.ns [(Str.ofString "told", some (Value.ref D))] [(Str.ofString "number", none), (Str.ofString "look", none), (Str.ofString "told", some (Value.ref D)), (Str.ofString "self", some (Value.ref tb)), (Str.ofString "name", some (Value.str (Str.ofString "default") t)), (Str.ofString "face", some (Value.ref fx))]
        [(Str.ofString "face", Value.ref fx), (Str.ofString "name", Value.str (Str.ofString "default") t), (Str.ofString "self", Value.ref tb)] (by with_unfolding_all rfl) (by with_unfolding_all rfl) (by with_unfolding_all rfl) (by refine fa6 ?_ ?_ ?_ ?_ ?_ ?_ <;> with_unfolding_all rfl)
      refine ⟨hcur.objs.size + 1, _, _, [nu'], 1, _, _, fun i h => (∃ m', h.Ns L m') ∧ (i = 0 → h.Ns L (mD none none D tb fx t) ∧ h.get? nu' = some no') ∧ (1 ≤ i → ∃ no tt, h.get? nu' = some no ∧ TDo Pg w no [(f.parts.map (·.getD 0), T2, .int 0 tt)]), rfl,
        ItS.ofT (WE _ rfl) (fun i h hst => by obtain ⟨⟨_, q⟩, _⟩ := hst; exact Heap.lt_size q), st0, ?_, ?_, ?_, ?_, ?_, ?_⟩
      · intro b hb
        obtain rfl := List.mem_singleton.mp hb
        have : lk < b := lnu.2.2.2.2.2.2.2.2
        simp; lia
      · show L ∉ _
        simp only [List.mem_cons, List.not_mem_nil, or_false, not_or]
        exact ⟨Nat.ne_of_lt (Nat.lt_succ_of_lt LI), Nat.ne_of_lt LI, Nat.ne_of_gt lkL⟩
      · exact ⟨⟨_, hns0.at' fun o e => ik _ _ e⟩, fun _ => ⟨hns0.at' fun o e => ik _ _ e, ik _ _ hnuH⟩, fun h => absurd h (by decide)⟩
      · rintro i h h' ⟨⟨m', hm'⟩, a, b⟩ kb
        have nL : L ∉ [hcur.objs.size + 1, hcur.objs.size] := by simp only [List.mem_cons, List.not_mem_nil, or_false, not_or]; exact ⟨Nat.ne_of_lt (Nat.lt_succ_of_lt LI), Nat.ne_of_lt LI⟩
        have nN : nu' ∉ [hcur.objs.size + 1, hcur.objs.size] := by simp; lia
        exact ⟨⟨m', hm'.at' fun o e => kb _ _ nL e⟩, fun hi => ⟨(a hi).1.at' fun o e => kb _ _ nL e, kb _ _ nN (a hi).2⟩, fun hi => let ⟨no, tt, x, y⟩ := b hi; ⟨no, tt, kb _ _ nN x, y⟩⟩
      · intro i v h tk hi hPt5 hst hPt7 hkb
        refine turnQ fun Qc kc => ?_
        obtain ⟨T, vals, rfl, ⟨ti, xi, hxi, rfl⟩, hTu, hIT⟩ := hPt5
        obtain ⟨_, ha, _⟩ := hPt7
        have hi0 : i = 0 := by have : i < 1 := hi; lia
        subst hi0
        obtain ⟨hnsh, hnuh⟩ := ha rfl
        obtain rfl : Value.ref T2 = xi := by simpa using hxi
        have hk2 : KB (L :: [nu', hcur.objs.size + 1, hcur.objs.size]) hcur h := fun b o nb e => hkb b o (by show b ∉ L :: ([nu'] ++ [hcur.objs.size + 1, hcur.objs.size]); first | exact nb | simpa using nb) (ik b o e)
        have hfr : ∀ b ∈ [hcur.objs.size + 1, hcur.objs.size], hcur.objs.size ≤ b := fa2 (Nat.le_succ _) (Nat.le_refl _)
        have hsub : Sub g h := subTurn F5 (fa3 (N5 (_, no') (.head _)).2.2 (fresh_none F5.keep (Nat.le_succ _)) (fresh_none F5.keep (Nat.le_refl _))) hk2
        obtain ⟨frz, F7, N7, off, infrz, kback⟩ := kmode (own := [(nu', no'), (T2, tupO zs), (tb, instObj 80 d), (d, tabO w t1 t2 t3 bn lk nu' tn)]) (g := g) hnsh hsub F5.above (by
          refine fa4 ⟨hnuh, (N5 (_, no') (.head _)).2⟩ (oldN [nu'] _ hk2 N5 hfr (by repeat (first | exact List.Mem.head _ | refine List.Mem.tail _ ?_)) (nmC (Nat.ne_of_lt lnu.1) nm0)) (oldN [nu'] _ hk2 N5 hfr (by repeat (first | exact List.Mem.head _ | refine List.Mem.tail _ ?_)) (nmC (Nat.ne_of_lt lnu.2.2.2.2.2.1) nm0)) (oldN [nu'] _ hk2 N5 hfr (by repeat (first | exact List.Mem.head _ | refine List.Mem.tail _ ?_)) (nmC (Nat.ne_of_lt lnu.2.2.2.2.2.2.1) nm0)))
        simp only [List.cons_append, List.nil_append] at N7
        have off_n : ∀ p ∈ frz, p.1 ≠ nu' := offOne off (.head _)
        have w1 : T2 < nu' := lnu.1
        have w2 : tb < nu' := lnu.2.2.2.2.2.1
        have w3 : d < nu' := lnu.2.2.2.2.2.2.1
        have n7a := (N7 (T2, tupO zs) (by k_mem)).1
        have n7b := (N7 (tb, instObj 80 d) (by k_mem)).1
        have n7c := (N7 (d, tabO w t1 t2 t3 bn lk nu' tn) (by k_mem)).1
        clear N5 F5
        k_steps
        rename News _ _ _ _ => N8
        rename Fr _ _ _ _ => F8
        refine kc _ ⟨_, _, rfl, kbKeep (kback _ _ _ F8 N8 (fun p hp => by repeat (first | exact hp | refine List.Mem.tail _ ?_))) (faC (.inl (.head _)) (faC (.inl (.tail _ (.head _))) (faC (.inr ⟨_, n7a, (N8 (_, tupO zs) (by k_mem)).1⟩) (faC (.inr ⟨_, n7b, (N8 (_, instObj 80 d) (by k_mem)).1⟩) (faC (.inr ⟨_, n7c, (N8 (_, tabO w t1 t2 t3 bn lk nu' tn) (by k_mem)).1⟩) fa0))))), ⟨_, F8.ns⟩, fun h => absurd h (by decide), fun _ => ⟨_, ti, (N8 (nu', _) (.head _)).1, by rename TDo _ _ _ _ => hT8; simpa using hT8⟩⟩
      · rintro h tk ⟨_, _, hb1⟩ hkb
        obtain ⟨no, tt, hnu2, hno2⟩ := hb1 (Nat.le_refl _)
        have hk2 : KB (L :: [nu', hcur.objs.size + 1, hcur.objs.size]) hcur h := fun b o nb e => hkb b o (by show b ∉ L :: ([nu'] ++ [hcur.objs.size + 1, hcur.objs.size]); first | exact nb | simpa using nb) (ik b o e)
        have hsub : Sub g h := subTurn F5 (fa3 (N5 (_, no') (.head _)).2.2 (fresh_none F5.keep (Nat.le_succ _)) (fresh_none F5.keep (Nat.le_refl _))) hk2
        have old : ∀ a o, (a, o) ∈ [(T2, tupO zs), (fx', instObj 35 fd'), (fd', faceO w u1' u2' T1 pr' 2), (T1, tupO zs), (D, lstO zs e), (tb, instObj 80 d), (d, tabO w t1 t2 t3 bn lk nu' tn), (bn, bo'), (lk, W.listOf #[Value.ref T2] n0)] → a < nu' → h.get? a = some o := by
          intro a o hm hne
          have := N5 (a, o) (.tail _ hm)
          have hlt : @LT.lt Nat _ a hcur.objs.size := ltSz this.1
          exact hk2 _ _ (nmC this.2.1 (nmC (Nat.ne_of_lt hne) (nmC (Nat.ne_of_lt (Nat.lt_succ_of_lt hlt)) (nmC (Nat.ne_of_lt hlt) nm0)))) this.1
        obtain ⟨q1, q2, q3, q4, q5, q6, q7, q8, q9⟩ := lnu
        obtain ⟨r1, r2, r3, r4, r5, r6⟩ := lfx2
        obtain ⟨p1, p2, p3, p4, p5⟩ := lT1
        have hid : ∀ (a : Nat) o, h.get? a = some o → lk < a → a < nu' → (hideAll h ([tb, d, bn, lk, nu'] ++ avx)).get? a = some o := fun a o e x y => hideAll_get _ e (fun q => by
          rcases List.mem_append.mp q with q | q
          · exact (nmC (Nat.ne_of_gt (Nat.lt_trans o6 x)) (nmC (Nat.ne_of_gt (Nat.lt_trans o5 x)) (nmC (Nat.ne_of_gt (Nat.lt_trans o3 x)) (nmC (Nat.ne_of_gt x) (nmC (Nat.ne_of_lt y) nm0))))) q
          · exact Nat.lt_irrefl _ (Nat.lt_trans x (havx a q).1))
        have hidg : ∀ (a : Nat) o, g.get? a = some o → a ∉ [tb, d, bn, lk, nu'] := fun a o e => notAv (fa5 (N5 (_, instObj 80 d) (by k_mem)).2.2 (N5 (_, tabO w t1 t2 t3 bn lk nu' tn) (by k_mem)).2.2 (N5 (_, bo') (by k_mem)).2.2 (N5 (_, W.listOf #[Value.ref T2] n0) (by k_mem)).2.2 (N5 (_, no') (by k_mem)).2.2) e
        show wpAny _ _ (execs [] _) _ _ _
        refine wpAny_execs_nil ?_
        have lT2' := lT2.2.2.2.2.2.2.2
        refine ret fx' nu' T2 n0 h _ bo' no tt zs (fun b o nb e => hsub _ _ (lift b o nb e)) (old tb _ (by k_mem) q6) (old d _ (by k_mem) q7) (old bn _ (by k_mem) q8) hbd' ⟨fd', T1, pr', 2, u1', u2', zs, [], ?_, ⟨_, hid T1 _ (old T1 _ (by k_mem) q4) p5 q4, rfl, _, rfl⟩, hz, ?_, .nil⟩ (old lk _ (by k_mem) q9) ⟨_, old T2 _ (by k_mem) q1, rfl, _, rfl⟩ hzi hnu2 hno2 ?_ ?_ lonu q9
        · exact ⟨hid fx' _ (old fx' _ (by k_mem) q2) (by lia) q2, rfl, rfl, hid fd' _ (old fd' _ (by k_mem) q3) r6 q3⟩
        · obtain ⟨o, ho, r⟩ := hpr'
          refine ⟨o, hideAll_get _ (hsub _ _ ho) (fun q => ?_), r⟩
          rcases List.mem_append.mp q with q | q
          · exact hidg _ _ ho q
          · obtain ⟨_, o', h1, h2⟩ := havx _ q
            have ho' : g.get? pr' = some o' := lift _ _ (fun q2 => hidg _ _ ho (by
              have q3 : pr' ∈ ([tb, d, bn, lk] : List Nat) := q2
              simp only [List.mem_cons, List.not_mem_nil, or_false] at q3 ⊢
              lia)) h1
            rw [ho] at ho'; cases ho'
            obtain ⟨rc, n, rd⟩ := r
            exact h2 _ _ rc rd
        · exact fresh_of lift (by show nu' ∉ [tb, d, bn, lk]; first | k_mem | (simp only [List.mem_cons, List.not_mem_nil, or_false, not_or]; lia)) (N5 (nu', _) (by k_mem)).2.2
        · exact fresh_of lift (by show T2 ∉ [tb, d, bn, lk]; first | k_mem | (simp only [List.mem_cons, List.not_mem_nil, or_false, not_or]; lia)) (N5 (T2, _) (by k_mem)).2.2
end Mine

end
section
open PySem PySem.Spec PySem.Calls PySem.W PyProof.Rows
set_option Elab.async false
set_option linter.unusedVariables false
set_option maxRecDepth 100000
namespace Mine
theorem kxOx : True := by
  k_with_none
  k_with "ne" => (refine neN ?_; (try dsimp only); first | with_reducible assumption | exact Ne.symm (by with_reducible assumption) | exact Nat.ne_of_lt (by with_reducible assumption) | exact Nat.ne_of_gt (by with_reducible assumption) | lia)
  k_with "mem" => first | exact nm0 | (refine nmC ?_ ?_; k_ne; k_mem) | (refine inL ?_; k_mem) | exact fa0 | (refine faC ?_ ?_; k_mem; k_mem)
  trivial
section
variable {prog : Program} {w : World} {A : Around} {K : Frag} {p : Program} {loose : List Str} {mean : ExcName → Option Value} {mg mb : Str → Option Value}
  {g₀ : Heap} {s : Shared} {R : Result → Shared → Prop} {own : List (Addr × Obj)} {name qual : Str} {params : Arguments} {body : List Stmt} {scope : Scope} {cl : List (Str × Addr)}
  {doc pm ctv : Value} {c' f : Addr} {args : Args} {binds : List (Str × Value)}
theorem enterN (X : K.In g₀) (T : Top p loose mean mg mb g₀) (hg : Sub g₀ s.heap) (hown : ∀ q ∈ own, s.heap.get? q.1 = some q.2 ∧ g₀.get? q.1 = none)
    (ho : s.heap.get? f = some (fnMade name qual params body scope cl doc pm c' ctv)) (hcd : s.heap.CodeRec (.ref c') qual) (hroom : A.depth < recursionLimit)
    (hbind : BindsTo s (fnX name qual params body scope cl .none .none doc pm none (.ref c') ctv) args binds) (hloc : ∀ y ∈ binds, scope.names.lookup y.1 = some .local)
    (h : ∀ g L h₁, Fr g L h₁ (fun y => binds.reverse.lookup y) → News g L h₁ own → K.In g → Top p loose mean mg mb g → (∀ p ∈ own, p.1 < L) →
      KB (own.map (·.1)) s.heap g → Sub g₀ g → s.heap.objs.size ≤ L →
      wpAny (model prog w) (A.deeper (envX qual scope L f (.ref c') cl)) (execs body (envX qual scope L f (.ref c') cl))
        (fun fl s' => R (.ok (.ret (match fl with | .ret v => v | _ => .none))) s') (fun _ _ => False) { s with heap := h₁, toks := s.toks + binds.length })
    (hcell : ∀ x ∈ scope.names, x.2 ≠ .cell) (hco : scope.isCoroutine = false) (hgen : scope.isGenerator = false) (hk : scope.kind = .function) :
    codeAny (model prog w) A (.call (.ref f) args) R s := by
  refine codeAny_call_def (fd := fnX name qual params body scope cl .none .none doc pm none (.ref c') ctv) (body := body) (binds := binds) hroom ho rfl (T.nolimit.keeps hg) hcd rfl hbind hcell hloc (fun h₁ hns hk₁ => ?_) hco hgen hk
  have nm : ∀ b o, g₀.get? b = some o → b ∉ own.map (·.1) := fun b o e q => by
    obtain ⟨p, hp, rfl⟩ := List.mem_map.mp q
    rw [(hown p hp).2] at e; cases e
  have st : Sub g₀ (hideAll s.heap (own.map (·.1))) := fun b o e => hideAll_get _ (hg b o e) (nm b o e)
  exact wpAny_mono (h (hideAll s.heap (own.map (·.1))) s.heap.objs.size h₁ ⟨hns, fun b o e => hk₁ b o (of_hideAll _ e), Nat.le_of_eq (hideAll_size _ _)⟩
    (fun p hp => ⟨hk₁ _ _ (hown p hp).1, Nat.ne_of_lt (Heap.lt_size (hown p hp).1), hideAll_none _ (List.mem_map_of_mem hp)⟩) (X.keeps st) (T.keeps st)
    (fun p hp => Heap.lt_size (hown p hp).1) (fun b o n e => hideAll_get _ e n) st (Nat.le_refl _)) (fun _ _ x => x) fun _ _ x => x.elim
end
theorem ItS.listA {prog : Program} {w : World} {A : Around} {target : Expr} (hh : A.handled = none) (I l : Nat) (hne : l ≠ I) (items : Array Value) :
    ItS prog w A target I [I, l] [I] items.size (fun i v _ => items[i]? = some v) (fun i h => h.IsListIter I l i ∧ h.IsList l items) where
  sub := by simp
  frame := fun i h h' ⟨a, b⟩ kb => ⟨a.at fun o e => kb I (by first | k_mem | simp) o e, b.at fun o e => kb l (by first | k_mem | simp) o e⟩
  item := fun i s Q hi ⟨a, b⟩ hQ => wpAny_pyNext_list_item a b (Array.getElem?_eq_getElem hi) fun h' a' hs => ⟨_, rfl, letGo_listiter a' (hQ _ h' s.toks (Array.getElem?_eq_getElem hi) ⟨a', b.extBut hs.extBut hne⟩ (KB.same hs))⟩
  done := fun s Q ⟨a, b⟩ hQ => wpAny_pyNext_list_end hh a b (Array.getElem?_eq_none (Nat.le_refl _)) fun h' hs => ⟨rfl, hQ h' s.toks fun b o nb e => hs b o (by first | exact nb | simpa using nb) e⟩
  self := fun i s Q ⟨a, _⟩ hQ => wpAny_pyIter_listiter a hQ

theorem RowsAt.kb {av : List Nat} {h h' : Heap} {rows : List RowD} {vs : List Value} (k : KB av h h') (x : RowsAt h rows vs) (n : ∀ b ∈ av, ∃ o, h.get? b = some o ∧ o.cls ≠ .type "tuple") : RowsAt h' rows vs := by
  refine ⟨x.1, fun i r e => ?_⟩
  obtain ⟨v, a, b, pa, pr, tn, xs, ys, e1, e2, e3, e4, e5, e6⟩ := x.2 i r e
  exact ⟨v, a, b, pa, pr, tn, xs, ys, e1, tupKB k e2 n, tupKB k e3 n, e4, tupKB k e5 n, e6⟩

noncomputable abbrev qualA : Str := Str.ofString "_law_order" ++ Str.ofString ".<locals>." ++ Str.ofString "_law_ask"
/-- the table of the code of the law's function with a function inside -/
def TabOk (h : Heap) (ps : Array Value) : Prop :=
  ps = #[] ∨ ∃ (c' : Nat) (oc : Obj) (vs : Array Value) (t : Tok), ps = #[rawInt 74, rawInt 4, .ref c'] ∧ h.get? c' = some oc ∧ oc.data = .fields vs ∧ vs[1]? = some (.str qualA t)
theorem TabOk.keep {h h' : Heap} {ps : Array Value} (x : TabOk h ps) (k : ∀ (c' : Nat) oc vs, ps = #[rawInt 74, rawInt 4, .ref c'] → h.get? c' = some oc → oc.data = .fields vs → h'.get? c' = some oc) : TabOk h' ps := by
  rcases x with x | ⟨c', oc, vs, t, a, b, c, d⟩
  · exact .inl x
  · exact .inr ⟨c', oc, vs, t, a, k c' oc vs a b c, c, d⟩
section
variable {M : Model} {A : Around} {E : Value → Shared → Prop} {s : Shared} {h₀ : Heap} {L a c P : Addr} {m mg mb : Str → Option Value} {cn : Str} {cs : Scope} {ccd : Value} {cl : List (Str × Addr)} {news : List (Addr × Obj)} {g : Obj → List (Addr × Obj)}
  {p : Program} {loose : List Str} {mean : ExcName → Option Value} {name qual : Str} {params : Arguments} {body : List Stmt} {scope : Scope} {ps : Array Value} {pos : Pos} {firstLine : Nat} {clos : List (Str × Addr)}
theorem nestAny {Q : Value → Shared → Prop} (F : Fr h₀ L s.heap m) (N : News h₀ L s.heap news) (T : Top p loose mean mg mb h₀) (C : CodeHd h₀ c P) (hcd : ccd = .ref c) (U : UpdF P (tabObj ps) news g) (hps : TabOk h₀ ps) (hl : pos.line = 74) (hc : pos.col = 4) (hq : qual = qualA)
    (hcl : closureFor scope (envX cn cs L a ccd cl) = pure clos)
    (h : ∀ (f ec : Nat) (eo : Obj) (c' : Addr) (ctv doc : Value) (h' : Heap) (tk : Nat) (ps' : Array Value), Fr h₀ L h' m → News h₀ L h' ((f, fnMade name qual params body scope clos doc ((mg "__name__").getD .none) c' ctv) :: (ec, eo) :: g (tabObj ps')) →
      (∀ h'' : Heap, Sub h₀ h'' → h''.get? ec = some eo → h''.CodeRec (.ref c') qual ∧ TabOk h'' ps') → (∀ q ∈ news, q.1 < ec) → (∀ q ∈ news, q.1 < f) → Q (.ref f) { s with heap := h', toks := tk }) :
    wpAny M A (makeFunction name qual params (.stmts body) scope (envX cn cs L a ccd cl) [] [] [] pos firstLine) Q E s := by
  have hLs : L < s.heap.objs.size := F.ns.lt
  rcases hps with rfl | ⟨c', oc, vs, t, rfl, e1, e2, e3⟩
  · refine nest_K F N T C hcd U (by first | exact True.intro | simp [TriplesOk]) rfl hcl fun f c' oc vs t ctv doc h' tk F' N' d1 d2 l1 l2 => ?_
    have lf : ∀ q ∈ news, q.1 < f := fun q hq => Nat.lt_trans (l1 q hq) l2
    refine h f c' oc c' ctv doc h' tk (#[] ++ #[rawInt pos.line, rawInt pos.col, .ref c']) F' N' (fun h'' _ e => ⟨⟨c', oc, vs, t, rfl, e, d1, d2⟩, .inr ⟨c', oc, vs, t, ?_, e, d1, hq ▸ d2⟩⟩) l1 lf
    rw [hl, hc]; rfl
  · have hmem : (P, tabObj #[rawInt 74, rawInt 4, .ref c']) ∈ news := updF_mem U
    have hg : g (tabObj #[rawInt 74, rawInt 4, .ref c']) = news := by
      obtain ⟨pre, post, e, eg, _⟩ := U.split
      rw [e, eg]
    refine nestHit_K (c' := c') F N T C hcd hmem (by simp [TriplesOk, rawInt]) (by simp [codeAmong, rawInt, hl, hc]) hcl fun f ctv doc h' tk F' N' l1 => ?_
    rw [← hg] at N'
    refine h f f (fnMade name qual params body scope clos doc ((mg "__name__").getD .none) c' ctv) c' ctv doc h' tk #[rawInt 74, rawInt 4, .ref c'] F' ?_ (fun h'' k _ => ⟨⟨c', oc, vs, t, rfl, k _ _ e1, e2, hq ▸ e3⟩, .inr ⟨c', oc, vs, t, rfl, k _ _ e1, e2, e3⟩⟩) l1 l1
    intro q hq
    rcases List.mem_cons.mp hq with rfl | hq
    · exact N' _ (.head _)
    · exact N' _ hq
end
theorem TabOk.up103 {h h' : Heap} {ps : Array Value} (x : TabOk h ps) (e : h.get? 103 = some (tabObj ps)) (k : KB [103] h h') : TabOk h' ps := by
  rcases x with x | ⟨c', oc, vs, t, a, b, c, d⟩
  · exact .inl x
  · refine .inr ⟨c', oc, vs, t, a, k _ _ (nmC (fun q => ?_) nm0) b, c, d⟩
    subst q
    rw [e] at b
    cases b
    have hv : ps = vs := by injection c
    subst hv
    rw [a] at d
    simp [rawInt] at d
noncomputable def isStr (x : Str) : Value → Bool
  | .str z _ => z == x
  | _ => false
theorem any_isStr {x : Str} {found : List Str} {vs : List Value} (y : Are StrIs found vs) : vs.any (isStr x) = decide (x ∈ found) := by
  induction y with
  | nil => rfl
  | @cons a v as vs h _ ih =>
    obtain ⟨t, e⟩ := h
    subst e
    rw [List.any_cons, ih]
    show ((a == x) || decide (x ∈ as)) = decide (x ∈ a :: as)
    by_cases e : a = x
    · subst e; simp
    · rw [beq_eq_false_iff_ne.mpr e, Bool.false_or]; simp [Ne.symm e]
theorem isStr_eq {x : Str} {t : Tok} {found : List Str} {vs : List Value} (z : Are StrIs found vs) (y : Value) (hy : y ∈ vs) : MeetsSeq.EqGives y (.str x t) (isStr x y) := by
  obtain ⟨i, e⟩ := List.mem_iff_getElem?.mp hy
  obtain ⟨a, _, u, q⟩ := z.get' e
  subst q
  exact eqGives_str _ x u t
theorem notinL {prog : Program} {w : World} {A : Around} {E : Value → Shared → Prop} {s : Shared} {g : Heap} {L : Nat} {m : Str → Option Value} {news : List (Addr × Obj)} {l n : Nat} {vs : List Value} {found : List Str} {x : Str} {t : Tok} {b : Bool} {Q : Value → Shared → Prop}
    (N : News g L s.heap news) (hm : (l, lstO vs n) ∈ news) (hf : Are StrIs found vs) (hb : (!decide (x ∈ found)) = b) (h : Q (.bool b) s) : wpAny (model prog w) A (compareOp .NotIn (.str x t) (.ref l)) Q E s := by
  refine SeqAt.notIn_listAt (items := vs.toArray) (isStr x) ⟨_, (N _ hm).1, rfl, n, rfl⟩ (fun y hy => (isStr_eq hf y (by simpa using hy)).at _ _) ?_
  rw [List.any_toArray, any_isStr hf, hb]
  exact h

def AskSpec (w : World) (gA : Heap) (f fl : Nat) (own : List (Addr × Obj)) (tab : Str → Option (List Str)) (known : List Str) (n : Nat) : Prop :=
  ∀ (s : Shared) (dp un : Nat) (fr : Option (List Env)) (gd : Option (List Code)) (R : Result → Shared → Prop) (x : Str) (t : Tok) (vs : List Value) (found : List Str) (nn : Nat),
    Sub gA s.heap → (∀ p ∈ own, s.heap.get? p.1 = some p.2) → s.heap.get? fl = some (lstO vs nn) → Are StrIs found vs → unmet known found ≤ n → found.length + unmet known found ≤ 20 → dp + n < 600 → un + 4 * n < 800 →
    (∀ r vs' n' h' tk', KB [fl] s.heap h' → h'.get? fl = some (lstO vs' n') → Are StrIs r vs' → Go tab [x] found r → unmet known r ≤ unmet known found → r.length + unmet known r ≤ 20 → R (.ok (.ret .none)) { s with heap := h', toks := tk' }) →
    codeAny (model Pg w) (Ar dp un fr gd) (.call (.ref f) ⟨[.str x t], []⟩) R s
theorem AskSpec.all {w : World} {gA : Heap} {f fl : Nat} {own : List (Addr × Obj)} {tab : Str → Option (List Str)} {known : List Str} (step : ∀ n, (∀ m, m < n → AskSpec w gA f fl own tab known m) → AskSpec w gA f fl own tab known n) (n : Nat) : AskSpec w gA f fl own tab known n :=
  Nat.strongRecOn n step
def Keeps (gA g : Heap) (L : Nat) (frz : List (Addr × Obj)) : Prop := ∀ h' m' news', Fr g L h' m' → News g L h' news' → (∀ p ∈ frz, p ∈ news') → Sub gA h'
theorem Keeps.use {gA g : Heap} {L : Nat} {frz : List (Addr × Obj)} {h' m' news'} (k : Keeps gA g L frz) (F : Fr g L h' m') (N : News g L h' news') (hm : ∀ p ∈ frz, p ∈ news') : Sub gA h' := k _ _ _ F N hm
theorem use_ask {w : World} {gA g : Heap} {L : Nat} {m : Str → Option Value} {s : Shared} {A : Around} {news : List (Addr × Obj)} {gN : Obj → List (Addr × Obj)} {f fl nn n : Nat} {own : List (Addr × Obj)} {tab : Str → Option (List Str)} {known found : List Str} {vs : List Value}
    {x : Str} {t : Tok} {Q : Value → Shared → Prop} {E : Value → Shared → Prop}
    (ih : AskSpec w gA f fl own tab known n) (F : Fr g L s.heap m) (N : News g L s.heap news) (hS : Sub gA s.heap) (hown : ∀ p ∈ own, p ∈ news) (U : UpdF fl (lstO vs nn) news gN) (hf : Are StrIs found vs) (hu : unmet known found ≤ n) (hl : found.length + unmet known found ≤ 20)
    (hh : A.handled = none) (hd : A.depth + n < 600) (hun : A.units + 4 * n < 800)
    (h : ∀ r vs' n' h' tk', Fr g L h' m → News g L h' (gN (lstO vs' n')) → Are StrIs r vs' → Go tab [x] found r → unmet known r ≤ unmet known found → r.length + unmet known r ≤ 20 → Q .none { s with heap := h', toks := tk' }) :
    wpAny (model Pg w) A (call (.ref f) [.str x t]) Q E s := by
  refine wpNv ?_
  obtain ⟨hd0, dp, fr, gd, un⟩ := A
  dsimp only at hh hd hun
  subst hh
  refine wpAny_call (ih s dp un fr gd _ x t vs found nn hS (fun p hp => (N p (hown p hp)).1) (N _ (updF_mem U)).1 hf hu hl hd hun ?_)
  intro r vs' n' h' tk' kb hfl hr hgo hu' hl'
  obtain ⟨F', N'⟩ := upd_fr F N U kb hfl
  exact h r vs' n' h' tk' F' N' hr hgo hu' hl'
theorem ItS.tupleA {prog : Program} {w : World} {A : Around} {x : Str} {px : Pos} (hh : A.handled = none) (I l : Nat) (hne : l ≠ I) (items : Array Value) :
    ItS prog w A (.Name x px) I [I, l] [I] items.size (fun i v _ => items[i]? = some v) (fun i h => h.IsTupleIter I l i ∧ h.IsTuple l items) :=
  ItS.of (Walks.tuple hh I l hne items)

theorem askFrom {hD : Heap} {f : Nat} {fo : Obj} (e : hD.get? f = some fo) {w : World} {gA : Heap} {fl : Nat} {rest : List (Addr × Obj)} {tab : Str → Option (List Str)} {known : List Str} {P : Prop}
    (step : ∀ n, (∀ m, m < n → AskSpec w gA f fl ((f, fo) :: rest) tab known m) → AskSpec w gA f fl ((f, fo) :: rest) tab known n) (k : (∀ n, AskSpec w gA f fl ((f, fo) :: rest) tab known n) → P) : P := k (AskSpec.all step)

theorem hallCons {h : Heap} {a : Nat} {o : Obj} {l : List (Addr × Obj)} (e : h.get? a = some o) (k : ∀ p ∈ l, h.get? p.1 = some p.2) : ∀ p ∈ ((a : Addr), o) :: l, h.get? p.1 = some p.2 := fun p hp => by
  rcases List.mem_cons.mp hp with rfl | hp
  · exact e
  · exact k p hp

theorem ownFin {fl : Nat} {lo lo' : Obj} {own news' : List (Addr × Obj)} {h g h' : Heap} {L : Nat} {m : Str → Option Value} (lift : KB ((((fl : Addr), lo) :: own).map (·.1)) h g) (hall : ∀ p ∈ ((fl : Addr), lo) :: own, h.get? p.1 = some p.2)
    (F : Fr g L h' m) (N : News g L h' news') (hm0 : ((fl : Addr), lo') ∈ news') (hm : ∀ p ∈ own, p ∈ news') : KB [fl] h h' ∧ h'.get? fl = some lo' := by
  refine ⟨kbKeep (exitKB lift F) (fun b hb => ?_), (N _ hm0).1⟩
  obtain ⟨p, hp, rfl⟩ := List.mem_map.mp hb
  rcases List.mem_cons.mp hp with rfl | hp
  · exact .inl (.head _)
  · exact .inr ⟨_, hall _ (.tail _ hp), (N _ (hm _ hp)).1⟩

theorem kmode2 {g h : Heap} {L fl : Nat} {m : Str → Option Value} {lo : Obj} {own : List (Addr × Obj)} (hn : h.Ns L m) (hsub : Sub g h) (hL : g.objs.size ≤ L) (hfl : h.get? fl = some lo ∧ fl ≠ L ∧ g.get? fl = none)
    (hown : ∀ p ∈ own, h.get? p.1 = some p.2 ∧ p.1 ≠ L ∧ g.get? p.1 = none) :
    KMode g h L m (((fl : Addr), lo) :: own) :=
  kmode (own := ((fl : Addr), lo) :: own) hn hsub hL fun p hp => by
    rcases List.mem_cons.mp hp with rfl | hp
    · exact hfl
    · exact hown p hp
theorem turnKB {g h h' : Heap} {L fl : Nat} {lo : Obj} {own news' : List (Addr × Obj)} (k : KB (L :: (((fl : Addr), lo) :: own).map (·.1)) h h') (hown : ∀ p ∈ own, h.get? p.1 = some p.2) (N : News g L h' news') (hm : ∀ p ∈ own, p ∈ news') : KB (L :: [fl]) h h' :=
  kbKeep k fun b hb => by
    rcases List.mem_cons.mp hb with rfl | hb
    · exact .inl (.head _)
    · obtain ⟨p, hp, rfl⟩ := List.mem_map.mp hb
      rcases List.mem_cons.mp hp with rfl | hp
      · exact .inl (.tail _ (.head _))
      · exact .inr ⟨_, hown _ hp, (N _ (hm _ hp)).1⟩

theorem bindOwn {own : List (Addr × Obj)} {h : Heap} (hown : ∀ p ∈ own, h.get? p.1 = some p.2) {P : Addr × Obj → Prop} (k : ∀ p ∈ own, P p) : ∀ p ∈ own, P p := k

theorem bindAsk {w : World} {gA : Heap} {f fl : Nat} {own : List (Addr × Obj)} {tab : Str → Option (List Str)} {known : List Str} {n : Nat} (ask : AskSpec w gA f fl own tab known n) {P : Addr × Obj → Prop} (k : ∀ p ∈ own, P p) : ∀ p ∈ own, P p := k
end Mine

end
section
open PySem PySem.Spec PySem.Calls PySem.W PyProof.Rows
set_option Elab.async false
set_option linter.unusedVariables false
set_option maxRecDepth 100000
namespace Mine

theorem kxOr : True := by
  k_with_none
  k_with "ne" => (refine neN ?_; (try dsimp only); first | with_reducible assumption | exact Ne.symm (by with_reducible assumption) | exact Nat.ne_of_lt (by with_reducible assumption) | exact Nat.ne_of_gt (by with_reducible assumption) | lia)
  k_with "mem" => first | exact nm0 | (refine nmC ?_ ?_; k_ne; k_mem) | (refine inL ?_; k_mem) | exact fa0 | (refine faC ?_ ?_; k_mem; k_mem)
  trivial
noncomputable def rowTab (rows : List RowD) : Str → Option (List Str) := fun x => ((List.range rows.length).find? fun i => decide (chr i = x)).bind fun i => (rows[i]?).map fun r => r.parents.map chr
theorem rowTab_some {rows : List RowD} {i : Nat} {r : RowD} (h : rows[i]? = some r) : rowTab rows (chr i) = some (r.parents.map chr) := by
  have hi : i < rows.length := by
    rcases Nat.lt_or_ge i rows.length with q | q
    · exact q
    · rw [List.getElem?_eq_none q] at h; cases h
  unfold rowTab
  cases e : (List.range rows.length).find? fun j => decide (chr j = chr i) with
  | none =>
    have := List.find?_eq_none.mp e i (List.mem_range.mpr hi)
    simp at this
  | some j =>
    have := List.find?_some e
    have hj : j = i := chr_inj (of_decide_eq_true this)
    subst hj
    show (rows[j]?).map _ = _
    rw [h]; rfl
theorem rowTab_none {rows : List RowD} {x : Str} (h : ∀ i < rows.length, x ≠ chr i) : rowTab rows x = none := by
  unfold rowTab
  cases e : (List.range rows.length).find? fun j => decide (chr j = x) with
  | none => rfl
  | some j =>
    have h1 := List.find?_some e
    have h2 := List.mem_range.mp (List.mem_of_find?_eq_some e)
    exact absurd (of_decide_eq_true h1).symm (h j h2)
theorem nmStr {ns : List Nat} {ws : List Value} (x : Are NmIs ns ws) : Are StrIs (ns.map chr) ws := by
  induction x with
  | nil => exact .nil
  | cons h _ ih => exact .cons h ih
/-- the table of what is known, to k rows -/
inductive KnownAt (h : Heap) (rows : List RowD) (kvs : List (Str × Value)) (k : Nat) (x : Str) : Prop
  | no (a : ∀ i < k, x ≠ chr i) (b : valueAt kvs x = none)
  | yes (i : Nat) (r : RowD) (pr : Nat) (ws : List Value) (a : i < k) (b : x = chr i) (c : rows[i]? = some r) (d : valueAt kvs x = some (.ref pr)) (e : h.IsTuple pr ws.toArray) (f : Are NmIs r.parents ws)
def KnownX (h : Heap) (rows : List RowD) (kvs : List (Str × Value)) (k : Nat) : Prop := ∀ x, KnownAt h rows kvs k x
theorem KnownX.up {g h : Heap} {rows kvs k} (s : Sub g h) (x : KnownX g rows kvs k) : KnownX h rows kvs k := fun y => by
  rcases x y with ⟨a, b⟩ | ⟨i, r, pr, ws, a, b, c, d, e, f⟩
  · exact .no a b
  · exact .yes i r pr ws a b c d (tupSub s e) f
theorem KnownX.nil {h : Heap} {rows} : KnownX h rows [] 0 := fun x => .no (fun i hi => absurd hi (Nat.not_lt_zero _)) rfl
theorem KnownX.snoc {h : Heap} {rows kvs} {k : Nat} {r : RowD} {pr : Nat} {ws : List Value} (x : KnownX h rows kvs k) (hr : rows[k]? = some r) (hp : h.IsTuple pr ws.toArray) (hw : Are NmIs r.parents ws) : KnownX h rows (stored kvs (chr k) (.ref pr)) (k + 1) := fun y => by
  by_cases hy : y = chr k
  · subst hy; exact .yes k r pr ws (Nat.lt_succ_self _) rfl hr (by rw [valueAt_stored, if_pos rfl]) hp hw
  · have e9 : valueAt (stored kvs (chr k) (.ref pr)) y = valueAt kvs y := by rw [valueAt_stored, if_neg hy]
    rcases x y with ⟨a, b⟩ | ⟨i, r, pr, ws, a, b, c, d, e, f⟩
    · exact .no (fun i hi => by
        rcases Nat.lt_or_ge i k with q | q
        · exact a i q
        · have : i = k := by lia
          rw [this]; exact hy) (e9.trans b)
    · exact .yes i r pr ws (Nat.lt_succ_of_lt a) b c (e9.trans d) e f

local macro_rules | `(tactic| k_all) => `(tactic| assumption)
theorem wOr1 : True := by
  k_with "exec For Tuple Name" => k_dflt (refine' for_rule ?_ ?hs; (case hs => intro _; with_unfolding_all rfl))
  trivial
theorem wOr2 : True := by
  k_with "exec For Name Name" => k_dflt (refine' for_rule ?_ ?hs; (case hs => intro _; with_unfolding_all rfl))
  trivial
theorem wOr3 : True := by
  k_with "unpackItems" => k_dflt (refine' unpackN ?F ?N ?hh ?hT ?hk ?_; (case hT => first | assumption | exact tupSub (Fr.keep (by k_asm)) (by assumption)); (case F => k_asm); (case N => k_asm); (case hh => rfl); (case hk => exact rfl); intro _ _ _)
  trivial
theorem wOr4 : True := by
  k_with "setItem" => k_dflt (refine' sset_str ?F ?N ?U ?hd ?hz ?_; (case F => k_asm); (case N => k_asm); (case U => k_updF); (case hd => assumption); (case hz => lia); intro _ _ _ _ _)
  trivial
theorem wOr5 : True := by
  k_with "exec FunctionDef" => (k_dflt (refine' nestDef_K ?d0 ?k0 ?a0 ?_; (case d0 => exact rfl); (case k0 => exact rfl); (case a0 => exact rfl)); (k_dflt (refine' nestAny ?F ?N ?T ?C ?cd ?U ?ps ?l ?c ?q ?cl ?_; (case F => k_asm); (case N => k_asm); (case T => k_asm); (case C => assumption); (case cd => exact rfl); (case U => k_updF); (case ps => assumption); (case l => exact rfl); (case c => exact rfl); (case q => with_unfolding_all rfl); (case cl => exact rfl))); intro _ _ _ _ _ _ _ _ _ _ N' hst' l1 l2; (try dsimp only at N'); (try k_lt l1); (try k_lt l2); (first | (revert N' hst' l1 l2; intro _ _ _ _) | (revert N' hst' l2; intro _ _ _) | (revert N' hst' l1; intro _ _ _) | (revert N' hst'; intro _ _) | skip))
  trivial
theorem wOr6 : True := by
  k_with "exec For Name Subscript" => k_dflt (refine' for_rule ?_ ?hs; (case hs => intro _; with_unfolding_all rfl))
  trivial
theorem wOr7 : True := by
  k_with "compareOp In" => k_dflt (refine' inB ?hl ?ho ?hd ?hv ?_; (case ho => exact News.get (by k_asm) (by k_mem)); (case hd => assumption); (case hv => assumption); (case hl => assumption))
  trivial
theorem wOr8 : True := by
  k_with "compareOp NotIn" => k_dflt (refine' notinL ?N ?hm ?hf ?hb ?_; (case N => k_asm); (case hm => k_mem); (case hf => assumption); (case hb => assumption))
  trivial
theorem wOr9 : True := by
  k_with "subscriptTail" => k_dflt (refine' itemB ?ho ?hd ?hv ?_ ?hs ?hg; (case ho => exact News.get (by k_asm) (by k_mem)); (case hd => assumption); (case hv => assumption); (case hs => with_unfolding_all rfl); (case hg => intro _; with_unfolding_all rfl))
  trivial
theorem wOr10 : True := by
  skip
  trivial
noncomputable abbrev mA (o : Option Value) (x : Str) (t : Tok) : Str → Option Value := fun y => if y = Str.ofString "parent" then o else if y = Str.ofString "name" then some (.str x t) else none
noncomputable abbrev mO (o1 o2 o3 : Option Value) (ll nt : Nat) : Str → Option Value := fun y => if y = Str.ofString "name" then o1 else if y = Str.ofString "part_list" then o2 else if y = Str.ofString "parents" then o3
  else if y = Str.ofString "lines_laid" then some (.ref ll) else if y = Str.ofString "name_list" then some (.ref nt) else none
theorem mO_step {v1 v2 v3 : Value} {o1 o2 o3 : Option Value} {ll nt : Nat} : (fun y => if y = Str.ofString "parents" then some v3 else if y = Str.ofString "part_list" then some v2 else if y = Str.ofString "name" then some v1 else mO o1 o2 o3 ll nt y) = mO (some v1) (some v2) (some v3) ll nt := by
  funext y
  show _ = (if y = Str.ofString "name" then some v1 else if y = Str.ofString "part_list" then some v2 else if y = Str.ofString "parents" then some v3 else if y = Str.ofString "lines_laid" then some (.ref ll) else if y = Str.ofString "name_list" then some (.ref nt) else none)
  by_cases h1 : y = Str.ofString "name"
  · subst h1; with_unfolding_all rfl
  by_cases h2 : y = Str.ofString "part_list"
  · subst h2; with_unfolding_all rfl
  by_cases h3 : y = Str.ofString "parents"
  · subst h3; with_unfolding_all rfl
  · simp only [mO, if_neg h1, if_neg h2, if_neg h3]
theorem mA_step {v : Value} {o : Option Value} {x : Str} {t : Tok} : (fun y => if y = Str.ofString "parent" then some v else mA o x t y) = mA (some v) x t := by
  funext y
  by_cases h1 : y = Str.ofString "parent"
  · rw [if_pos h1]; show _ = if y = _ then _ else _; rw [if_pos h1]
  · rw [if_neg h1]; show (if y = _ then _ else _) = if y = _ then _ else _; rw [if_neg h1, if_neg h1]
theorem mO_name {v : Value} {o1 o2 o3 : Option Value} {ll nt : Nat} : (fun y => if y = Str.ofString "name" then some v else mO o1 o2 o3 ll nt y) = mO (some v) o2 o3 ll nt := by
  funext y
  by_cases h1 : y = Str.ofString "name"
  · rw [if_pos h1]; show _ = if y = _ then _ else _; rw [if_pos h1]
  · rw [if_neg h1]; show (if y = _ then _ else _) = if y = _ then _ else _; rw [if_neg h1, if_neg h1]
theorem takeSnoc {l : List Str} {j : Nat} {x : Str} (h : l[j]? = some x) : l.take (j + 1) = l.take j ++ [x] := by rw [List.take_add_one, h]; rfl
inductive OrJ1 (w : World) (g : Heap) (L kd ll nt : Nat) (rows : List RowD) (i : Nat) (h : Heap) : Prop
  | mk (o1 : Option Value) (o2 : Option Value) (o3 : Option Value) (kvs : List (Str × Value)) (ko : Obj) (f1 : h.Ns L (mO o1 o2 o3 ll nt)) (f2 : h.get? kd = some ko) (f3 : ko.IsDictOf (strKind Pg w) kvs) (f4 : KnownX g rows kvs i) (f5 : kvs.length ≤ i)
inductive OrJ2 (L₂ fl : Nat) (i : Nat) (t : Tok) (rows : List RowD) (r : RowD) (found : List Str) (j : Nat) (h : Heap) : Prop
  | mk (o : Option Value) (r9 : List Str) (vs9 : List Value) (n9 : Nat) (f1 : h.Ns L₂ (mA o (chr i) t)) (f2 : h.get? fl = some (lstO vs9 n9)) (f3 : Are StrIs r9 vs9) (f4 : Go (rowTab rows) ((r.parents.map chr).take j) (found ++ [chr i]) r9) (f5 : unmet ((List.range 5).map chr) r9 ≤ unmet ((List.range 5).map chr) (found ++ [chr i])) (f6 : r9.length + unmet ((List.range 5).map chr) r9 ≤ 20)
inductive OrJ3 (L fl ll nt : Nat) (rows : List RowD) (names : List Str) (j : Nat) (h : Heap) : Prop
  | mk (o1 : Option Value) (o2 : Option Value) (o3 : Option Value) (r9 : List Str) (vs9 : List Value) (n9 : Nat) (f1 : h.Ns L (mO o1 o2 o3 ll nt)) (f2 : h.get? fl = some (lstO vs9 n9)) (f3 : Are StrIs r9 vs9) (f4 : Go (rowTab rows) (names.take j) [] r9) (f5 : unmet ((List.range 5).map chr) r9 ≤ 5) (f6 : r9.length + unmet ((List.range 5).map chr) r9 ≤ 20)
set_option maxHeartbeats 8000000 in
theorem order_ok {w : World} {mean : ExcName → Option Value} {mg mb : Str → Option Value} {g₀ : Heap} {s : Shared} {dp un : Nat} {fr : Option (List Env)} {gd : Option (List Code)} {R : Result → Shared → Prop}
    {ll nt n : Nat} {vs ws : List Value} {rows : List RowD} {names : List Str} {ps : Array Value}
    (G : Gd w mean mg mb g₀) (hs : Sub g₀ s.heap) (hC : CodeHd g₀ 107 103) (ht : s.heap.get? 103 = some (tabObj ps)) (htab : TabOk s.heap ps) (g103 : g₀.get? 103 = none)
    (hll : s.heap.get? ll = some (lstO vs n)) (hrows : RowsAt s.heap rows vs) (hgood : ∀ r ∈ rows, r.Good) (hrl : rows.length = 5) (hn : s.heap.IsTuple nt ws.toArray) (hw : Are StrIs names ws) (hlen : names.length ≤ 10) (hdp : dp < 500) (hun : un < 600)
    (ret : ∀ (l : Nat) vs' n' r ps' h' tk', KB [103] s.heap h' → s.heap.get? l = none → h'.get? l = some (lstO vs' n') → Are StrIs r vs' → Go (rowTab rows) names [] r → r.length ≤ 20 → h'.get? 103 = some (tabObj ps') → TabOk h' ps' → R (.ok (.ret (.ref l))) { s with heap := h', toks := tk' }) :
    codeAny (model Pg w) (Ar dp un fr gd) (.call (.ref 108) ⟨[.ref ll, .ref nt], []⟩) R s := by
  obtain ⟨X, T⟩ := G
  have hrw : PySem.Challenge.rw_np0001_01 = PySem.Challenge.rw_np0001_01 := rfl
  revert X hrw
  k_fill
  intro X hrw
  refine enterC (binds := [(Str.ofString "lines_laid", Value.ref ll), (Str.ofString "name_list", Value.ref nt)]) (own := [(103, tabObj ps)]) X T hs ?ko (by k_is) (by k_is) ?kr (BindsTo.of_eq (by with_unfolding_all rfl)) (by exact rfl) (by decide +kernel) ?kb rfl rfl rfl
  case ko => intro p hp; obtain rfl := List.mem_singleton.mp hp; exact ⟨ht, g103⟩
  case kr => show dp < recursionLimit; simp only [recursionLimit]; lia
  case kb =>
    intro g L h₁ tk cells F N Y X' T' hlt lift hsg
    (revert L; intro (L : Nat); set_option tactic.hygienic false in intros)
    clear X T hs hrw
    obtain ⟨oA, oB, oC, hE, dA, dB, dC⟩ := CellsAre.three Y
    subst hE
    clear Y
    have dA : oA.data = .cell none := by with_unfolding_all exact dA
    have dB : oB.data = .cell none := by with_unfolding_all exact dB
    have dC : oC.data = .cell none := by with_unfolding_all exact dC
    have l103 : 103 < L := ltN (hlt (103, _) (.head _))
    (try simp only [List.cons_append, List.nil_append] at N)
    have hCg : CodeHd g 107 103 := hC.keeps hsg
    have htabg : TabOk g ps := htab.up103 ht lift
    refine stmtH fun Q1 k1 k2 => ?_
    k_steps
    refine k1 _ (fun tk => ?_) _
    clear k1 k2 Q1
    rename_i kd hk1 ko lokd hsk fsk hik fik lkd fl hf1 lfl Dt ht1 lDt hs1 hs2 okn dkn hA ofd FA NA dfd
    (revert kd; intro (kd : Nat); set_option tactic.hygienic false in intros)
    (revert fl; intro (fl : Nat); set_option tactic.hygienic false in intros)
    obtain ⟨a1, a2, a3, a4⟩ := lkd
    obtain ⟨b1, b2, b3, b4, b5⟩ := lfl
    have hllG := lift _ _ (nmC (neCls hll ht (show Value.type "list" ≠ Value.none by decide)) nm0) hll
    have hrowsg := hrows.kb lift (by intro b hb; have hb' : b ∈ [103] := hb; rw [List.mem_singleton.mp hb']; exact ⟨_, ht, by show (Value.none) ≠ .type "tuple"; decide⟩)
    have hllA := FA.keep _ _ hllG
    refine stmtH fun Q1 k1 k2 => ?_
    k_steps
    refine wpAny_pyIter_list ⟨_, hllA, rfl, _, rfl⟩ ?_
    dsimp only
    have hns0 : hA.Ns L (mO none none none ll nt) := nsL FA.ns [(Str.ofString "name_list", some (Value.ref nt)), (Str.ofString "lines_laid", some (Value.ref ll))] [(Str.ofString "name", none), (Str.ofString "part_list", none), (Str.ofString "parents", none), (Str.ofString "lines_laid", some (Value.ref ll)), (Str.ofString "name_list", some (Value.ref nt))]
        [] (by with_unfolding_all rfl) (by with_unfolding_all rfl) (by with_unfolding_all rfl) (by refine fa5 ?_ ?_ ?_ ?_ ?_ <;> with_unfolding_all rfl)
    generalize hI : hA.objs.size = I
    have hkdA := (NA (kd, ko) (by k_mem)).1
    have llA : ll < hA.objs.size := ltSz hllA
    have kdA : kd < hA.objs.size := ltSz hkdA
    have LA : L < hA.objs.size := FA.ns.lt
    have llL : ll ≠ L := (by have := ltSz hllG; have := FA.above; lia)
    have llkd : ll ≠ kd := (by have := ltSz hllG; have h2 : g.objs.size ≤ L := FA.above; lia)
    refine ⟨I, [I, ll], [I], [kd], _, _, _, OrJ1 w g L kd ll nt rows, rfl, ItS.listA rfl I ll (by lia) vs.toArray, ?_, ?_, ?_, ?_, ?_, ?_, ?_⟩
    · rw [← hI]
      exact ⟨⟨_, Heap.get?_push_size _ rfl, rfl, rfl⟩, ⟨_, Heap.get?_push_of_some _ hllA, rfl, _, rfl⟩⟩
    · intro b hb; rw [List.mem_singleton.mp hb]; first | k_mem | (simp only [List.mem_cons, List.not_mem_nil, or_false, not_or]; lia)
    · show L ∉ [I, ll]; first | k_mem | (simp only [List.mem_cons, List.not_mem_nil, or_false, not_or]; lia)
    · exact ⟨none, none, none, [], ko, hns0.at' fun o e => Heap.get?_push_of_some _ e, Heap.get?_push_of_some _ hkdA, hsk, KnownX.nil, Nat.le_refl _⟩
    · rintro i h h' ⟨o1, o2, o3, kvs, ko, c1, c2, c3, c4, c5⟩ kb
      exact ⟨o1, o2, o3, kvs, ko, c1.at' fun o e => kb _ _ (by first | k_mem | (simp; lia)) e, kb _ _ (by first | k_mem | (simp; lia)) c2, c3, c4, c5⟩
    · intro i v h tk hi hvi hst hPt7 hkb
      refine turnQ fun Qc kc => ?_
      obtain ⟨o1, o2, o3, kvs, ko, c1, c2, c3, c4, c5⟩ := hPt7
      have hi5 : i < rows.length := by rw [← hrows.1]; simpa using hi
      obtain ⟨v', hv', a, pa, pr, tn, xs, ys, rfl, e2, e3, e4, e5, e6⟩ := hrowsg.2 i _ (List.getElem?_eq_getElem hi5)
      obtain rfl : Value.ref a = v := by rw [List.getElem?_toArray, hv'] at hvi; exact Option.some.inj hvi
      have hk2 : KB (L :: [kd, I]) hA h := fun b o nb e => hkb b o (by show b ∉ L :: ([kd] ++ [I]); first | exact nb | simpa using nb) (Heap.get?_push_of_some _ e)
      have nkd := (NA (kd, _) (by k_mem)).2
      have nkn := NA (L + 1 + 1 + 1, okn) (by k_mem)
      have hsub : Sub g h := subTurn FA (by refine fa2 ?_ ?_; exact nkd.2; exact fresh_none FA.keep (Nat.le_of_eq hI)) hk2
      have lknA : L + 1 + 1 + 1 < hA.objs.size := ltSz nkn.1
      obtain ⟨frz, F7, N7, off, infrz, kback⟩ := kmode (own := [(kd, ko), (L + 1 + 1 + 1, okn)]) (g := g) c1 hsub FA.above (by
        refine fa2 ?_ ?_
        · exact ⟨c2, nkd⟩
        · exact ⟨hk2 _ _ (by first | k_mem | (simp only [List.mem_cons, List.not_mem_nil, or_false, not_or]; lia)) nkn.1, nkn.2⟩)
      simp only [List.cons_append, List.nil_append] at N7
      have off_k : ∀ p ∈ frz, p.1 ≠ kd := offOne off (by repeat (first | exact List.Mem.head _ | refine List.Mem.tail _ ?_))
      have n7 := (N7 (L + 1 + 1 + 1, okn) (by k_mem)).1
      have hkl : kvs.length ≤ 100 := by lia
      clear NA FA
      k_steps
      rename News _ _ _ _ => N8
      rename Fr _ _ _ _ => F8
      rename Obj.IsDictOf _ _ _ => hd8
      refine kc _ ⟨_, _, rfl, kbKeep (kback _ _ _ F8 N8 (fun p hp => by repeat (first | exact hp | refine List.Mem.tail _ ?_))) (faC (.inl (.head _)) (faC (.inl (.tail _ (.head _))) (faC (.inr ⟨_, n7, (N8 (L + 1 + 1 + 1, okn) (by k_mem)).1⟩) fa0))), some (.str (chr i) tn), some (.ref pa), some (.ref pr), _, _, nsEq F8.ns mO_step, (N8 (kd, _) (by k_mem)).1, hd8, c4.snoc (List.getElem?_eq_getElem hi5) e5 e6, by have := stored_length_le kvs (chr i) (Value.ref pr); lia⟩
    · rintro h tk ⟨o1, o2, o3, kvs, ko, c1, c2, c3, c4, c5⟩ hkb
      have hk2 : KB (L :: [kd, I]) hA h := fun b o nb e => hkb b o (by show b ∉ L :: ([kd] ++ [I]); first | exact nb | simpa using nb) (Heap.get?_push_of_some _ e)
      have nkd := (NA (kd, _) (by k_mem)).2
      have hsub : Sub g h := subTurn FA (by refine fa2 ?_ ?_; exact nkd.2; exact fresh_none FA.keep (Nat.le_of_eq hI)) hk2
      have hfr : ∀ b ∈ [I], hA.objs.size ≤ b := fa1 (Nat.le_of_eq hI)
      have gI : g.get? I = none := fresh_none FA.keep (Nat.le_of_eq hI)
      obtain ⟨frz, F7, N7, off, infrz, kback⟩ := kmode (own := [(fl, W.listOf #[] 0), (kd, ko), (L + 1 + 1 + 1, okn), (L + 1 + 1, ofd), (L + 1, oC), (103, tabObj ps)]) (g := g) c1 hsub FA.above (by
        refine fa6 (oldN [kd] _ hk2 NA hfr (by repeat (first | exact List.Mem.head _ | refine List.Mem.tail _ ?_)) (nmC (by show (fl : Nat) ≠ kd; k_ne) nm0)) ⟨c2, nkd⟩ (oldN [kd] _ hk2 NA hfr (by repeat (first | exact List.Mem.head _ | refine List.Mem.tail _ ?_)) (nmC (by show (L + 1 + 1 + 1 : Nat) ≠ kd; k_ne) nm0)) (oldN [kd] _ hk2 NA hfr (by repeat (first | exact List.Mem.head _ | refine List.Mem.tail _ ?_)) (nmC (by show (L + 1 + 1 : Nat) ≠ kd; k_ne) nm0)) (oldN [kd] _ hk2 NA hfr (by repeat (first | exact List.Mem.head _ | refine List.Mem.tail _ ?_)) (nmC (by show (L + 1 : Nat) ≠ kd; k_ne) nm0)) (oldN [kd] _ hk2 NA hfr (by repeat (first | exact List.Mem.head _ | refine List.Mem.tail _ ?_)) (nmC (by show (103 : Nat) ≠ kd; k_ne) nm0)))
      simp only [List.cons_append, List.nil_append] at N7
      have off1 : ∀ p ∈ frz, p.1 ≠ fl := offOne off (by repeat (first | exact List.Mem.head _ | refine List.Mem.tail _ ?_))
      have off2 : ∀ p ∈ frz, p.1 ≠ kd := offOne off (by repeat (first | exact List.Mem.head _ | refine List.Mem.tail _ ?_))
      have off3 : ∀ p ∈ frz, p.1 ≠ L + 1 + 1 + 1 := offOne off (by repeat (first | exact List.Mem.head _ | refine List.Mem.tail _ ?_))
      have off4 : ∀ p ∈ frz, p.1 ≠ L + 1 + 1 := offOne off (by repeat (first | exact List.Mem.head _ | refine List.Mem.tail _ ?_))
      have off5 : ∀ p ∈ frz, p.1 ≠ L + 1 := offOne off (by repeat (first | exact List.Mem.head _ | refine List.Mem.tail _ ?_))
      have off6 : ∀ p ∈ frz, p.1 ≠ 103 := offOne off (by repeat (first | exact List.Mem.head _ | refine List.Mem.tail _ ?_))
      refine k1 _ (fun tk => ?_) _
      clear k1 k2 Q1 NA FA
      refine stmtH fun Q1 k1 k2 => ?_
      k_steps
      refine k1 _ (fun tk => ?_) _
      clear k1 k2 Q1
      rename News _ _ _ _ => ND
      rename Fr _ _ _ _ => FD
      rename_i f ec eo c' ct dc hz1 tkz ps' hst lec lf hD oan dan
      obtain ⟨lf1, lf2, lf3, lf4, lf5, lf6, lf7⟩ := lf
      have nf := ND _ (.head _)
      have nec := ND (ec, eo) (by k_mem)
      have nfl := ND (fl, _) (by k_mem)
      have nkd' := ND (kd, _) (by k_mem)
      have nkn := ND (L + 1 + 1 + 1, _) (by k_mem)
      have nfd := ND (L + 1 + 1, _) (by k_mem)
      have nan := ND (L + 1, _) (by k_mem)
      have hidS : Sub g (hideAll hD [L, fl, f, kd, L + 1 + 1 + 1, L + 1 + 1, L + 1]) := subHide FD.keep (fa7 (gL_none FD) nfl.2.2 nf.2.2 nkd'.2.2 nkn.2.2 nfd.2.2 nan.2.2)
      obtain ⟨gA, hgA⟩ : ∃ gA, gA = hideAll hD [L, fl, f, kd, L + 1 + 1 + 1, L + 1 + 1, L + 1] := ⟨_, rfl⟩
      rw [← hgA] at hidS
      have XA := X'.keeps hidS
      have TA := T'.keeps hidS
      have gAn : ∀ b ∈ [L, fl, f, kd, L + 1 + 1 + 1, L + 1 + 1, L + 1], gA.get? b = none := fun b hb => by rw [hgA]; exact hideAll_none _ hb
      have hrecA : ∀ h'' : Heap, Sub gA h'' → h''.CodeRec (.ref c') qualA := fun h'' hs'' => by
        obtain ⟨c₂, oc, vs₂, t₂, e, hoc, hdd, hvv⟩ := (hst hD FD.keep nec.1).1
        obtain ⟨oL, _, _, hoL, hdL, _⟩ := FD.ns
        have hdk : isF ko.data = false := by obtain ⟨_, _, _, hd1, _⟩ := c3; rw [hd1]; rfl
        have hne : c₂ ∉ [L, fl, f, kd, L + 1 + 1 + 1, L + 1 + 1, L + 1] := nmC (neObj hoc hdd hoL (by rw [hdL]; rfl)) (nmC (neObj hoc hdd nfl.1 rfl) (nmC (neObj hoc hdd nf.1 rfl) (nmC (neObj hoc hdd nkd'.1 hdk) (nmC (neObj hoc hdd nkn.1 (by rw [dkn]; rfl)) (nmC (neObj hoc hdd nfd.1 (by rw [dfd]; rfl)) (nmC (neObj hoc hdd nan.1 (by rw [dan]; rfl)) nm0))))))
        exact ⟨c₂, oc, vs₂, t₂, e, hs'' _ _ (by rw [hgA]; exact hideAll_get _ hoc hne), hdd, by with_unfolding_all exact hvv⟩
      have hKA := c4.up hidS
      refine askFrom nf.1 (w := w) (gA := gA) (fl := fl) (rest := [(kd, ko), (L + 1 + 1 + 1, okn), (L + 1 + 1, ofd), (L + 1, oan)]) (tab := rowTab rows) (known := (List.range 5).map chr) ?step ?cont
      case step =>
        intro n ih s' dp' un' fr' gd' R' x t vs' found nn hS hown hfl' hfound hu hul hd' hun' ret'
        have hall := hallCons hfl' hown
        have gOwn := bindOwn hall (P := fun p => gA.get? p.1 = none) (by refine fa6 ?_ ?_ ?_ ?_ ?_ ?_ <;> exact gAn _ (by repeat (first | exact List.Mem.head _ | refine List.Mem.tail _ ?_)))
        refine enterN (binds := [(Str.ofString "name", Value.str x t)]) XA TA hS (fun p hp => ⟨hall p hp, ?kn⟩) (hown _ (.head _)) (by with_unfolding_all exact hrecA s'.heap hS) ?kr (BindsTo.of_eq (by with_unfolding_all rfl)) (locs rfl) ?kb (by decide) rfl rfl rfl
        case kn => exact gOwn p hp
        case kr => show dp' < recursionLimit; simp only [recursionLimit]; lia
        case kb =>
          intro g₂ L₂ h₁ F₂ N₂ X₂ T₂ hlt₂ lift₂ hsg₂ hLs₂
          (revert L₂; intro (L₂ : Nat); set_option tactic.hygienic false in intros)
          have hK₂ := hKA.up hsg₂
          clear X' T' hkb kback infrz off ND FD hst
          have nOwn := fun p hp => (N₂ p (List.Mem.tail _ hp)).2
          have nFl := (N₂ _ (List.Mem.head _)).2
          have nefl := bindOwn hown (P := fun p => p.1 ≠ fl) (by refine fa5 ?_ ?_ ?_ ?_ ?_ <;> k_ne)
          have keep2 : ∀ frz : List (Addr × Obj), Keeps gA g₂ L₂ frz := fun frz h' m' news' F' _ _ b o e => F'.keep b o (hsg₂ b o e)
          rcases hK₂ x with ⟨hx0, hvB⟩ | ⟨i, r, pr, pws, hi, rfl, hri, hvB, hpr, hpw⟩
          · have hvB' : (valueAt kvs x).isSome = false := by rw [hvB]; rfl
            have htx : rowTab rows x = none := rowTab_none (by rw [hrl]; intro i hi; exact hx0 i (by rw [List.size_toArray, hrows.1, hrl]; exact hi))
            k_steps
            rename News _ _ _ _ => N8
            rename Fr _ _ _ _ => F8
            obtain ⟨kb, hfl8⟩ := ownFin lift₂ hall F8 N8 (by k_mem) (by refine fa5 ?_ ?_ ?_ ?_ ?_ <;> k_mem)
            exact ret' found vs' nn _ _ kb hfl8 hfound (.skip (.inl htx) (.nil _)) (Nat.le_refl _) hul
          · have hvB' : (valueAt kvs (chr i)).isSome = true := by rw [hvB]; rfl
            have hi5 : i < 5 := by rw [List.size_toArray, hrows.1, hrl] at hi; exact hi
            have htx := rowTab_some hri
            by_cases hxf : chr i ∈ found
            · have hvM : (!decide (chr i ∈ found)) = false := by simp [hxf]
              k_steps
              all_goals try exact (none : Option Value)
              rename News _ _ _ _ => N8
              rename Fr _ _ _ _ => F8
              obtain ⟨kb, hfl8⟩ := ownFin lift₂ hall F8 N8 (by k_mem) (by refine fa5 ?_ ?_ ?_ ?_ ?_ <;> k_mem)
              exact ret' found vs' nn _ _ kb hfl8 hfound (.skip (.inr hxf) (.nil _)) (Nat.le_refl _) hul
            · have hvM : (!decide (chr i ∈ found)) = true := by simp [hxf]
              have hvl : vs'.length ≤ 100 := by have := hfound.length; lia
              k_steps
              all_goals try exact (none : Option Value)
              rename News _ _ _ _ => N8
              rename Fr _ _ _ _ => F8
              rename_i hB
              have hB5 := bindOwn hown (P := fun p => hB.get? p.1 = some p.2) (by refine fa5 ?_ ?_ ?_ ?_ ?_ <;> exact (N8 _ (by k_mem)).1)
              have hflB := (N8 (fl, _) (by k_mem)).1
              have hprB := tupSub F8.keep hpr
              have hnsB : hB.Ns L₂ (mA none (chr i) t) := nsL F8.ns [] [(Str.ofString "parent", none), (Str.ofString "name", some (Value.str (chr i) t))] [(Str.ofString "name", Value.str (chr i) t)] (by with_unfolding_all rfl) (by with_unfolding_all rfl) (by with_unfolding_all rfl) (by refine fa2 ?_ ?_ <;> with_unfolding_all rfl)
              have prlt : pr < hB.objs.size := tupLt hprB
              have L2lt : L₂ < hB.objs.size := F8.ns.lt
              have fllt : fl < hB.objs.size := ltSz hflB
              have hgpr : pr ≠ L₂ ∧ pr ≠ fl := ⟨tupNe hpr (gL_none F8), tupNe hpr nFl.2⟩
              have hun9 := unmet_lt (known := (List.range 5).map chr) (met := found) (n := chr i) (List.mem_map.mpr ⟨i, List.mem_range.mpr hi5, rfl⟩) hxf
              have ih1 := ih (n - 1) (by lia)
              refine wpAny_pyIter_tuple hprB ?_
              dsimp only
              generalize hI2 : hB.objs.size = I2
              refine ⟨I2, [I2, pr], [I2], [fl], _, _, _, OrJ2 L₂ fl i t rows r found, rfl, ItS.tupleA rfl I2 pr (by lia) pws.toArray, ?_, ?_, ?_, ?_, ?_, ?_, ?_⟩
              · rw [← hI2]
                exact ⟨⟨_, Heap.get?_push_size _ rfl, rfl, rfl⟩, hprB.push _⟩
              · intro b hb; rw [List.mem_singleton.mp hb]; first | k_mem | (simp only [List.mem_cons, List.not_mem_nil, or_false, not_or]; lia)
              · show L₂ ∉ [I2, pr]; first | k_mem | (simp only [List.mem_cons, List.not_mem_nil, or_false, not_or]; lia)
              · exact ⟨none, found ++ [chr i], vs' ++ [.str (chr i) t], _, hnsB.at' fun o e => Heap.get?_push_of_some _ e, Heap.get?_push_of_some _ hflB, hfound.append (.cons ⟨_, rfl⟩ .nil), .nil _, Nat.le_refl _, by rw [List.length_append]; show found.length + 1 + _ ≤ 20; lia⟩
              · rintro j h h' ⟨o, r9, vs9, n9, q1, q2, q3, q4, q5, q6⟩ kb
                exact ⟨o, r9, vs9, n9, q1.at' fun o e => kb _ _ (by first | k_mem | (simp; lia)) e, kb _ _ (by first | k_mem | (simp; lia)) q2, q3, q4, q5, q6⟩
              · intro j v h tk hj hvj hst hPt7 hkb
                refine turnQ fun Qc kc => ?_
                obtain ⟨o, r9, vs9, n9, q1, q2, q3, q4, q5, q6⟩ := hPt7
                have hk3 : KB (L₂ :: [fl, I2]) hB h := fun b o nb e => hkb b o (by show b ∉ L₂ :: ([fl] ++ [I2]); first | exact nb | simpa using nb) (Heap.get?_push_of_some _ e)
                have hownh := bindOwn hown (P := fun p => h.get? p.1 = some p.2) fun p hp => hk3 _ _ (by
                  have a1 := (nOwn p hp).1; have a2 := nefl p hp; have a3 : @LT.lt Nat _ p.1 hB.objs.size := ltSz (hB5 p hp)
                  simp only [List.mem_cons, List.not_mem_nil, or_false, not_or]; exact ⟨a1, a2, by lia⟩) (hB5 p hp)
                have hsub9 : Sub g₂ h := subTurn F8 (by refine fa2 ?_ ?_; exact nFl.2; exact fresh_none F8.keep (Nat.le_of_eq hI2)) hk3
                obtain ⟨nj, hnj, tj, rfl⟩ := hpw.get' (i := j) (v := v) (by simpa using hvj)
                obtain ⟨frz, F9, N9, off, infrz, kback⟩ := kmode2 q1 hsub9 F8.above ⟨q2, nFl⟩ fun p hp => ⟨hownh p hp, nOwn p hp⟩
                simp only [List.cons_append, List.nil_append] at N9
                have off_f : ∀ p ∈ frz, p.1 ≠ fl := offOne off (by repeat (first | exact List.Mem.head _ | refine List.Mem.tail _ ?_))
                have hu9 : unmet ((List.range 5).map chr) r9 ≤ n - 1 := by lia
                have keep9 := keep2 frz
                clear N8 F8 keep2
                k_steps
                all_goals try exact (none : Option Value)
                refine' use_ask ih1 ?F ?N ?S ?own ?U ?hf ?hu ?hl ?hh ?hd ?hn ?_
                (case F => k_asm)
                (case N => k_asm)
                (case S => exact Keeps.use (by assumption) (by k_asm) (by k_asm) (by intro p hp; repeat' (first | exact hp | refine List.mem_cons_of_mem _ ?_)))
                (case own => refine fa5 ?_ ?_ ?_ ?_ ?_ <;> k_mem)
                (case U => k_updF)
                (case hf => assumption)
                (case hu => assumption)
                (case hl => assumption)
                (case hh => rfl)
                (case hd => (dsimp only [Ar, Around.deeper]; lia))
                (case hn => (dsimp only [Ar, Around.deeper]; lia))
                intro r2 vs2 n2 h2 tk2 F8 N8 hr2 hgo2 hu2 hl2
                k_steps
                all_goals try exact (none : Option Value)
                refine kc _ ⟨_, _, rfl, turnKB (kback _ _ _ F8 N8 (by intro p hp; repeat' (first | exact hp | refine List.mem_cons_of_mem _ ?_))) hownh N8 (by refine fa5 ?_ ?_ ?_ ?_ ?_ <;> k_mem), _, _, _, _, nsEq F8.ns mA_step, (N8 (fl, _) (by k_mem)).1, hr2, ?_, Nat.le_trans hu2 q5, hl2⟩
                rw [takeSnoc (x := chr nj) (by rw [List.getElem?_map, hnj]; rfl)]
                exact q4.append hgo2
              · rintro h tk ⟨o, r9, vs9, n9, q1, q2, q3, q4, q5, q6⟩ hkb
                have hk3 : KB (L₂ :: [fl, I2]) hB h := fun b o nb e => hkb b o (by show b ∉ L₂ :: ([fl] ++ [I2]); first | exact nb | simpa using nb) (Heap.get?_push_of_some _ e)
                have hownh := bindOwn hown (P := fun p => h.get? p.1 = some p.2) fun p hp => hk3 _ _ (by
                  have a1 := (nOwn p hp).1; have a2 := nefl p hp; have a3 : @LT.lt Nat _ p.1 hB.objs.size := ltSz (hB5 p hp)
                  simp only [List.mem_cons, List.not_mem_nil, or_false, not_or]; exact ⟨a1, a2, by lia⟩) (hB5 p hp)
                have hsub9 : Sub g₂ h := subTurn F8 (by refine fa2 ?_ ?_; exact nFl.2; exact fresh_none F8.keep (Nat.le_of_eq hI2)) hk3
                obtain ⟨frz, F9, N9, off, infrz, kback⟩ := kmode2 q1 hsub9 F8.above ⟨q2, nFl⟩ fun p hp => ⟨hownh p hp, nOwn p hp⟩
                obtain ⟨kb, hfl9⟩ := ownFin lift₂ hall F9 N9 (.head _) (fun p hp => List.mem_cons_of_mem _ (List.mem_append_left _ hp))
                rw [List.take_of_length_le (by rw [List.length_map, List.size_toArray, hpw.length]; exact Nat.le_refl _)] at q4
                show wpAny _ _ (execs [] _) _ _ _
                refine wpAny_execs_nil ?_
                show wpAny _ _ (execs [] _) _ _ _
                refine wpAny_execs_nil ?_
                exact ret' r9 vs9 n9 _ _ kb hfl9 q3 (.take htx hxf (by rw [List.append_nil]; exact q4)) (by lia) q6
      case cont =>
        intro ask
        have ask5 := ask 5
        clear ask
        have hngT : g.IsTuple nt ws.toArray := tupKB lift hn (by intro b hb; have hb' : b ∈ [103] := hb; rw [List.mem_singleton.mp hb']; exact ⟨_, ht, by show (Value.none) ≠ .type "tuple"; decide⟩)
        have hntD := tupSub FD.keep hngT
        have hOD := bindAsk ask5 (P := fun p => hD.get? p.1 = some p.2 ∧ p.1 ≠ L ∧ g.get? p.1 = none) (by refine fa5 ?_ ?_ ?_ ?_ ?_ <;> exact ND _ (by k_mem))
        have nefl := bindAsk ask5 (P := fun p => p.1 ≠ fl) (by refine fa5 ?_ ?_ ?_ ?_ ?_ <;> k_ne)
        have n103 := ND (103, _) (by k_mem)
        have ntlt : nt < hD.objs.size := tupLt hntD
        have Llt : L < hD.objs.size := FD.ns.lt
        have fllt : fl < hD.objs.size := ltSz nfl.1
        have eclt : ec < hD.objs.size := ltSz nec.1
        have n103lt : 103 < hD.objs.size := ltSz n103.1
        have hgnt : nt ≠ L ∧ nt ≠ fl := ⟨tupNe hngT (gL_none FD), tupNe hngT nfl.2.2⟩
        have ecne : ec ≠ L ∧ ec ≠ fl := ⟨nec.2.1, by lia⟩
        refine stmtH fun Q1 k1 k2 => ?_
        have nflD := nfl
        have nfdD := nfd
        have aboveD := FD.above
        have hkeepD : Sub g hD := FD.keep
        have nsD := FD.ns
        have gLn := gL_none FD
        k_steps
        refine wpAny_pyIter_tuple hntD ?_
        dsimp only
        generalize hI3 : hD.objs.size = I3
        refine ⟨I3, [I3, nt], [I3], [fl], _, _, _, OrJ3 L fl ll nt rows names, rfl, ItS.tupleA rfl I3 nt (by lia) ws.toArray, ?_, ?_, ?_, ?_, ?_, ?_, ?_⟩
        · rw [← hI3]
          exact ⟨⟨_, Heap.get?_push_size _ rfl, rfl, rfl⟩, hntD.push _⟩
        · intro b hb; rw [List.mem_singleton.mp hb]; first | k_mem | (simp only [List.mem_cons, List.not_mem_nil, or_false, not_or]; lia)
        · show L ∉ [I3, nt]; first | k_mem | (simp only [List.mem_cons, List.not_mem_nil, or_false, not_or]; lia)
        · exact ⟨_, _, _, [], [], 0, nsD.at' fun o e => Heap.get?_push_of_some _ e, Heap.get?_push_of_some _ nflD.1, .nil, .nil _, by decide, by decide⟩
        · rintro j h h' ⟨o1, o2, o3, r9, vs9, n9, q1, q2, q3, q4, q5, q6⟩ kb
          exact ⟨o1, o2, o3, r9, vs9, n9, q1.at' fun o e => kb _ _ (by first | k_mem | (simp; lia)) e, kb _ _ (by first | k_mem | (simp; lia)) q2, q3, q4, q5, q6⟩
        · intro j v h tk hj hvj hst' hPt7 hkb
          refine turnQ fun Qc kc => ?_
          obtain ⟨o1, o2, o3, r9, vs9, n9, q1, q2, q3, q4, q5, q6⟩ := hPt7
          have hk3 : KB (L :: [fl, I3]) hD h := fun b o nb e => hkb b o (by show b ∉ L :: ([fl] ++ [I3]); first | exact nb | simpa using nb) (Heap.get?_push_of_some _ e)
          have hownh := bindAsk ask5 (P := fun p => h.get? p.1 = some p.2 ∧ p.1 ≠ L ∧ g.get? p.1 = none) fun p hp => ⟨hk3 _ _ (by
            have a1 := (hOD p hp).2.1; have a2 := nefl p hp; have a3 : @LT.lt Nat _ p.1 hD.objs.size := ltSz (hOD p hp).1
            simp only [List.mem_cons, List.not_mem_nil, or_false, not_or]; exact ⟨a1, a2, by lia⟩) (hOD p hp).1, (hOD p hp).2⟩
          have hsub9 : Sub g h := subKB hkeepD (fa3 gLn nflD.2.2 (fresh_none hkeepD (Nat.le_of_eq hI3))) hk3
          obtain ⟨xj, hxj, tj, rfl⟩ := hw.get' (i := j) (v := v) (by simpa using hvj)
          obtain ⟨frz, F9, N9, off, infrz, kback⟩ := kmode2 q1 hsub9 aboveD ⟨q2, nflD.2⟩ hownh
          simp only [List.cons_append, List.nil_append] at N9
          have off_f : ∀ p ∈ frz, p.1 ≠ fl := offOne off (by repeat (first | exact List.Mem.head _ | refine List.Mem.tail _ ?_))
          have subA : Sub gA hD := hgA ▸ hide_self
          have keep9 : Keeps gA g L frz := fun h' m' news' F' N' hm => subKB (subKB subA (fa3 (gAn L (by repeat (first | exact List.Mem.head _ | refine List.Mem.tail _ ?_))) (gAn fl (by repeat (first | exact List.Mem.head _ | refine List.Mem.tail _ ?_))) (fresh_none subA (Nat.le_of_eq hI3))) hk3) (by refine fa7 ?_ ?_ ?_ ?_ ?_ ?_ ?_ <;> exact gAn _ (by repeat (first | exact List.Mem.head _ | refine List.Mem.tail _ ?_))) (kback h' m' news' F' N' hm)
          clear ND FD
          k_steps
          all_goals try exact (none : Option Value)
          refine' use_ask ask5 ?F ?N ?S ?own ?U ?hf ?hu ?hl ?hh ?hd ?hn ?_
          (case F => k_asm)
          (case N => k_asm)
          (case S => exact Keeps.use (by assumption) (by k_asm) (by k_asm) (by intro p hp; repeat' (first | exact hp | refine List.mem_cons_of_mem _ ?_)))
          (case own => refine fa5 ?_ ?_ ?_ ?_ ?_ <;> k_mem)
          (case U => k_updF)
          (case hf => assumption)
          (case hu => assumption)
          (case hl => assumption)
          (case hh => rfl)
          (case hd => (dsimp only [Ar, Around.deeper]; lia))
          (case hn => (dsimp only [Ar, Around.deeper]; lia))
          intro r2 vs2 n2 h2 tk2 F8 N8 hr2 hgo2 hu2 hl2
          k_steps
          all_goals try exact (none : Option Value)
          refine kc _ ⟨_, _, rfl, turnKB (kback _ _ _ F8 N8 (by intro p hp; repeat' (first | exact hp | refine List.mem_cons_of_mem _ ?_))) (fun p hp => (hownh p hp).1) N8 (by refine fa5 ?_ ?_ ?_ ?_ ?_ <;> k_mem), _, _, _, _, _, _, nsEq F8.ns mO_name, (N8 (fl, _) (by k_mem)).1, hr2, ?_, Nat.le_trans hu2 q5, hl2⟩
          rw [takeSnoc hxj]
          exact q4.append hgo2
        · rintro h tk ⟨o1, o2, o3, r9, vs9, n9, q1, q2, q3, q4, q5, q6⟩ hkb
          have hk3 : KB (L :: [fl, I3]) hD h := fun b o nb e => hkb b o (by show b ∉ L :: ([fl] ++ [I3]); first | exact nb | simpa using nb) (Heap.get?_push_of_some _ e)
          have hsub9 : Sub g h := subKB hkeepD (fa3 gLn nflD.2.2 (fresh_none hkeepD (Nat.le_of_eq hI3))) hk3
          rw [List.take_of_length_le (by rw [List.size_toArray, hw.length]; exact Nat.le_refl _)] at q4
          have hfdh : h.get? (L + 1 + 1) = some ofd := hk3 _ _ (by simp only [List.mem_cons, List.not_mem_nil, or_false, not_or]; have := ltSz nfdD.1; dsimp only at this; lia) nfdD.1
          have h103 := hk3 _ _ (by simp only [List.mem_cons, List.not_mem_nil, or_false, not_or]; (try dsimp only); lia) n103.1
          have hech := hk3 _ _ (by simp only [List.mem_cons, List.not_mem_nil, or_false, not_or]; (try dsimp only); lia) nec.1
          obtain ⟨frz, F9, N9, off, infrz, kback⟩ := kmode (own := [(L + 1 + 1, ofd), (fl, lstO vs9 n9), (103, tabObj ps'), (ec, eo)]) (g := g) q1 hsub9 aboveD (by
            refine fa4 ?_ ?_ ?_ ?_
            · exact ⟨hfdh, nfdD.2⟩
            · exact ⟨q2, nflD.2⟩
            · exact ⟨h103, n103.2⟩
            · exact ⟨hech, nec.2⟩)
          simp only [List.cons_append, List.nil_append] at N9
          have hslt : s.heap.get? fl = none := fresh_of lift (by show fl ∉ [103]; simp only [List.mem_cons, List.not_mem_nil, or_false]; lia) nflD.2.2
          refine k1 _ (fun tk => ?_) _
          clear k1 k2 Q1 ND FD
          k_steps
          rename News _ _ _ _ => N8
          rename Fr _ _ _ _ => F8
          exact ret fl vs9 n9 r9 ps' _ _ (exitKB lift F8) hslt (N8 (fl, _) (by k_mem)).1 q3 q4 (by lia) (N8 (103, _) (by k_mem)).1 (hst _ F8.keep (N8 (ec, _) (by k_mem)).1).2
end Mine

end
section
open PySem PySem.Spec PySem.Calls PySem.W PyProof.Rows
set_option Elab.async false
set_option linter.unusedVariables false
set_option maxRecDepth 100000
namespace Mine
theorem kxFm : True := by
  k_with_none
  k_with "ne" => (refine neN ?_; (try dsimp only); first | with_reducible assumption | exact Ne.symm (by with_reducible assumption) | exact Nat.ne_of_lt (by with_reducible assumption) | exact Nat.ne_of_gt (by with_reducible assumption) | lia)
  k_with "mem" => first | exact nm0 | (refine nmC ?_ ?_; k_ne; k_mem) | (refine inL ?_; k_mem) | exact fa0 | (refine faC ?_ ?_; k_mem; k_mem)
  trivial
inductive OwnEnd (gB : Heap) (C : Nat) (own0 frz : List (Addr × Obj)) (G : Array GenState) (Dr : Drawn) (O : OsState) (s₃ : Shared) : Prop
  | mk (h' : Heap) (tk' : Nat) (m' : Str → Option Value) (f1 : s₃ = ⟨h', G, Dr, tk', O⟩) (f2 : Fr gB C h' m') (f3 : News gB C h' (own0 ++ frz))
def ToldYes (told : Str → Option Int) (x : Str) (gB : Heap) (C : Nat) (own0 frz : List (Addr × Obj)) (G : Array GenState) (Dr : Drawn) (O : OsState) (y : Value) (s₃ : Shared) : Prop :=
  (∃ i, told x = some i ∧ IntIs i y) ∧ OwnEnd gB C own0 frz G Dr O s₃
def ToldNo (told : Str → Option Int) (x : Str) (gB : Heap) (C : Nat) (own0 frz : List (Addr × Obj)) (G : Array GenState) (Dr : Drawn) (O : OsState) (s₃ : Shared) : Prop :=
  told x = none ∧ OwnEnd gB C own0 frz G Dr O s₃
def EltTold (w : World) (mean : ExcName → Option Value) (mg mb : Str → Option Value) (A : Around) (env : Env) (elt target : Expr) (ifs : List Expr) (scope : Scope) (cl : List (Str × Addr)) (told : Str → Option Int) (r : List Str) (own0 : List (Addr × Obj)) (G : Array GenState) (Dr : Drawn) (O : OsState) (g : Heap) : Prop :=
  ∀ (C : Nat) (h : Heap) (tk : Nat) (m₂ : Str → Option Value) (x : Str) (t : Tok) (frz : List (Addr × Obj)),
    Fr g C h m₂ → News g C h (own0 ++ frz) → x ∈ r →
    wpAny (model Pg w) A (assign target (compEnvC scope cl C env) (.str x t)) (fun _ s₂ => wpAny (model Pg w) A (forIn ifs true fun c r => if r = true then do let ok ← isTrue c (compEnvC scope cl C env) (eval c (compEnvC scope cl C env)); pure (ForInStep.yield ok) else pure (ForInStep.yield r)) (fun ok s₃ =>
      if ok = true then wpAny (model Pg w) A (eval elt (compEnvC scope cl C env)) (ToldYes told x g C own0 frz G Dr O) Nv s₃ else ToldNo told x g C own0 frz G Dr O s₃) Nv s₂) Nv ⟨h, G, Dr, tk, O⟩
theorem filt_comp {w : World} {mean : ExcName → Option Value} {mg mb : Str → Option Value} {A : Around} {env : Env} {elt : Expr} {y : Str} {py : Pos} {ifs : List Expr} {scope : Scope} {cl : List (Str × Addr)}
    {g : Heap} {L : Nat} {m : Str → Option Value} {hp : Heap} {G : Array GenState} {Dr : Drawn} {t0 : Nat} {O : OsState} {news own0 : List (Addr × Obj)} {l n : Nat} {vs : List Value} {r : List Str} {told : Str → Option Int}
    {fn : Shared → Nat → List Value → Nat → List Nat → Heap → Nat → Prop} {E : Value → Shared → Prop}
    (F : Fr g L hp m) (N : News g L hp news) (hh : A.handled = none) (hm : (l, lstO vs n) ∈ news) (hr : Are StrIs r vs) (hb : r.length ≤ 100) (hown : ∀ p ∈ own0, p ∈ news)
    (helt : EltTold w mean mg mb A env elt (.Name y py) ifs scope cl told r own0 G Dr O g)
    (fin : ∀ h2 zs (D : Nat) C av h' tk' e, Fr g L h' m → News g L h' ((D, lstO zs e) :: news) → (∀ p ∈ news, p.1 < D) → Are IntIs (r.filterMap told) zs → g.get? C = none → (∀ p ∈ (D, lstO zs e) :: news, p.1 ≠ C) → fn ⟨h2, G, Dr, t0, O⟩ D zs C av h' tk') :
    wpAny (model Pg w) A (pyIter (.ref l)) (fun it s₂ => (∃ m, s₂.heap.Ns L m) ∧ CompAt Pg w A env elt (.Name y py) ifs scope cl s₂ it (fn s₂)) E ⟨hp, G, Dr, t0, O⟩ := by
  have hl := (N _ hm).1
  have llt : l < hp.objs.size := ltSz hl
  refine wpAny_pyIter_list (s := ⟨hp, G, Dr, t0, O⟩) ⟨_, hl, rfl, n, rfl⟩ ?_
  dsimp only
  generalize hH : hp.push { cls := .type "list_iterator", dict := none, data := .fields #[Value.ref l, .int 0 0] } = h0
  have sz0 : h0.objs.size = hp.objs.size + 1 := by rw [← hH, Heap.size_push]
  have sub0 : Sub hp h0 := fun b o e => hH ▸ Heap.get?_push_of_some _ e
  have itg : h0.get? hp.objs.size = some { cls := .type "list_iterator", dict := none, data := .fields #[Value.ref l, .int 0 0] } := hH ▸ Heap.get?_push_size _ rfl
  refine ⟨⟨m, F.ns.at' fun o e => sub0 _ _ e⟩, ?_⟩
  have fresh : ∀ a, hp.objs.size ≤ a → g.get? a = none := fun a ha => fresh_none F.keep ha
  have len1 : vs.length = r.length := hr.length.symm
  refine ⟨hp.objs.size, _, _, [], _, _, _, rfl, ItS.listA hh hp.objs.size l (by lia) vs.toArray, ?_, ⟨⟨_, itg, rfl, rfl⟩, ⟨_, sub0 _ _ hl, rfl, _, rfl⟩⟩, ?_, by simp, ?_⟩
  · rw [sizeLine_eq, List.size_toArray, len1]; lia
  · intro b hb
    simp only [List.mem_cons, List.not_mem_nil, or_false] at hb
    show b < h0.objs.size
    lia
  intro D C hD hC
  replace hD : D = h0.objs.size := hD
  replace hC : C = h0.objs.size + 1 := hC
  have kdrop : ∀ {h : Heap}, KB ([] ++ [hp.objs.size]) h0 h → Sub hp h := fun {h} kb b o e => by
    have := ltSz e
    exact kb b o (by first | k_mem | (simp; lia)) (sub0 _ _ e)
  refine ⟨fun i zs _ => Are IntIs ((r.take i).filterMap told) zs, .nil, fun _ _ _ _ a _ => a, ?_, ?_⟩
  · rintro i v zs h tk m₁ hi hv hst hJ hnsC hkb
    have hsubp := kdrop hkb
    have hsubg : Sub g h := fun b o e => hsubp b o (F.keep b o e)
    have gC : g.objs.size ≤ C := by have a1 : g.objs.size ≤ L := F.above; have a2 : L < hp.objs.size := F.ns.lt; lia
    obtain ⟨x, hx, t, rfl⟩ := hr.get' (i := i) (v := v) (by simpa using hv)
    obtain ⟨frz, F2, N2, off, infrz, kback⟩ := kmode (own := own0) (g := g) hnsC hsubg gC (fun p hp' => ⟨hsubp _ _ (N p (hown p hp')).1, (by have : @LT.lt Nat _ p.1 hp.objs.size := ltSz (N p (hown p hp')).1; exact neN (by lia)), (N p (hown p hp')).2.2⟩)
    have ends : ∀ {s' : Shared}, OwnEnd g C own0 frz G Dr O s' → ∃ h' tk' m', s' = ⟨h', G, Dr, tk', O⟩ ∧ KB (C :: []) h h' ∧ h'.Ns C m' := by
      rintro s' ⟨h', tk', m', rfl, F3, N3⟩
      refine ⟨h', tk', m', rfl, kbKeep (kback h' m' _ F3 N3 (fun p hp' => List.mem_append_right _ hp')) (fun b hb => ?_), F3.ns⟩
      rcases List.mem_cons.mp hb with rfl | hb
      · exact .inl (.head _)
      · obtain ⟨p, hp', rfl⟩ := List.mem_map.mp hb
        exact .inr ⟨_, hsubp _ _ (N p (hown p hp')).1, (N3 p (List.mem_append_left _ hp')).1⟩
    have htake : r.take (i + 1) = r.take i ++ [x] := by rw [List.take_add_one, hx]; rfl
    refine wpQ (helt C h tk m₁ x t frz F2 N2 (List.mem_of_getElem? hx)) fun _ s₂ k₂ => wpQ k₂ fun ok s₃ k₃ => ?_
    cases ok with
    | true =>
      simp only [if_true] at k₃ ⊢
      refine wpQ k₃ fun yv s₄ k₄ => ?_
      obtain ⟨⟨j, hj, hjy⟩, he⟩ := k₄
      obtain ⟨h', tk', m', e, kb, hn'⟩ := ends he
      refine ⟨h', tk', m', e, kb, hn', ?_⟩
      show Are IntIs ((r.take (i + 1)).filterMap told) _
      rw [htake, List.filterMap_append]
      simp only [List.filterMap_cons, hj, List.filterMap_nil]
      exact hJ.snoc hjy
    | false =>
      simp only [Bool.false_eq_true, if_false] at k₃ ⊢
      obtain ⟨hj, he⟩ := k₃
      obtain ⟨h', tk', m', e, kb, hn'⟩ := ends he
      refine ⟨h', tk', m', e, kb, hn', ?_⟩
      show Are IntIs ((r.take (i + 1)).filterMap told) _
      rw [htake, List.filterMap_append]
      simp only [List.filterMap_cons, hj, List.filterMap_nil, List.append_nil]
      exact hJ
  · rintro zs h tk hJ hpl hkb
    have hsubp := kdrop hkb
    obtain ⟨e, hpl⟩ := hpl
    have hJ' : Are IntIs (r.filterMap told) zs := by
      have hJ : Are IntIs ((r.take vs.toArray.size).filterMap told) zs := hJ
      rw [List.take_of_length_le (by rw [List.size_toArray, len1]; exact Nat.le_refl _)] at hJ
      exact hJ
    have hDle : hp.objs.size ≤ D := by lia
    obtain ⟨F', N', l'⟩ := news_add F N hsubp hDle hpl
    refine fin _ zs D C _ h tk e F' N' l' hJ' (fresh _ (by lia)) fun p hp' => ?_
    rcases List.mem_cons.mp hp' with rfl | hp'
    · exact neN (show D ≠ C by lia)
    · have h2 : @LT.lt Nat _ p.1 hp.objs.size := ltSz (N p hp').1
      exact neN (by lia)
theorem use_order {w : World} {mean : ExcName → Option Value} {mg mb : Str → Option Value} {g : Heap} {L : Nat} {m : Str → Option Value} {s : Shared} {A : Around} {news : List (Addr × Obj)} {gN : Obj → List (Addr × Obj)}
    {ll nt n : Nat} {vs ws : List Value} {rows : List RowD} {names : List Str} {ps : Array Value} {Q : Value → Shared → Prop} {E : Value → Shared → Prop}
    (X : (hd.heap_39 w.params).In g) (T : Top Vw Lo mean mg mb g) (F : Fr g L s.heap m) (N : News g L s.heap news) (hC : CodeHd g 107 103) (U : UpdF 103 (tabObj ps) news gN) (htab : TabOk s.heap ps)
    (hll : g.get? ll = some (lstO vs n)) (hrows : RowsAt g rows vs) (hgood : ∀ r ∈ rows, r.Good) (hrl : rows.length = 5) (hn : g.IsTuple nt ws.toArray) (hw : Are StrIs names ws) (hlen : names.length ≤ 10) (hh : A.handled = none) (hdp : A.depth < 500) (hun : A.units < 600)
    (h : ∀ (l : Nat) vs' n' r ps' h' tk', Fr g L h' m → News g L h' ((l, lstO vs' n') :: gN (tabObj ps')) → (∀ p ∈ news, p.1 ≠ l) → Are StrIs r vs' → Go (rowTab rows) names [] r → r.length ≤ 20 → TabOk h' ps' → Q (.ref l) { s with heap := h', toks := tk' }) :
    wpAny (model Pg w) A (call (.ref 108) [.ref ll, .ref nt]) Q E s := by
  refine wpNv ?_
  obtain ⟨hd, dp, fr, gd, un⟩ := A
  dsimp only at hh hdp hun
  subst hh
  have n1 := N _ (updF_mem U)
  refine wpAny_call (order_ok ⟨X, T⟩ F.keep hC n1.1 htab n1.2.2 (F.keep _ _ hll) (hrows.sub F.keep) hgood hrl (tupSub F.keep hn) hw hlen hdp hun ?_)
  intro l vs' n' r ps' h' tk' kb hl hl' hr hgo hrb h103 htab'
  obtain ⟨F', N'⟩ := upd_fr F N U kb h103
  have lne : ∀ p ∈ news, p.1 ≠ l := fun p hp e => by have := (N p hp).1; first | exact nS2 (e) (hl) this | (rw [e, hl] at this; cases this)
  refine h l vs' n' r ps' h' tk' F' (fun p hp => ?_) lne hr hgo hrb htab'
  rcases List.mem_cons.mp hp with rfl | hp
  · refine ⟨hl', fun e => ?_, ?_⟩
    · obtain ⟨o, _, _, ho, _⟩ := F.ns
      have e : l = L := e
      first | exact nS2 (e) (ho) hl | (rw [e, ho] at hl; cases hl)
    · cases q : g.get? l with
      | none => rfl
      | some o => have := F.keep _ _ q; first | exact nS (hl) this | (rw [hl] at this; cases this)
  · exact N' p hp

theorem TabOk.sub {g h : Heap} {ps : Array Value} (x : TabOk g ps) (s : Sub g h) : TabOk h ps := x.keep fun c' oc vs _ e _ => s _ _ e
theorem TabOk.hide {h : Heap} {ps : Array Value} {I : Nat} (x : TabOk h ps) (hI : ∀ (o : Obj) (vs : Array Value) (z : Str) (t : Tok), h.get? I = some o → o.data = .fields vs → vs[1]? ≠ some (.str z t)) : TabOk (hideAll h [I]) ps := by
  rcases x with x | ⟨c', oc, vs, t, a, b, c, d⟩
  · exact .inl x
  · exact .inr ⟨c', oc, vs, t, a, hideAll_get _ b (fun q => by
      have q : c' = I := List.mem_singleton.mp q
      subst q
      exact hI _ _ _ _ b c d), c, d⟩
section
variable {prog : Program} {w : World} {A : Around} {E : Value → Shared → Prop} {s : Shared} {g : Heap} {L : Nat} {m : Str → Option Value} {news : List (Addr × Obj)}
theorem seqIx {p n : Nat} (h : p < n) : seqIndex? (p : Int) n = some p := by
  have h1 : ¬ ((p : Int) < 0) := Int.not_lt.mpr (Int.natCast_nonneg p)
  unfold seqIndex?
  dsimp only
  rw [if_neg h1, if_pos (by rw [Bool.and_eq_true]; exact ⟨decide_eq_true (Int.natCast_nonneg p), decide_eq_true (Int.ofNat_lt.mpr h)⟩), Int.toNat_natCast]
theorem itemTG {value slice : Expr} {a p : Nat} {vs : List Value} {x : Value} {u : Tok} {Q : Value → Shared → Prop} (F : Fr g L s.heap m) (hT : g.IsTuple a vs.toArray) (hx : vs[p]? = some x) (h : Q x s)
    (hs : subscripted slice false (.ref a) (.int (p : Int) u) = operate [.ref a, .int (p : Int) u] (getItem (.ref a) (.int (p : Int) u))) (hg : ∀ r, letTemporaryGo value (.ref a) r = pure ()) (hb : vs.length ≤ 1000) :
    wpAny (model prog w) A (subscriptTail value slice (.ref a) (.int (p : Int) u)) Q E s := by
  have hp : p < vs.length := by
    rcases Nat.lt_or_ge p vs.length with q | q
    · exact q
    · first | exact nS (List.getElem?_eq_none q) hx | (rw [List.getElem?_eq_none q] at hx; cases hx)
  refine item_tuple (j := p) (tupSub F.keep hT) (by lia) (by lia) ?_ (by simpa using hx) h hs hg
  have e : vs.toArray.size = vs.length := List.size_toArray
  rw [e]
  exact seqIx hp
theorem itemL0 {value slice : Expr} {a n : Nat} {vs : List Value} {x : Value} {u : Tok} {Q : Value → Shared → Prop} (N : News g L s.heap news) (hm : (a, lstO vs n) ∈ news) (hx : vs[0]? = some x) (h : Q x s)
    (hs : subscripted slice false (.ref a) (.int 0 u) = operate [.ref a, .int 0 u] (getItem (.ref a) (.int 0 u))) (hg : ∀ r, letTemporaryGo value (.ref a) r = pure ()) :
    wpAny (model prog w) A (subscriptTail value slice (.ref a) (.int 0 u)) Q E s :=
  item_listL (l := vs) ⟨_, (N _ hm).1, rfl, n, rfl⟩ (Int.le_refl _) (by decide) hx h hs hg
end

def NoStr (o : Obj) : Prop := ∀ (vs : Array Value) (z : Str) (t : Tok), o.data = .fields vs → vs[1]? ≠ some (.str z t)
theorem TabOk.noStr {h : Heap} {ps : Array Value} (x : TabOk h ps) : NoStr (tabObj ps) := by
  intro vs z t e hv
  injection e with e
  subst e
  rcases x with rfl | ⟨c', oc, vs2, t2, rfl, _⟩
  · simp at hv
  · simp [rawInt] at hv
theorem TabOk.kb {av : List Nat} {h h' : Heap} {ps : Array Value} (x : TabOk h ps) (k : KB av h h') (hn : ∀ b ∈ av, ∀ o, h.get? b = some o → NoStr o) : TabOk h' ps := by
  rcases x with x | ⟨c', oc, vs, t, a, b, c, d⟩
  · exact .inl x
  · exact .inr ⟨c', oc, vs, t, a, k _ _ (fun q => hn _ q _ b _ _ _ c d) b, c, d⟩
theorem noStr_ns {h : Heap} {L : Nat} {m : Str → Option Value} (n : h.Ns L m) : ∀ o, h.get? L = some o → NoStr o := by
  obtain ⟨o, _, _, ho, hd, _⟩ := n
  intro o' e vs z t e2
  first | exact nS (ho) e | (rw [ho] at e; cases e); first | exact nS (hd) e2 | (rw [hd] at e2; cases e2)
theorem noStr_of {h : Heap} {a : Nat} {o : Obj} (ho : h.get? a = some o) (hn : NoStr o) : ∀ o', h.get? a = some o' → NoStr o' := fun o' e => by first | exact nS (ho) e | (rw [ho] at e; cases e); exact hn
theorem noStr_list {vs : List Value} {n : Nat} : NoStr (lstO vs n) := fun _ _ _ e => by cases e
theorem noStr_cell {o : Obj} {q : Option Value} (h : o.data = .cell q) : NoStr o := fun _ _ _ e => by first | exact nS (h) e | (rw [h] at e; cases e)
theorem noStr_dict {w : World} {o : Obj} {kvs : List (Str × Value)} (h : o.IsDictOf (strKind Pg w) kvs) : NoStr o := fun _ _ _ e => by
  obtain ⟨_, _, _, hd, _⟩ := h
  first | exact nS (hd) e | (rw [hd] at e; cases e)
end Mine

end
section
open PySem PySem.Spec PySem.Calls PySem.W PyProof.Rows
set_option Elab.async false
set_option linter.unusedVariables false
set_option maxRecDepth 100000
namespace Mine
theorem kxLk : True := by
  k_with_none
  k_with "ne" => (refine neN ?_; (try dsimp only); first | with_reducible assumption | exact Ne.symm (by with_reducible assumption) | exact Nat.ne_of_lt (by with_reducible assumption) | exact Nat.ne_of_gt (by with_reducible assumption) | lia)
  k_with "mem" => first | exact nm0 | (refine nmC ?_ ?_; k_ne; k_mem) | (refine inL ?_; k_mem) | exact fa0 | (refine faC ?_ ?_; k_mem; k_mem)
  trivial
/-- the dict of what is told, to k rows -/
inductive TellAt (h : Heap) (rows : List RowD) (kvs : List (Str × Value)) (k : Nat) (x : Str) : Prop
  | no (a : ∀ i < k, x ≠ chr i) (b : valueAt kvs x = none)
  | yes (i : Nat) (r : RowD) (pr : Nat) (ws : List Value) (a : i < k) (b : x = chr i) (c : rows[i]? = some r) (d : valueAt kvs x = some (.ref pr)) (e : h.IsTuple pr ws.toArray) (f : Are PartIs r.parts ws)
def TellX (h : Heap) (rows : List RowD) (kvs : List (Str × Value)) (k : Nat) : Prop := ∀ x, TellAt h rows kvs k x
theorem TellX.up {g h : Heap} {rows kvs k} (s : Sub g h) (x : TellX g rows kvs k) : TellX h rows kvs k := fun y => by
  rcases x y with ⟨a, b⟩ | ⟨i, r, pr, ws, a, b, c, d, e, f⟩
  · exact .no a b
  · exact .yes i r pr ws a b c d (tupSub s e) f
theorem TellX.nil {h : Heap} {rows} : TellX h rows [] 0 := fun x => .no (fun i hi => absurd hi (Nat.not_lt_zero _)) rfl
theorem TellX.snoc {h : Heap} {rows kvs} {k : Nat} {r : RowD} {pr : Nat} {ws : List Value} (x : TellX h rows kvs k) (hr : rows[k]? = some r) (hp : h.IsTuple pr ws.toArray) (hw : Are PartIs r.parts ws) : TellX h rows (stored kvs (chr k) (.ref pr)) (k + 1) := fun y => by
  by_cases hy : y = chr k
  · subst hy; exact .yes k r pr ws (Nat.lt_succ_self _) rfl hr (by rw [valueAt_stored, if_pos rfl]) hp hw
  · have e9 : valueAt (stored kvs (chr k) (.ref pr)) y = valueAt kvs y := by rw [valueAt_stored, if_neg hy]
    rcases x y with ⟨a, b⟩ | ⟨i, r, pr, ws, a, b, c, d, e, f⟩
    · exact .no (fun i hi => by
        rcases Nat.lt_or_ge i k with q | q
        · exact a i q
        · have : i = k := by lia
          rw [this]; exact hy) (e9.trans b)
    · exact .yes i r pr ws (Nat.lt_succ_of_lt a) b c (e9.trans d) e f
/-- what the rows tell of a name -/
noncomputable def rowParts (rows : List RowD) : Str → List (Option Int) := fun x => (((List.range rows.length).find? fun i => decide (chr i = x)).bind fun i => (rows[i]?).map fun r => r.parts).getD []
theorem rowParts_some {rows : List RowD} {i : Nat} {r : RowD} (h : rows[i]? = some r) : rowParts rows (chr i) = r.parts := by
  have hi : i < rows.length := by
    rcases Nat.lt_or_ge i rows.length with q | q
    · exact q
    · rw [List.getElem?_eq_none q] at h; cases h
  unfold rowParts
  cases e : (List.range rows.length).find? fun j => decide (chr j = chr i) with
  | none =>
    have := List.find?_eq_none.mp e i (List.mem_range.mpr hi)
    simp at this
  | some j =>
    have := List.find?_some e
    have hj : j = i := chr_inj (of_decide_eq_true this)
    subst hj
    show ((rows[j]?).map _).getD _ = _
    rw [h]; rfl
theorem rowTab_inv {rows : List RowD} {x : Str} (h : (rowTab rows x).isSome = true) : ∃ i r, x = chr i ∧ rows[i]? = some r := by
  unfold rowTab at h
  cases e : (List.range rows.length).find? fun j => decide (chr j = x) with
  | none => rw [e] at h; cases h
  | some j =>
    have h0 := List.find?_some e
    have h1 : chr j = x := of_decide_eq_true h0
    have h2 := List.mem_range.mp (List.mem_of_find?_eq_some e)
    exact ⟨j, rows[j], h1.symm, List.getElem?_eq_getElem h2⟩
local macro_rules | `(tactic| k_all) => `(tactic| assumption)
theorem wLk1 : True := by
  k_with "exec For Tuple Name" => k_dflt (refine' for_rule ?_ ?hs; (case hs => intro _; with_unfolding_all rfl))
  trivial
theorem wLk2 : True := by
  k_with "exec For Name Call" => k_dflt (refine' for_rule ?_ ?hs; (case hs => intro _; with_unfolding_all rfl))
  trivial
theorem wLk3 : True := by
  k_with "unpackItems" => k_dflt (refine' unpackN ?F ?N ?hh ?hT ?hk ?_; (case hT => first | assumption | exact tupSub (Fr.keep (by k_asm)) (by assumption)); (case F => k_asm); (case N => k_asm); (case hh => rfl); (case hk => exact rfl); intro _ _ _)
  trivial
theorem wLk4 : True := by
  k_with "setItem" => k_dflt (refine' sset_str ?F ?N ?U ?hd ?hz ?_; (case F => k_asm); (case N => k_asm); (case U => k_updF); (case hd => assumption); (case hz => lia); intro _ _ _ _ _)
  trivial
theorem wLk5 : True := by
  k_with "exec Assign cons ListComp" => k_dflt (refine' comp_assign ?hsw ?hclos ?hcell ?hkind ?hnames ?hy ?hp ?_ ?hs; (case hsw => with_unfolding_all rfl); (case hclos => with_unfolding_all rfl); (case hcell => decide); (case hkind => with_unfolding_all rfl); (case hnames => decide); (case hy => with_unfolding_all rfl); (case hp => with_unfolding_all rfl); (case hs => intro _; with_unfolding_all rfl))
  trivial
noncomputable def lookL (rows : List RowD) (r : List Str) (lastL : List Int) : List Int := (List.range 6).map fun p => (pick (rowParts rows) r p).getD (lastL.getD p 0)
theorem wLk6 : True := by
  k_with "storeName" => ((with_reducible show wpAny _ _ (storeName (compEnvC _ _ _ _) _ _) _ _ _); k_dflt (refine' storeC ?F ?N ?hC ?hx ?hk ?_; (case F => k_asm); (case N => k_asm); (case hC => with_unfolding_all rfl); (case hx => with_unfolding_all rfl); (case hk => with_unfolding_all rfl); intro _ _ _))
  trivial
theorem wLk7 : True := by
  k_with "subscriptTail" => k_dflt (refine' itemB ?ho ?hd ?hv ?_ ?hs ?hg; (case ho => exact News.get (by k_asm) (by k_mem)); (case hd => assumption); (case hv => assumption); (case hs => with_unfolding_all rfl); (case hg => intro _; with_unfolding_all rfl))
  trivial
theorem wLk8 : True := by
  k_with "subscriptTail" => k_dflt (refine' itemTG ?F ?hT ?hx ?_ ?hs ?hg ?hb; (case hT => assumption); (case hx => assumption); (case F => k_asm); (case hb => lia); (case hs => with_unfolding_all rfl); (case hg => intro _; with_unfolding_all rfl))
  trivial
theorem wLk9 : True := by
  k_with "subscriptTail" => k_dflt (refine' itemL0 ?N ?hm ?hx ?_ ?hs ?hg; (case hx => assumption); (case N => k_asm); (case hm => k_mem); (case hs => with_unfolding_all rfl); (case hg => intro _; with_unfolding_all rfl))
  trivial
theorem wLk10 : True := by
  k_with "binaryOp Add" => k_dflt (refine' addN ?F ?N ?M1 ?M2 ?hz ?_; (case F => k_asm); (case N => k_asm); (case M1 => k_mem); (case M2 => k_mem); (case hz => (simp only [List.length_reverse, List.length_cons, List.length_nil]; lia)); intro _ _ _ _ l1; (try k_lt l1); (first | (revert l1; intro _) | skip))
  trivial
noncomputable abbrev mK (o1 o2 o3 o4 o5 : Option Value) (ll nt la : Nat) : Str → Option Value := fun y => if y = Str.ofString "name" then o1 else if y = Str.ofString "part_list" then o2 else if y = Str.ofString "parents" then o3 else if y = Str.ofString "found" then o4 else if y = Str.ofString "some" then o5
  else if y = Str.ofString "lines_laid" then some (.ref ll) else if y = Str.ofString "name_list" then some (.ref nt) else if y = Str.ofString "last" then some (.ref la) else none
theorem mK_step {v1 v2 v3 : Value} {o1 o2 o3 o4 o5 : Option Value} {ll nt la : Nat} : (fun y => if y = Str.ofString "parents" then some v3 else if y = Str.ofString "part_list" then some v2 else if y = Str.ofString "name" then some v1 else mK o1 o2 o3 o4 o5 ll nt la y) = mK (some v1) (some v2) (some v3) o4 o5 ll nt la := by
  funext y
  by_cases h1 : y = Str.ofString "name"
  · subst h1; with_unfolding_all rfl
  by_cases h2 : y = Str.ofString "part_list"
  · subst h2; with_unfolding_all rfl
  by_cases h3 : y = Str.ofString "parents"
  · subst h3; with_unfolding_all rfl
  · simp only [mK, if_neg h1, if_neg h2, if_neg h3]
theorem headPick {told : Str → Option Int} {lv : Int} {tl : Tok} : ∀ {r : List Str} {zs : List Value}, Are IntIs (r.filterMap told) zs → ∃ x0, (zs ++ [Value.int lv tl])[0]? = some x0 ∧ IntIs ((r.findSome? told).getD lv) x0
  | [], zs, h => by cases h; exact ⟨_, rfl, ⟨tl, rfl⟩⟩
  | a :: r, zs, h => by
    cases ha : told a with
    | none =>
      rw [List.filterMap_cons_none ha] at h
      rw [List.findSome?_cons, ha]
      exact headPick h
    | some j =>
      rw [List.filterMap_cons_some ha] at h
      cases h with
      | cons h t => exact ⟨_, rfl, by rw [List.findSome?_cons, ha]; exact h⟩
theorem mK_some {v : Value} {o1 o2 o3 o4 o5 : Option Value} {ll nt la : Nat} : (fun z => if z = Str.ofString "some" then some v else mK o1 o2 o3 o4 o5 ll nt la z) = mK o1 o2 o3 o4 (some v) ll nt la := by
  funext y
  by_cases h1 : y = Str.ofString "some"
  · subst h1; with_unfolding_all rfl
  · simp only [mK, if_neg h1]
theorem wLk11 : True := by
  k_with "call type:tuple" => k_dflt (refine' tupleN ?F ?N ?M ?hz ?_; (case F => k_asm); (case N => k_asm); (case M => k_mem); (case hz => assumption); intro _ _ _ _ l1; (try k_lt l1); (first | (revert l1; intro _) | skip))
  trivial
inductive LkJ1 (w : World) (g : Heap) (L kd ll nt la : Nat) (rows : List RowD) (i : Nat) (h : Heap) : Prop
  | mk (o1 : Option Value) (o2 : Option Value) (o3 : Option Value) (kvs : List (Str × Value)) (ko : Obj) (f1 : h.Ns L (mK o1 o2 o3 none none ll nt la)) (f2 : h.get? kd = some ko) (f3 : ko.IsDictOf (strKind Pg w) kvs) (f4 : TellX g rows kvs i) (f5 : kvs.length ≤ i)
inductive LkJ2 (L fl ll nt la I4 : Nat) (rows : List RowD) (lastL : List Int) (names : List Str) (i : Nat) (h : Heap) : Prop
  | mk (o1 : Option Value) (o2 : Option Value) (o3 : Option Value) (o5 : Option Value) (vs9 : List Value) (n9 : Nat) (opl : Obj) (q : Option Value) (psx : Array Value) (f1 : h.Ns L (mK o1 o2 o3 (some (.ref fl)) o5 ll nt la)) (f2 : h.get? fl = some (lstO vs9 n9)) (f3 : h.get? (L + 1 + 1) = some opl) (f4 : opl.data = .cell q) (f5 : h.get? 103 = some (tabObj psx)) (f6 : TabOk (hideAll h [I4]) psx) (f7 : (∀ r, Go (rowTab rows) names [] r → Are IntIs ((lookL rows r lastL).take i) vs9)) (f8 : (1 ≤ i → ∃ r, Go (rowTab rows) names [] r))
set_option maxHeartbeats 8000000 in
theorem look_ok {w : World} {mean : ExcName → Option Value} {mg mb : Str → Option Value} {g₀ : Heap} {s : Shared} {dp un : Nat} {fr : Option (List Env)} {gd : Option (List Code)} {R : Result → Shared → Prop}
    {ll nt la n : Nat} {vs ws zs : List Value} {rows : List RowD} {names : List Str} {lastL : List Int} {ps : Array Value}
    (G : Gd w mean mg mb g₀) (hs : Sub g₀ s.heap) (hC : CodeHd g₀ 107 103) (ht : s.heap.get? 103 = some (tabObj ps)) (htab : TabOk s.heap ps) (g103 : g₀.get? 103 = none)
    (hll : s.heap.get? ll = some (lstO vs n)) (hrows : RowsAt s.heap rows vs) (hgood : ∀ r ∈ rows, r.Good) (hrl : rows.length = 5) (hn : s.heap.IsTuple nt ws.toArray) (hw : Are StrIs names ws) (hlen : names.length ≤ 10)
    (hla : s.heap.IsTuple la zs.toArray) (hz : Are IntIs lastL zs) (hz6 : lastL.length = 6) (hdp : dp < 400) (hun : un < 500)
    (ret : ∀ (T : Nat) vs' r ps' h' tk', KB [103] s.heap h' → s.heap.get? T = none → h'.IsTuple T (List.toArray vs') → Are IntIs (lookL rows r lastL) vs' → Go (rowTab rows) names [] r → h'.get? 103 = some (tabObj ps') → TabOk h' ps' → R (.ok (.ret (.ref T))) { s with heap := h', toks := tk' }) :
    codeAny (model Pg w) (Ar dp un fr gd) (.call (.ref 113) ⟨[.ref ll, .ref nt, .ref la], []⟩) R s := by
  obtain ⟨X, T⟩ := G
  have hrw : PySem.Challenge.rw_np0001_01 = PySem.Challenge.rw_np0001_01 := rfl
  revert X hrw
  k_fill
  intro X hrw
  refine enterC (binds := [(Str.ofString "lines_laid", Value.ref ll), (Str.ofString "name_list", Value.ref nt), (Str.ofString "last", Value.ref la)]) (own := [(103, tabObj ps)]) X T hs ?ko (by k_is) (by k_is) ?kr (BindsTo.of_eq (by with_unfolding_all rfl)) (by exact rfl) (by decide +kernel) ?kb rfl rfl rfl
  case ko => intro p hp; obtain rfl := List.mem_singleton.mp hp; exact ⟨ht, g103⟩
  case kr => show dp < recursionLimit; simp only [recursionLimit]; lia
  case kb =>
    intro g L h₁ tk cells F N Y X' T' hlt lift hsg
    (revert L; intro (L : Nat); set_option tactic.hygienic false in intros)
    clear X T hs hrw
    obtain ⟨oA, oB, hE, dA, dB⟩ := CellsAre.two Y
    subst hE
    clear Y
    have dA : oA.data = .cell none := by with_unfolding_all exact dA
    have dB : oB.data = .cell none := by with_unfolding_all exact dB
    have l103 : 103 < L := ltN (hlt (103, _) (.head _))
    (try simp only [List.cons_append, List.nil_append] at N)
    have hCg : CodeHd g 107 103 := hC.keeps hsg
    have n103 : ∀ b ∈ [103], ∃ o, s.heap.get? b = some o ∧ o.cls ≠ .type "tuple" := by intro b hb; rw [List.mem_singleton.mp hb]; exact ⟨_, ht, by show (Value.none) ≠ .type "tuple"; decide⟩
    have htabg : TabOk g ps := htab.up103 ht lift
    have hllG := lift _ _ (nmC (neCls hll ht (show Value.type "list" ≠ Value.none by decide)) nm0) hll
    have hrowsg := hrows.kb lift n103
    have hntg := tupKB lift hn n103
    have hlag := tupKB lift hla n103
    refine stmtH fun Q1 k1 k2 => ?_
    k_steps
    refine k1 _ (fun tk => ?_) _
    clear k1 k2 Q1
    rename_i kd hk1 ko lokd hsk fsk hik fik lkd hA okn FA NA dkn
    (revert kd; intro (kd : Nat); set_option tactic.hygienic false in intros)
    obtain ⟨a1, a2, a3⟩ := lkd
    have hllA := FA.keep _ _ hllG
    refine stmtH fun Q1 k1 k2 => ?_
    k_steps
    refine wpAny_pyIter_list ⟨_, hllA, rfl, _, rfl⟩ ?_
    dsimp only
    have hns0 : hA.Ns L (mK none none none none none ll nt la) := nsL FA.ns [(Str.ofString "last", some (Value.ref la)), (Str.ofString "name_list", some (Value.ref nt)), (Str.ofString "lines_laid", some (Value.ref ll))]
        [(Str.ofString "name", none), (Str.ofString "part_list", none), (Str.ofString "parents", none), (Str.ofString "found", none), (Str.ofString "some", none), (Str.ofString "lines_laid", some (Value.ref ll)), (Str.ofString "name_list", some (Value.ref nt)), (Str.ofString "last", some (Value.ref la))] [] (by with_unfolding_all rfl) (by with_unfolding_all rfl) (by with_unfolding_all rfl) (by refine fa8 ?_ ?_ ?_ ?_ ?_ ?_ ?_ ?_ <;> with_unfolding_all rfl)
    generalize hI : hA.objs.size = I
    have hkdA := (NA (kd, ko) (by k_mem)).1
    have llA : ll < hA.objs.size := ltSz hllA
    have kdA : kd < hA.objs.size := ltSz hkdA
    have LA : L < hA.objs.size := FA.ns.lt
    have llL : ll ≠ L := (by have := ltSz hllG; have := FA.above; lia)
    have llkd : ll ≠ kd := (by have := ltSz hllG; have h2 : g.objs.size ≤ L := FA.above; lia)
    refine ⟨I, [I, ll], [I], [kd], _, _, _, LkJ1 w g L kd ll nt la rows, rfl, ItS.listA rfl I ll (by lia) vs.toArray, ?_, ?_, ?_, ?_, ?_, ?_, ?_⟩
    · rw [← hI]
      exact ⟨⟨_, Heap.get?_push_size _ rfl, rfl, rfl⟩, ⟨_, Heap.get?_push_of_some _ hllA, rfl, _, rfl⟩⟩
    · intro b hb; rw [List.mem_singleton.mp hb]; first | k_mem | (simp only [List.mem_cons, List.not_mem_nil, or_false, not_or]; lia)
    · show L ∉ [I, ll]; first | k_mem | (simp only [List.mem_cons, List.not_mem_nil, or_false, not_or]; lia)
    · exact ⟨none, none, none, [], ko, hns0.at' fun o e => Heap.get?_push_of_some _ e, Heap.get?_push_of_some _ hkdA, hsk, TellX.nil, Nat.le_refl _⟩
    · rintro i h h' ⟨o1, o2, o3, kvs, ko, c1, c2, c3, c4, c5⟩ kb
      exact ⟨o1, o2, o3, kvs, ko, c1.at' fun o e => kb _ _ (by first | k_mem | (simp; lia)) e, kb _ _ (by first | k_mem | (simp; lia)) c2, c3, c4, c5⟩
    · intro i v h tk hi hvi hst hPt7 hkb
      refine turnQ fun Qc kc => ?_
      obtain ⟨o1, o2, o3, kvs, ko, c1, c2, c3, c4, c5⟩ := hPt7
      have hi5 : i < rows.length := by rw [← hrows.1]; simpa using hi
      obtain ⟨v', hv', a, pa, pr, tn, xs, ys, rfl, e2, e3, e4, e5, e6⟩ := hrowsg.2 i _ (List.getElem?_eq_getElem hi5)
      obtain rfl : Value.ref a = v := by rw [List.getElem?_toArray, hv'] at hvi; exact Option.some.inj hvi
      have hk2 : KB (L :: [kd, I]) hA h := fun b o nb e => hkb b o (by show b ∉ L :: ([kd] ++ [I]); first | exact nb | simpa using nb) (Heap.get?_push_of_some _ e)
      have nkd := (NA (kd, _) (by k_mem)).2
      have nkn := NA (L + 1, okn) (by k_mem)
      have hsub : Sub g h := subTurn FA (by refine fa2 ?_ ?_; exact nkd.2; exact fresh_none FA.keep (Nat.le_of_eq hI)) hk2
      have lknA : L + 1 < hA.objs.size := ltSz nkn.1
      obtain ⟨frz, F7, N7, off, infrz, kback⟩ := kmode (own := [(kd, ko), (L + 1, okn)]) (g := g) c1 hsub FA.above (by
        refine fa2 ?_ ?_
        · exact ⟨c2, nkd⟩
        · exact ⟨hk2 _ _ (by first | k_mem | (simp only [List.mem_cons, List.not_mem_nil, or_false, not_or]; lia)) nkn.1, nkn.2⟩)
      simp only [List.cons_append, List.nil_append] at N7
      have off_k : ∀ p ∈ frz, p.1 ≠ kd := offOne off (by repeat (first | exact List.Mem.head _ | refine List.Mem.tail _ ?_))
      have n7 := (N7 (L + 1, okn) (by k_mem)).1
      have hkl : kvs.length ≤ 100 := by lia
      clear NA FA
      k_steps
      rename News _ _ _ _ => N8
      rename Fr _ _ _ _ => F8
      rename Obj.IsDictOf _ _ _ => hd8
      refine kc _ ⟨_, _, rfl, kbKeep (kback _ _ _ F8 N8 (fun p hp => by repeat (first | exact hp | refine List.Mem.tail _ ?_))) (faC (.inl (.head _)) (faC (.inl (.tail _ (.head _))) (faC (.inr ⟨_, n7, (N8 (L + 1, okn) (by k_mem)).1⟩) fa0))), some (.str (chr i) tn), some (.ref pa), some (.ref pr), _, _, nsEq F8.ns mK_step, (N8 (kd, _) (by k_mem)).1, hd8, c4.snoc (List.getElem?_eq_getElem hi5) e3 e4, by have := stored_length_le kvs (chr i) (Value.ref pa); lia⟩
    · rintro h tk ⟨o1, o2, o3, kvs, ko, c1, c2, c3, c4, c5⟩ hkb
      have hk2 : KB (L :: [kd, I]) hA h := fun b o nb e => hkb b o (by show b ∉ L :: ([kd] ++ [I]); first | exact nb | simpa using nb) (Heap.get?_push_of_some _ e)
      have nkd := (NA (kd, _) (by k_mem)).2
      have hsub : Sub g h := subTurn FA (by refine fa2 ?_ ?_; exact nkd.2; exact fresh_none FA.keep (Nat.le_of_eq hI)) hk2
      have hfr : ∀ b ∈ [I], hA.objs.size ≤ b := fa1 (Nat.le_of_eq hI)
      obtain ⟨frz, F7, N7, off, infrz, kback⟩ := kmode (own := [(kd, ko), (L + 1 + 1, oA), (L + 1, okn), (103, tabObj ps)]) (g := g) c1 hsub FA.above (by
        refine fa4 ⟨c2, nkd⟩ (oldN [kd] _ hk2 NA hfr (by repeat (first | exact List.Mem.head _ | refine List.Mem.tail _ ?_)) (nmC (by show (L + 1 + 1 : Nat) ≠ kd; k_ne) nm0)) (oldN [kd] _ hk2 NA hfr (by repeat (first | exact List.Mem.head _ | refine List.Mem.tail _ ?_)) (nmC (by show (L + 1 : Nat) ≠ kd; k_ne) nm0)) (oldN [kd] _ hk2 NA hfr (by repeat (first | exact List.Mem.head _ | refine List.Mem.tail _ ?_)) (nmC (by show (103 : Nat) ≠ kd; k_ne) nm0)))
      simp only [List.cons_append, List.nil_append] at N7
      refine k1 _ (fun tk => ?_) _
      clear k1 k2 Q1 NA FA
      refine stmtH fun Q1 k1 k2 => ?_
      k_steps
      refine k1 _ (fun tk => ?_) _
      clear k1 k2 Q1
      rename_i fl hf1 lfl hB FB NB
      (revert fl; intro (fl : Nat); set_option tactic.hygienic false in intros)
      obtain ⟨b1, b2, b3, b4, b5⟩ := lfl
      have eB : hB.Ns L (mK o1 o2 o3 (some (.ref fl)) none ll nt la) := nsL FB.ns [(Str.ofString "found", some (Value.ref fl)), (Str.ofString "name", o1), (Str.ofString "part_list", o2), (Str.ofString "parents", o3), (Str.ofString "found", none), (Str.ofString "some", none), (Str.ofString "lines_laid", some (Value.ref ll)), (Str.ofString "name_list", some (Value.ref nt)), (Str.ofString "last", some (Value.ref la))]
        [(Str.ofString "name", o1), (Str.ofString "part_list", o2), (Str.ofString "parents", o3), (Str.ofString "found", some (Value.ref fl)), (Str.ofString "some", none), (Str.ofString "lines_laid", some (Value.ref ll)), (Str.ofString "name_list", some (Value.ref nt)), (Str.ofString "last", some (Value.ref la))] [] (by with_unfolding_all rfl) (by with_unfolding_all rfl) (by with_unfolding_all rfl) (by refine fa8 ?_ ?_ ?_ ?_ ?_ ?_ ?_ ?_ <;> with_unfolding_all rfl)
      have FB : Fr g L hB (mK o1 o2 o3 (some (.ref fl)) none ll nt la) := ⟨eB, FB.keep, FB.above⟩
      refine stmtH fun Q1 k1 k2 => ?_
      k_steps
      rename IsRange _ _ _ _ _ _ _ _ => hR
      rename News _ _ _ _ => NC
      rename Fr _ _ _ _ => FC
      rename_i hC tkC tr1 ur1 vr1 sBC
      dsimp only at hR sBC ⊢
      have flC := (NC (fl, _) (by k_mem))
      have kdC := (NC (kd, _) (by k_mem))
      have oAC := (NC (L + 1 + 1, _) (by k_mem))
      have okC := (NC (L + 1, _) (by k_mem))
      have n103C := (NC (103, _) (by k_mem))
      have LltC : L < hC.objs.size := FC.ns.lt
      have flltC : fl < hC.objs.size := ltSz flC.1
      have kdltC : kd < hC.objs.size := ltSz kdC.1
      have oAltC : L + 1 + 1 < hC.objs.size := ltSz oAC.1
      have aboveC := FC.above
      have keepC : Sub g hC := FC.keep
      have gLn := gL_none FC
      have nsC := FC.ns
      have h0n : hC.get? 103 = some (tabObj ps) := n103C.1
      refine wpAny_pyIter_range hR (by decide +kernel) ?_
      rw [show Builtin.Range.rangeSize 0 6 1 = 6 by decide +kernel]
      dsimp only
      generalize hI4 : hC.objs.size = I4
      have rng : ∀ (h : Heap) (i : Nat), IsRangeIter h I4 (0 + (i : Int) * 1) (((6 : Nat) : Int) - i) 1 → ∀ (o : Obj) (vs : Array Value) (z : Str) (t : Tok), h.get? I4 = some o → o.data = .fields vs → vs[1]? ≠ some (.str z t) := by
        intro h i hr o vs z t e hd hv
        rw [hr] at e; cases e; cases hd
        simp [rawInt] at hv
      refine ⟨I4, [I4], [I4], [fl, L + 1 + 1, 103], 6, _, _, LkJ2 L fl ll nt la I4 rows lastL names, rfl, ItS.of (Walks.range rfl I4 0 1 6), ?_, ?_, ?_, ?_, ?_, ?_, ?_⟩
      · show IsRangeIter _ _ _ _ _
        rw [← hI4]
        simpa using Heap.get?_push_size hC rfl
      · intro b hb; simp only [List.mem_cons, List.not_mem_nil, or_false] at hb ⊢; lia
      · show L ∉ [I4]; first | k_mem | (simp only [List.mem_cons, List.not_mem_nil, or_false, not_or]; lia)
      · refine ⟨_, _, _, _, [], _, oA, none, ps, nsC.at' fun o e => Heap.get?_push_of_some _ e, Heap.get?_push_of_some _ flC.1, Heap.get?_push_of_some _ oAC.1, dA, Heap.get?_push_of_some _ n103C.1, ?_, fun r _ => .nil, fun h => absurd h (by decide)⟩
        exact htabg.sub fun b o e => hideAll_get _ (Heap.get?_push_of_some _ (keepC _ _ e)) (fun q => by have := ltSz (keepC _ _ e); rw [List.mem_singleton.mp q] at this; lia)
      · rintro i h h' ⟨o1, o2, o3, o5, vs9, n9, opl, q, psx, q1, q2, q3, q4, q5, q6, q7, q8⟩ kb
        exact ⟨o1, o2, o3, o5, vs9, n9, opl, q, psx, q1.at' fun o e => kb _ _ (by first | k_mem | (simp; lia)) e, kb _ _ (by first | k_mem | (simp; lia)) q2, kb _ _ (by first | k_mem | (simp; lia)) q3, q4, kb _ _ (by first | k_mem | (simp; lia)) q5, q6.sub (hide_sub kb), q7, q8⟩
      · intro i v h tk hi hvi hst' hPt7 hkb
        refine turnQ fun Qc kc => ?_
        obtain ⟨o1, o2, o3, o5, vs9, n9, opl, q, psx, q1, q2, q3, q4, q5, q6, q7, q8⟩ := hPt7
        obtain ⟨tv, hv⟩ := hvi
        rw [show (0 : Int) + (i : Int) * 1 = (i : Int) by lia] at hv
        subst hv
        have hk3 : KB (L :: [fl, L + 1 + 1, 103, I4]) hC h := fun b o nb e => hkb b o (by show b ∉ L :: ([fl, L + 1 + 1, 103] ++ [I4]); first | exact nb | simpa using nb) (Heap.get?_push_of_some _ e)
        have hsub9 : Sub g h := subKB keepC (fa5 gLn flC.2.2 oAC.2.2 n103C.2.2 (fresh_none keepC (Nat.le_of_eq hI4))) hk3
        have kdh : h.get? kd = some ko := hk3 _ _ (by first | k_mem | (simp only [List.mem_cons, List.not_mem_nil, or_false, not_or]; lia)) kdC.1
        have okh : h.get? (L + 1) = some okn := hk3 _ _ (by simp only [List.mem_cons, List.not_mem_nil, or_false, not_or]; have := ltSz okC.1; dsimp only at this; lia) okC.1
        have htabh : TabOk h psx := q6.sub hide_self
        obtain ⟨frz, F9, N9, off, infrz, kback⟩ := kmode (own := [(fl, lstO vs9 n9), (kd, ko), (L + 1 + 1, opl), (L + 1, okn), (103, tabObj psx)]) (g := g) q1 hsub9 aboveC (by
          refine fa5 ?_ ?_ ?_ ?_ ?_
          · exact ⟨q2, flC.2⟩
          · exact ⟨kdh, kdC.2⟩
          · exact ⟨q3, oAC.2⟩
          · exact ⟨okh, okC.2⟩
          · exact ⟨q5, n103C.2⟩)
        simp only [List.cons_append, List.nil_append] at N9
        have off_f : ∀ p ∈ frz, p.1 ≠ fl := offOne off (by repeat (first | exact List.Mem.head _ | refine List.Mem.tail _ ?_))
        have off_p : ∀ p ∈ frz, p.1 ≠ L + 1 + 1 := offOne off (by repeat (first | exact List.Mem.head _ | refine List.Mem.tail _ ?_))
        have off_t : ∀ p ∈ frz, p.1 ≠ 103 := offOne off (by repeat (first | exact List.Mem.head _ | refine List.Mem.tail _ ?_))
        clear NC FC hR
        k_steps
        rename News _ _ _ _ => ND
        rename Fr _ _ _ _ => FD
        rename_i hD opl' dpl'
        have htabD : TabOk hD psx := htabh.kb (kback _ _ _ FD ND (fun p hp => by repeat (first | exact hp | refine List.Mem.tail _ ?_))) (by
          refine fa6 ?_ ?_ ?_ ?_ ?_ ?_
          · exact noStr_ns q1
          · exact noStr_of q2 noStr_list
          · exact noStr_of kdh (noStr_dict c3)
          · exact noStr_of q3 (noStr_cell q4)
          · exact noStr_of okh (noStr_cell dkn)
          · exact noStr_of q5 htabh.noStr)
        refine use_order X' T' FD ND hCg (by k_updF) htabD hllG hrowsg hgood hrl hntg hw hlen rfl (by dsimp only [Ar, Around.deeper]; lia) (by dsimp only [Ar, Around.deeper]; lia) ?_
        intro l vsr nr r ps' hE tkE FE0 NE0 lne hr hgo hrb htabE
        have l1 : @Ne Nat (fl) l := lne (fl, _) (by k_mem)
        have l2 : @Ne Nat (kd) l := lne (kd, _) (by k_mem)
        have l3 : @Ne Nat (L + 1 + 1) l := lne (L + 1 + 1, _) (by k_mem)
        have l4 : @Ne Nat (L + 1) l := lne (L + 1, _) (by k_mem)
        have l5 : @Ne Nat (103) l := lne (103, _) (by k_mem)
        have hi6 : i < 6 := hi
        have kbDE : KB [L, fl, L + 1 + 1, 103] h hE := kbKeep (kback _ _ _ FE0 NE0 (fun p hp => by repeat (first | exact hp | refine List.Mem.tail _ ?_))) (fa6 (.inl (.head _)) (.inl (.tail _ (.head _))) (.inr ⟨_, kdh, (NE0 (_, ko) (by k_mem)).1⟩) (.inl (.tail _ (.tail _ (.head _)))) (.inr ⟨_, okh, (NE0 (_, okn) (by k_mem)).1⟩) (.inl (.tail _ (.tail _ (.tail _ (.head _))))))
        have eL := (NE0 (l, _) (by k_mem)).1
        have eF := (NE0 (fl, _) (by k_mem)).1
        have eK := (NE0 (kd, _) (by k_mem)).1
        have eP := (NE0 (L + 1 + 1, _) (by k_mem)).1
        have eO := (NE0 (L + 1, _) (by k_mem)).1
        have eT := (NE0 (103, _) (by k_mem)).1
        have eNs := FE0.ns
        obtain ⟨frz2, FE, NE, off2, infrz2, kback2⟩ := kmode (own := [(l, lstO vsr nr), (fl, lstO vs9 n9), (kd, ko), (L + 1 + 1, opl'), (L + 1, okn), (103, tabObj ps')]) (g := g) FE0.ns FE0.keep FE0.above (by
          refine fa6 ?_ ?_ ?_ ?_ ?_ ?_ <;> exact NE0 _ (by repeat (first | exact List.Mem.head _ | refine List.Mem.tail _ ?_)))
        simp only [List.cons_append, List.nil_append] at NE
        have off2_f : ∀ p ∈ frz2, p.1 ≠ fl := offOne off2 (by repeat (first | exact List.Mem.head _ | refine List.Mem.tail _ ?_))
        refine filt_comp (w := w) (mean := mean) (mg := mg) (mb := mb) (own0 := [(kd, ko), (L + 1 + 1, opl'), (L + 1, okn)]) (told := fun x => ((rowParts rows x)[i]?).join) FE NE rfl (.head _) hr (by lia) (by
          refine fa3 ?_ ?_ ?_ <;> k_mem) ?helt ?fin
        case helt =>
          intro C hh tkk m₂ x t frz' FB NB hx
          simp only [List.cons_append, List.nil_append] at NB
          have hxk : (rowTab rows x).isSome = true := by
            rcases hgo.known x hx with q | q
            · cases q
            · exact q
          obtain ⟨i', rr, rfl, hri⟩ := rowTab_inv hxk
          have hi5' : i' < rows.length := by
            rcases Nat.lt_or_ge i' rows.length with q | q
            · exact q
            · rw [List.getElem?_eq_none q] at hri; cases hri
          rcases c4 (chr i') with ⟨hn0, _⟩ | ⟨i2, r2, pa2, pws2, hi2, hc2, hr2, hvB, hpa2, hpp2⟩
          · exact absurd rfl (hn0 i' (by rw [List.size_toArray, hrows.1]; exact hi5'))
          have := chr_inj hc2
          subst this
          rw [hri] at hr2
          cases hr2
          have hPx := rowParts_some hri
          have hg6 := (hgood rr (List.mem_of_getElem? hri)).1
          have hpl : pws2.length = 6 := by rw [← hpp2.length, hg6]
          obtain ⟨v2, hv2, hvP⟩ := hpp2.get (i := i) (a := rr.parts[i]'(by lia)) (List.getElem?_eq_getElem (by lia))
          have hpb : pws2.length ≤ 1000 := by lia
          clear FE NE kc kback infrz off
          cases hpt : rr.parts[i]'(by lia) with
          | none =>
            rw [hpt] at hvP
            obtain rfl : v2 = .none := hvP
            walk1
            walk1
            refine wpAny_tests_one ?_
            walk1
            walk1
            walk1
            walk1
            walk1
            all_goals try first | exact (none : Option Value) | exact Str.ofString "" | exact Value.none | exact ([] : List (Str × Addr)) | exact (0 : Nat)
            refine' itemB ?ho ?hd ?hv ?_ ?hs ?hg
            (case ho => exact News.get (by k_asm) (by k_mem))
            (case hd => assumption)
            (case hv => assumption)
            (case hs => with_unfolding_all rfl)
            (case hg => intro _; with_unfolding_all rfl)
            walk1
            all_goals try first | exact (none : Option Value) | exact Str.ofString "" | exact Value.none | exact ([] : List (Str × Addr)) | exact (0 : Nat)
            refine' kba_turn (value' := PySem.Expr.Name (PySem.Str.ofString "_") ⟨0, 0, 0, 0⟩) (fun _ => rfl) ?_
            refine' itemTG ?F ?hT ?hx ?_ ?hs ?hg ?hb
            (case hT => assumption)
            (case hx => assumption)
            (case F => k_asm)
            (case hb => lia)
            (case hs => with_unfolding_all rfl)
            (case hg => intro _; with_unfolding_all rfl)
            walk1
            walk1
            walk1
            rw [if_neg Bool.false_ne_true]
            rename News _ _ _ _ => N8
            rename Fr _ _ _ _ => F8
            refine ⟨?_, ⟨_, _, _, rfl, F8, N8⟩⟩
            show ((rowParts rows (chr i'))[i]?).join = none
            rw [hPx, List.getElem?_eq_getElem (by lia), hpt]; rfl
          | some j =>
            rw [hpt] at hvP
            obtain ⟨tj, rfl⟩ := hvP
            walk1
            walk1
            refine wpAny_tests_one ?_
            walk1
            walk1
            walk1
            walk1
            walk1
            all_goals try first | exact (none : Option Value) | exact Str.ofString "" | exact Value.none | exact ([] : List (Str × Addr)) | exact (0 : Nat)
            refine' itemB ?ho ?hd ?hv ?_ ?hs ?hg
            (case ho => exact News.get (by k_asm) (by k_mem))
            (case hd => assumption)
            (case hv => assumption)
            (case hs => with_unfolding_all rfl)
            (case hg => intro _; with_unfolding_all rfl)
            walk1
            all_goals try first | exact (none : Option Value) | exact Str.ofString "" | exact Value.none | exact ([] : List (Str × Addr)) | exact (0 : Nat)
            refine' kba_turn (value' := PySem.Expr.Name (PySem.Str.ofString "_") ⟨0, 0, 0, 0⟩) (fun _ => rfl) ?_
            refine' itemTG ?F ?hT ?hx ?_ ?hs ?hg ?hb
            (case hT => assumption)
            (case hx => assumption)
            (case F => k_asm)
            (case hb => lia)
            (case hs => with_unfolding_all rfl)
            (case hg => intro _; with_unfolding_all rfl)
            walk1
            walk1
            walk1
            rw [if_pos rfl]
            walk1
            walk1
            walk1
            walk1
            all_goals try first | exact (none : Option Value) | exact Str.ofString "" | exact Value.none | exact ([] : List (Str × Addr)) | exact (0 : Nat)
            refine' itemB ?ho ?hd ?hv ?_ ?hs ?hg
            (case ho => exact News.get (by k_asm) (by k_mem))
            (case hd => assumption)
            (case hv => assumption)
            (case hs => with_unfolding_all rfl)
            (case hg => intro _; with_unfolding_all rfl)
            walk1
            all_goals try first | exact (none : Option Value) | exact Str.ofString "" | exact Value.none | exact ([] : List (Str × Addr)) | exact (0 : Nat)
            refine' kba_turn (value' := PySem.Expr.Name (PySem.Str.ofString "_") ⟨0, 0, 0, 0⟩) (fun _ => rfl) ?_
            refine' itemTG ?F ?hT ?hx ?_ ?hs ?hg ?hb
            (case hT => assumption)
            (case hx => assumption)
            (case F => k_asm)
            (case hb => lia)
            (case hs => with_unfolding_all rfl)
            (case hg => intro _; with_unfolding_all rfl)
            rename News _ _ _ _ => N8
            rename Fr _ _ _ _ => F8
            refine ⟨⟨j, ?_, ⟨_, rfl⟩⟩, ⟨_, _, _, rfl, F8, N8⟩⟩
            show ((rowParts rows (chr i'))[i]?).join = some j
            rw [hPx, List.getElem?_eq_getElem (by lia), hpt]; rfl
        case fin =>
          intro h2 zs6 D C av h' tk' e FN NN lD hzs gC nC
          refine ⟨_, FN.ns, fun h'' tk'' hn2 hk2 => ?_⟩
          obtain ⟨F6, N6⟩ := aftC FN NN gC nC hn2 hk2
          have wD : fl < D := ltN (lD (fl, _) (by k_mem))
          have kD : kd < D := ltN (lD (kd, _) (by k_mem))
          have lDD : l < D := ltN (lD (l, _) (by k_mem))
          have pD : L + 1 + 1 < D := ltN (lD (L + 1 + 1, _) (by k_mem))
          have tD : L + 1 < D := ltN (lD (L + 1, _) (by k_mem))
          have cD : 103 < D := ltN (lD (103, _) (by k_mem))
          have off2_D : ∀ p ∈ frz2, p.1 ≠ D := fun p hp => Nat.ne_of_lt (lD p (by repeat (first | exact hp | exact List.mem_append_left _ hp | exact List.mem_append_right _ hp | refine List.Mem.tail _ ?_)))
          obtain ⟨vl, hvl, tl, rfl⟩ := hz.get (i := i) (a := lastL[i]'(by lia)) (List.getElem?_eq_getElem (by lia))
          have hzb : zs.length ≤ 1000 := by rw [← hz.length]; lia
          obtain ⟨x0, hx0, x0t, rfl⟩ := headPick (lv := lastL[i]'(by lia)) (tl := tl) hzs
          have hz6l : zs6.length ≤ 20 := by rw [← hzs.length]; exact Nat.le_trans (List.length_filterMap_le _ _) hrb
          have hv9l : vs9.length ≤ 100 := by have := (q7 r hgo).length; rw [← this, List.length_take]; lia
          clear FN NN FE NE NE0 FE0 ND FD hn2 hk2 lD nC
          iterate 12 (first | walk1 | (dsimp only; walk1) | leave1)
          walk1
          walk1
          walk1
          all_goals try first | exact (none : Option Value) | exact Str.ofString "" | exact Value.none | exact ([] : List (Str × Addr)) | exact (0 : Nat)
          refine' itemTG ?F ?hT ?hx ?_ ?hs ?hg ?hb
          (case hT => assumption)
          (case hx => assumption)
          (case F => k_asm)
          (case hb => lia)
          (case hs => with_unfolding_all rfl)
          (case hg => intro _; with_unfolding_all rfl)
          walk1
          walk1
          refine' addN ?F ?N ?M1 ?M2 ?hz ?_
          (case F => k_asm)
          (case N => k_asm)
          (case M1 => k_mem)
          (case M2 => k_mem)
          (case hz => (simp only [List.length_cons, List.length_nil]; lia))
          intro D' h' F' N' l1
          k_lt l1
          walk1
          refine' kba_turn (value' := PySem.Expr.Name (PySem.Str.ofString "_") ⟨0, 0, 0, 0⟩) (fun _ => rfl) ?_
          refine' itemL0 ?N ?hm ?hx ?_ ?hs ?hg
          (case hx => assumption)
          (case N => k_asm)
          (case hm => k_mem)
          (case hs => with_unfolding_all rfl)
          (case hg => intro _; with_unfolding_all rfl)
          walk1
          refine' appendN ?F ?N ?U ?hz ?_
          (case F => k_asm)
          (case N => k_asm)
          (case U => k_updF)
          (case hz => exact Nat.le_trans hv9l (by decide))
          intro hF nF FF NF
          refine wpAny_execs_nil ?_
          have kbEF : KB [L, fl] hE hF := kbKeep (kback2 _ _ _ FF NF (fun p hp => by repeat (first | exact hp | refine List.Mem.tail _ ?_))) (fa7 (.inl (.head _)) (.inr ⟨_, eL, (NF (_, lstO vsr nr) (by k_mem)).1⟩) (.inl (.tail _ (.head _))) (.inr ⟨_, eK, (NF (_, ko) (by k_mem)).1⟩) (.inr ⟨_, eP, (NF (_, opl') (by k_mem)).1⟩) (.inr ⟨_, eO, (NF (_, okn) (by k_mem)).1⟩) (.inr ⟨_, eT, (NF (_, tabObj ps') (by k_mem)).1⟩))
          have kbT : KB [L, fl, L + 1 + 1, 103] h hF := kbDE.trans (kbEF.mono (by first | k_mem | simp))
          have hI4F : IsRangeIter hF I4 (0 + ((i + 1 : Nat) : Int) * 1) (((6 : Nat) : Int) - ((i + 1 : Nat) : Int)) 1 := kbT _ _ (by first | k_mem | (simp only [List.mem_cons, List.not_mem_nil, or_false, not_or]; lia)) hst'
          have hlk : (lookL rows r lastL)[i]? = some ((List.findSome? (fun x => ((rowParts rows x)[i]?).join) r).getD (lastL[i]'(by lia))) := by
            unfold lookL
            rw [List.getElem?_map, List.getElem?_range hi6]
            show some ((pick (rowParts rows) r i).getD (lastL.getD i 0)) = _
            rw [List.getD_eq_getElem?_getD, List.getElem?_eq_getElem (by lia : i < lastL.length)]
            rfl
          refine kc _ ⟨hF, _, rfl, kbT, o1, o2, o3, some (.ref D), _, _, opl', _, ps', nsEq FF.ns mK_some, (NF (fl, _) (by k_mem)).1, (NF (L + 1 + 1, _) (by k_mem)).1, dpl', (NF (103, _) (by k_mem)).1,
            (htabE.kb kbEF (by
              refine fa2 ?_ ?_
              · exact noStr_ns eNs
              · exact noStr_of eF noStr_list)).hide (rng hF (i + 1) hI4F), ?_, fun _ => ⟨r, hgo⟩⟩
          intro r' hgo'
          obtain rfl := hgo'.det hgo
          rw [show (lookL rows r' lastL).take (i + 1) = (lookL rows r' lastL).take i ++ [_] by rw [List.take_add_one, hlk]; rfl]
          exact (q7 r' hgo').snoc ⟨x0t, rfl⟩
      · rintro h tk ⟨o1, o2, o3, o5, vs9, n9, opl, q, psx, q1, q2, q3, q4, q5, q6, q7, q8⟩ hkb
        obtain ⟨r, hgo⟩ := q8 (by decide)
        have hA6 := q7 r hgo
        rw [List.take_of_length_le (by unfold lookL; simp)] at hA6
        have hk3 : KB (L :: [fl, L + 1 + 1, 103, I4]) hC h := fun b o nb e => hkb b o (by show b ∉ L :: ([fl, L + 1 + 1, 103] ++ [I4]); first | exact nb | simpa using nb) (Heap.get?_push_of_some _ e)
        have hsub9 : Sub g h := subKB keepC (fa5 gLn flC.2.2 oAC.2.2 n103C.2.2 (fresh_none keepC (Nat.le_of_eq hI4))) hk3
        have htabh : TabOk h psx := q6.sub hide_self
        obtain ⟨frz, F9, N9, off, infrz, kback⟩ := kmode (own := [(fl, lstO vs9 n9), (103, tabObj psx)]) (g := g) q1 hsub9 aboveC (by
          refine fa2 ?_ ?_
          · exact ⟨q2, flC.2⟩
          · exact ⟨q5, n103C.2⟩)
        simp only [List.cons_append, List.nil_append] at N9
        have hv9l : vs9.length ≤ 100 := by have := hA6.length; rw [← this]; unfold lookL; simp
        refine k1 _ (fun tk => ?_) _
        clear k1 k2 Q1 NC FC
        k_steps
        rename News _ _ _ _ => N8
        rename Fr _ _ _ _ => F8
        rename_i T' hT8 lT8
        have nT := N8 (T', _) (.head _)
        refine ret T' vs9 r psx _ _ (exitKB lift F8) (fresh_of lift (by show T' ∉ [103]; have := lT8.2.1; simp only [List.mem_cons, List.not_mem_nil, or_false]; lia) nT.2.2) ⟨_, nT.1, rfl, _, rfl⟩ hA6 hgo (N8 (103, _) (by k_mem)).1 (htabh.kb (kback _ _ _ F8 N8 (fun p hp => by repeat (first | exact hp | refine List.Mem.tail _ ?_))) ?_)
        refine fa3 ?_ ?_ ?_
        · exact noStr_ns q1
        · exact noStr_of q2 noStr_list
        · exact noStr_of q5 htabh.noStr
end Mine

end
section
open PySem PySem.Spec PySem.Calls PySem.W PyProof.Rows
set_option Elab.async false
set_option linter.unusedVariables false
set_option maxRecDepth 100000
namespace Mine
section
variable {w : World} {mean : ExcName → Option Value} {mg mb : Str → Option Value} {g : Heap} {L : Nat} {m : Str → Option Value} {s : Shared} {A : Around} {news : List (Addr × Obj)} {gN : Obj → List (Addr × Obj)} {Q : Value → Shared → Prop} {E : Value → Shared → Prop}
/-- the law's own calls: the pot is in the ledger, what it stands for is in the heap -/
theorem use_rowsL {q c : Nat} {po : Obj} {k : Nat} {cs : List Value} {ns : List Int}
    (X : (hd.heap_39 w.params).In g) (T : Top Vw Lo mean mg mb g) (F : Fr g L s.heap m) (N : News g L s.heap news) (U : UpdF q po news gN) (hpo : PotO c k po) (hp : PotG s.heap c cs ns) (hcq : c ≠ q)
    (hh : A.handled = none) (hk : k < 100) (hdp : A.depth < 800) (hun : A.units < 900)
    (h : ∀ (l : Nat) vs n rows h' tk' po', Fr g L h' m → News g L h' ((l, lstO vs n) :: gN po') → (∀ p ∈ news, @LT.lt Nat _ p.1 l) → PotO c (k + 45) po' → RowsAt h' rows vs → rows.length = 5 → (∀ r ∈ rows, r.Good) → KB [q] s.heap h' → Q (.ref l) { s with heap := h', toks := tk' }) :
    wpAny (model Pg w) A (call (.ref 101) [.ref q]) Q E s := by
  refine wpNv ?_
  obtain ⟨hd, dp, fr, gd, un⟩ := A
  dsimp only at hh hdp hun
  subst hh
  have hq := N _ (updF_mem U)
  refine wpAny_call (rows_ok ⟨X, T⟩ F.keep hq.1 hq.2.2 hpo hp hcq hk hdp hun ?_)
  intro l vs n rows h' tk' po' kb hpo' hpp hl hls hl' hrows hrl hgood
  obtain ⟨F', N'⟩ := upd_fr F N U kb hpo'
  have lne : ∀ p ∈ news, @LT.lt Nat _ p.1 l := fun p hp => Nat.lt_of_lt_of_le (ltSz (N p hp).1) hls
  refine h l vs n rows h' tk' po' F' (fun p hp => ?_) lne (by simpa using hpp) hrows hrl hgood kb
  rcases List.mem_cons.mp hp with rfl | hp
  · refine ⟨hl', fun e => ?_, ?_⟩
    · obtain ⟨o, _, _, ho, _⟩ := F.ns
      have e : l = L := e
      first | exact nS2 (e) (ho) hl | (rw [e, ho] at hl; cases hl)
    · cases q : g.get? l with
      | none => rfl
      | some o => have := F.keep _ _ q; first | exact nS (hl) this | (rw [hl] at this; cases this)
  · exact N' p hp
/-- the rows, with what the call made kept in the ledger -/
theorem use_rowsK {q c : Nat} {po : Obj} {k : Nat} {cs : List Value} {ns : List Int}
    (X : (hd.heap_39 w.params).In g) (T : Top Vw Lo mean mg mb g) (F : Fr g L s.heap m) (N : News g L s.heap news) (U : UpdF q po news gN) (hpo : PotO c k po) (hp : PotG s.heap c cs ns) (hcq : c ≠ q)
    (hh : A.handled = none) (hk : k < 100) (hdp : A.depth < 800) (hun : A.units < 900)
    (h : ∀ (l : Nat) vs n rows h' tk' po' frz, Fr g L h' m → News g L h' ((l, lstO vs n) :: (gN po' ++ frz)) → (∀ p ∈ news, @LT.lt Nat _ p.1 l) → (∀ p ∈ frz, p.1 ∉ ((l : Addr) :: (gN po').map (·.1))) → PotO c (k + 45) po' →
      (∀ h'' : Heap, Sub g h'' → (∀ p ∈ frz, h''.get? p.1 = some p.2) → (∀ p ∈ gN po', ∀ xs nn, p.2.cls = .type "tuple" → p.2.data = .seq xs nn → h''.get? p.1 = some p.2) → RowsAt h'' rows vs) → rows.length = 5 → (∀ r ∈ rows, r.Good) → Q (.ref l) { s with heap := h', toks := tk' }) :
    wpAny (model Pg w) A (call (.ref 101) [.ref q]) Q E s := by
  refine use_rowsL X T F N U hpo hp hcq hh hk hdp hun fun l vs n rows h' tk' po' F' N' lne hpp hrows hrl hgood kb => ?_
  obtain ⟨frz, F2, N2, off, infrz, kback⟩ := kmode (own := ((l : Addr), lstO vs n) :: gN po') (g := g) F'.ns F'.keep F'.above N'
  refine h l vs n rows h' tk' po' frz F2 N2 lne off hpp (fun h'' hs hf ht => ?_) hrl hgood
  have up : ∀ (a : Nat) (items : Array Value), h'.IsTuple a items → h''.IsTuple a items := by
    rintro a items ⟨o, ho, hc, r⟩
    refine ⟨o, ?_, hc, r⟩
    cases hg : g.get? a with
    | some o' => have := F'.keep _ _ hg; first | exact nS (ho) this | (rw [ho] at this; cases this); exact hs _ _ hg
    | none =>
      have aL : a ≠ L := fun e => by
        obtain ⟨oL, _, _, h1, h2, _⟩ := F'.ns
        subst e
        first | exact nS (ho) h1 | (rw [ho] at h1; cases h1)
        obtain ⟨_, h3⟩ := r
        first | exact nS (h2) h3 | (rw [h2] at h3; cases h3)
      by_cases hm : a ∈ (((l : Addr), lstO vs n) :: gN po').map (·.1)
      · obtain ⟨p, hp', e⟩ := List.mem_map.mp hm
        have hpo2 := (N' p hp').1
        rw [e, ho] at hpo2
        have e2 : o = p.2 := Option.some.inj hpo2
        rcases List.mem_cons.mp hp' with rfl | hp'
        · rw [e2] at hc; exact absurd hc (show (Value.type "list") ≠ .type "tuple" by decide)
        · obtain ⟨nn, hd⟩ := r
          rw [← e, e2]; exact ht p hp' _ nn (e2 ▸ hc) (e2 ▸ hd)
      · exact hf (a, o) (infrz a o ho aL hm hg)
  refine ⟨hrows.1, fun i r e => ?_⟩
  obtain ⟨v, a, b, pa, pr, tn, xs, ys, e1, e2, e3, e4, e5, e6⟩ := hrows.2 i r e
  exact ⟨v, a, b, pa, pr, tn, xs, ys, e1, up _ _ e2, up _ _ e3, e4, up _ _ e5, e6⟩
theorem use_dipL {q c : Nat} {po : Obj} {k : Nat} {many : Int} {t : Tok} {cs : List Value} {ns : List Int}
    (X : (hd.heap_39 w.params).In g) (T : Top Vw Lo mean mg mb g) (F : Fr g L s.heap m) (N : News g L s.heap news) (U : UpdF q po news gN) (hpo : PotO c k po) (hp : PotG s.heap c cs ns) (hcq : c ≠ q)
    (hh : A.handled = none) (hmany : 0 < many) (hm2 : many < 100) (hk : k < 1000) (hdp : A.depth < 900) (hun : A.units < 1000)
    (h : ∀ r tr h' tk' po', Fr g L h' m → News g L h' (gN po') → PotO c (k + 1) po' → 0 ≤ r → r < many → Q (.int r tr) { s with heap := h', toks := tk' }) :
    wpAny (model Pg w) A (call (.ref 96) [.ref q, .int many t]) Q E s := by
  refine wpNv ?_
  obtain ⟨hd, dp, fr, gd, un⟩ := A
  dsimp only at hh hdp hun
  subst hh
  have hq := N _ (updF_mem U)
  refine wpAny_call (dip_ok ⟨X, T⟩ F.keep hq.1 hq.2.2 hpo hp.hc hcq hp.hi hp.hlen hmany hm2 hk hdp hun ?_)
  intro r tr h' tk' po' kb hpo' hpp h0 h1
  obtain ⟨F', N'⟩ := upd_fr F N U kb hpo'
  exact h r tr h' tk' po' F' N' hpp h0 h1
/-- define of a name, in the law's frame -/
theorem use_defineN {tb d bn lk nu fx : Nat} {bo : Obj} {kvs : List (Str × Value)} {nm : Str} {t : Tok}
    (X : (hd.heap_39 w.params).In g) (T : Top Vw Lo mean mg mb g) (F : Fr g L s.heap m) (N : News g L s.heap news) (hT : TabI w s.heap tb d bn lk nu) (U : UpdF bn bo news gN) (hbd : bo.IsDictOf (strKind Pg w) kvs) (hkl : kvs.length ≤ 20) (tbn : tb ≠ bn) (dbn : d ≠ bn)
    (hnm : nm ≠ Str.ofString "default") (hh : A.handled = none) (hdp : A.depth < 700) (hun : A.units < 800)
    (h : ∀ h' tk' bo', Fr g L h' m → News g L h' (gN bo') → bo'.IsDictOf (strKind Pg w) (stored kvs nm (.ref fx)) → KB [bn] s.heap h' → Q .none { s with heap := h', toks := tk' }) :
    wpAny (model Pg w) A (call (.ref 58) [.ref tb, .str nm t, .ref fx]) Q E s := by
  refine wpNv ?_
  obtain ⟨hd, dp, fr, gd, un⟩ := A
  dsimp only at hh hdp hun
  subst hh
  have hb := N _ (updF_mem U)
  refine wpAny_call (define_name ⟨X, T⟩ F.keep hT hb.1 hbd hkl hb.2.2 tbn dbn hnm hdp hun ?_)
  intro h' tk' bo' kb hbo hbd'
  obtain ⟨F', N'⟩ := upd_fr F N U kb hbo
  exact h h' tk' bo' F' N' hbd' kb
end
end Mine

end
section
open PySem PySem.Spec PySem.Calls PySem.W PyProof.Rows
set_option Elab.async false
set_option linter.unusedVariables false
set_option maxRecDepth 100000
namespace Mine
theorem kxLc : True := by
  k_with_none
  k_with "ne" => (refine neN ?_; (try dsimp only); first | with_reducible assumption | exact Ne.symm (by with_reducible assumption) | exact Nat.ne_of_lt (by with_reducible assumption) | exact Nat.ne_of_gt (by with_reducible assumption) | lia)
  k_with "mem" => first | exact nm0 | (refine nmC ?_ ?_; k_ne; k_mem) | (refine inL ?_; k_mem) | exact fa0 | (refine faC ?_ ?_; k_mem; k_mem)
  trivial
/-- the end of a turn of such a comprehension -/
def CallEnd (C : Nat) (md : List Nat) (J : List Value → Heap → Prop) (G : Array GenState) (Dr : Drawn) (O : OsState) (h : Heap) (ys : List Value) (y : Value) (s₄ : Shared) : Prop := TurnI C md J G Dr O h (ys ++ [y]) s₄
/-- [elt for y in l], where elt may change the objects at md -/
theorem list_comp {w : World} {A : Around} {env : Env} {elt : Expr} {y : Str} {py : Pos} {scope : Scope} {cl : List (Str × Addr)} {hp : Heap} {G : Array GenState} {Dr : Drawn} {t0 : Nat} {O : OsState} {l n : Nat} {vs : List Value} {md : List Nat}
    {fn : Shared → Nat → List Value → Nat → List Nat → Heap → Nat → Prop} {E : Value → Shared → Prop} (J : Nat → List Value → Heap → Prop)
    (hh : A.handled = none) (hl : hp.get? l = some (lstO vs n)) (hb : vs.length ≤ 100) (hmd : ∀ b ∈ md, b < hp.objs.size ∧ b ≠ l) (hJ0 : J 0 [] hp)
    (hJ : ∀ i ys h h' (av : List Nat), (∀ b ∈ av, hp.objs.size ≤ b) → J i ys h → KB av h h' → J i ys h')
    (turn : ∀ (C : Nat) i v ys h tk m₁, hp.objs.size ≤ C → vs[i]? = some v → J i ys h → h.Ns C m₁ → KB md hp h →
      wpAny (model Pg w) A (assign (.Name y py) (compEnvC scope cl C env) v) (fun _ s₂ => wpAny (model Pg w) A (eval elt (compEnvC scope cl C env)) (CallEnd C md (J (i + 1)) G Dr O h ys) Nv s₂) Nv ⟨h, G, Dr, tk, O⟩)
    (fin : ∀ h2 zs (D C : Nat) av h' tk', hp.objs.size ≤ D → hp.objs.size ≤ C → D ≠ C → J vs.length zs h' → h'.PlainList D (List.toArray zs) → KB md hp h' → fn ⟨h2, G, Dr, t0, O⟩ D zs C av h' tk') :
    wpAny (model Pg w) A (pyIter (.ref l)) (fun it s₂ => CompAt Pg w A env elt (.Name y py) [] scope cl s₂ it (fn s₂)) E ⟨hp, G, Dr, t0, O⟩ := by
  have llt : l < hp.objs.size := ltSz hl
  refine wpAny_pyIter_list (s := ⟨hp, G, Dr, t0, O⟩) ⟨_, hl, rfl, n, rfl⟩ ?_
  dsimp only
  generalize hH : hp.push { cls := .type "list_iterator", dict := none, data := .fields #[Value.ref l, .int 0 0] } = h0
  have sz0 : h0.objs.size = hp.objs.size + 1 := by rw [← hH, Heap.size_push]
  have sub0 : Sub hp h0 := fun b o e => hH ▸ Heap.get?_push_of_some _ e
  have itg : h0.get? hp.objs.size = some { cls := .type "list_iterator", dict := none, data := .fields #[Value.ref l, .int 0 0] } := hH ▸ Heap.get?_push_size _ rfl
  refine ⟨hp.objs.size, _, _, md, _, _, _, rfl, ItS.listA hh hp.objs.size l (by lia) vs.toArray, ?_, ⟨⟨_, itg, rfl, rfl⟩, ⟨_, sub0 _ _ hl, rfl, _, rfl⟩⟩, ?_, ?_, ?_⟩
  · rw [sizeLine_eq, List.size_toArray]; lia
  · intro b hb'
    simp only [List.mem_cons, List.not_mem_nil, or_false] at hb'
    show b < h0.objs.size
    lia
  · intro b hb'
    have := hmd b hb'
    refine ⟨?_, by show b < h0.objs.size; lia⟩
    simp only [List.mem_cons, List.not_mem_nil, or_false, not_or]
    exact ⟨by lia, this.2⟩
  intro D C hD hC
  replace hD : D = h0.objs.size := hD
  replace hC : C = h0.objs.size + 1 := hC
  have kdrop : ∀ {h : Heap}, KB (md ++ [hp.objs.size]) h0 h → KB md hp h := fun {h} kb b o nb e => by
    have := ltSz e
    exact kb b o (by simp only [List.mem_append, List.mem_cons, List.not_mem_nil, or_false, not_or]; exact ⟨nb, by lia⟩) (sub0 _ _ e)
  refine ⟨fun i zs h => J i zs h, hJ 0 [] hp h0 [] (by first | k_mem | simp) hJ0 (KB.of_sub sub0), ?_, ?_, ?_⟩
  · intro i zs h h' hj kb
    refine hJ i zs h h' _ (fun b hb' => ?_) hj kb
    simp only [List.mem_cons, List.not_mem_nil, or_false] at hb'
    lia
  · rintro i v zs h tk m₁ hi hv hst hj hnsC hkb
    refine wpQ (turn C i v zs h tk m₁ (by lia) (by simpa using hv) hj hnsC (kdrop hkb)) fun _ s₂ k₂ => wpAny_tests_nil ?_
    simp only [if_true]
    exact k₂
  · rintro zs h tk hj hpl hkb
    have hj' : J vs.length zs h := by
      have hj : J vs.toArray.size zs h := hj
      rwa [List.size_toArray] at hj
    exact fin _ zs D C _ h tk (by lia) (by lia) (by lia) hj' hpl (kdrop hkb)
end Mine

end
section
open PySem PySem.Spec PySem.Calls PySem.W PyProof.Rows
set_option Elab.async false
set_option linter.unusedVariables false
set_option maxRecDepth 100000
namespace Mine
theorem kxNm : True := by
  k_with_none
  k_with "ne" => (refine neN ?_; (try dsimp only); first | with_reducible assumption | exact Ne.symm (by with_reducible assumption) | exact Nat.ne_of_lt (by with_reducible assumption) | exact Nat.ne_of_gt (by with_reducible assumption) | lia)
  k_with "mem" => first | exact nm0 | (refine nmC ?_ ?_; k_ne; k_mem) | (refine inL ?_; k_mem) | exact fa0 | (refine faC ?_ ?_; k_mem; k_mem)
  trivial
noncomputable def putF (F : FT) (nm : Str) (f : FaceD) : FT := fun y => if y = nm then some f else F y
theorem NamesO.put {w : World} {h : Heap} {bo bo' : Obj} {F : FT} {known : List Str} {kvs : List (Str × Value)} {nm : Str} {f : FaceD} {x : Nat}
    (hk : ∀ n, (F n).isSome = true → n ∈ known) (hkl : known.length ≤ 6) (hN : ∀ n, (F n = none ∧ valueAt kvs n = none) ∨ ∃ f x, F n = some f ∧ f.Good ∧ valueAt kvs n = some (.ref x) ∧ FaceAt w h x f)
    (hbd : bo'.IsDictOf (strKind Pg w) (stored kvs nm (.ref x))) (hl : (stored kvs nm (.ref x)).length ≤ 6) (hnm : nm ∈ known) (hf : f.Good) (hx : FaceAt w h x f) : NamesO w h bo' (putF F nm f) known := by
  refine ⟨_, hbd, hl, fun n hn => ?_, hkl, fun n => ?_⟩
  · unfold putF at hn
    by_cases e : n = nm
    · rw [e]; exact hnm
    · rw [if_neg e] at hn; exact hk n hn
  · rw [valueAt_stored]
    unfold putF
    by_cases e : n = nm
    · rw [if_pos e, if_pos e]; exact .inr ⟨f, x, rfl, hf, rfl, hx⟩
    · rw [if_neg e, if_neg e]; exact hN n
/-- the faces of the first i rows, over a default -/
noncomputable def rowF (rows : List RowD) (d : FaceD) : Nat → FT
  | 0 => fun y => if y = Str.ofString "default" then some d else none
  | i + 1 => match rows[i]? with
    | some r => putF (rowF rows d i) (chr i) ⟨r.parts, r.parents.map chr⟩
    | none => rowF rows d i
theorem chr_ne_default (i : Nat) : chr i ≠ Str.ofString "default" := by
  intro e
  have h1 : (chr i).cps.size = 1 := rfl
  have h2 : (Str.ofString "default").cps.size = 7 := by decide +kernel
  rw [e, h2] at h1
  cases h1
theorem rowF_default {rows : List RowD} {d : FaceD} : ∀ i, rowF rows d i (Str.ofString "default") = some d
  | 0 => by simp [rowF]
  | i + 1 => by
    show (match rows[i]? with | some r => putF (rowF rows d i) (chr i) ⟨r.parts, r.parents.map chr⟩ | none => rowF rows d i) (Str.ofString "default") = some d
    cases rows[i]? with
    | some r => show putF _ _ _ _ = _; unfold putF; rw [if_neg (Ne.symm (chr_ne_default i))]; exact rowF_default i
    | none => exact rowF_default i
/-- what the table says of parents and parts, away from the default -/
theorem rowF_other {rows : List RowD} {d : FaceD} {x : Str} (hx : x ≠ Str.ofString "default") : ∀ i, i ≤ rows.length → ((∀ j < i, x ≠ chr j) ∧ rowF rows d i x = none) ∨ ∃ j r, j < i ∧ x = chr j ∧ rows[j]? = some r ∧ rowF rows d i x = some ⟨r.parts, r.parents.map chr⟩
  | 0, _ => .inl ⟨fun j hj => absurd hj (Nat.not_lt_zero _), by simp [rowF, hx]⟩
  | i + 1, hi => by
    have hlt : i < rows.length := by lia
    have hr : rows[i]? = some rows[i] := List.getElem?_eq_getElem hlt
    have e : rowF rows d (i + 1) = putF (rowF rows d i) (chr i) ⟨rows[i].parts, rows[i].parents.map chr⟩ := by
      show (match rows[i]? with | some r => putF (rowF rows d i) (chr i) ⟨r.parts, r.parents.map chr⟩ | none => rowF rows d i) = _
      rw [hr]
    rw [e]
    unfold putF
    by_cases hc : x = chr i
    · rw [if_pos hc]; exact .inr ⟨i, rows[i], Nat.lt_succ_self _, hc, hr, rfl⟩
    · rw [if_neg hc]
      rcases rowF_other (rows := rows) (d := d) hx i (by lia) with ⟨a, b⟩ | ⟨j, r, a, b, c, d'⟩
      · exact .inl ⟨fun j hj => by
          rcases Nat.lt_or_ge j i with q | q
          · exact a j q
          · have : j = i := by lia
            rw [this]; exact hc, b⟩
      · exact .inr ⟨j, r, Nat.lt_succ_of_lt a, b, c, d'⟩
/-- away from the default the table's walk is the rows' walk -/
theorem rowF_tab {rows : List RowD} {d : FaceD} {x : Str} (hx : x ≠ Str.ofString "default") : (rowF rows d rows.length).tab x = rowTab rows x := by
  rcases rowF_other (d := d) hx rows.length (Nat.le_refl _) with ⟨a, b⟩ | ⟨j, r, a, b, c, e⟩
  · show (rowF rows d rows.length x).map _ = _
    rw [b, rowTab_none a]; rfl
  · show (rowF rows d rows.length x).map _ = _
    rw [e, b, rowTab_some c]; rfl
theorem rowF_parts {rows : List RowD} {d : FaceD} {x : Str} (hx : x ≠ Str.ofString "default") (hk : (rowTab rows x).isSome = true) : (rowF rows d rows.length).parts x = rowParts rows x := by
  obtain ⟨i, r, rfl, hr⟩ := rowTab_inv hk
  rcases rowF_other (d := d) hx rows.length (Nat.le_refl _) with ⟨a, b⟩ | ⟨j, r', a, b, c, e⟩
  · have hi : i < rows.length := by
      rcases Nat.lt_or_ge i rows.length with q | q
      · exact q
      · first | exact nS (List.getElem?_eq_none q) hr | (rw [List.getElem?_eq_none q] at hr; cases hr)
    exact absurd rfl (a i hi)
  · show ((rowF rows d rows.length (chr i)).map _).getD _ = _
    rw [e, rowParts_some hr]
    have : i = j := chr_inj b
    subst this
    first | exact nS (hr) c | (rw [hr] at c; cases c); rfl
end Mine
namespace Mine
theorem pick_congr {p q : Str → List (Option Int)} {i : Nat} : ∀ {r : List Str}, (∀ n ∈ r, p n = q n) → pick p r i = pick q r i
  | [], _ => rfl
  | a :: r, h => by
    unfold pick
    rw [List.findSome?_cons, List.findSome?_cons, h a (.head _)]
    have := pick_congr (p := p) (q := q) (i := i) (r := r) fun n hn => h n (.tail _ hn)
    unfold pick at this
    rw [this]
/-- the plain law of one look: what the table merges is what the slow rule tells -/
theorem look_same {rows : List RowD} {ks : List Int} {names r r' : List Str} (hk : ks.length = 6) (hn : Str.ofString "default" ∉ names) (hgo : Go (rowTab rows) names [] r)
    (hgo' : Go (rowF rows ⟨ks.map some, []⟩ rows.length).tab (names ++ [Str.ofString "default"]) [] r') : look (rowF rows ⟨ks.map some, []⟩ rows.length).parts r' = (lookL rows r ks).map some := by
  have hd0 : rowTab rows (Str.ofString "default") = none := rowTab_none fun i _ => Ne.symm (chr_ne_default i)
  have hp : ∀ n ps, rowTab rows n = some ps → Str.ofString "default" ∉ ps := by
    intro n ps h
    obtain ⟨i, r, rfl, hr⟩ := rowTab_inv (by rw [h]; rfl)
    rw [rowTab_some hr] at h
    cases h
    intro hm
    obtain ⟨j, _, e⟩ := List.mem_map.mp hm
    exact chr_ne_default j e
  have hr' := Go.last (tab' := (rowF rows ⟨ks.map some, []⟩ rows.length).tab) (d := Str.ofString "default") (fun n hn => rowF_tab hn) hd0 (by show (rowF _ _ _ _).map _ = _; rw [rowF_default]; rfl) hp hgo hn hgo'
  subst hr'
  have hnd : Str.ofString "default" ∉ r := hgo.not_mem hd0 (by first | k_mem | simp)
  have hdp : (rowF rows ⟨ks.map some, []⟩ rows.length).parts (Str.ofString "default") = ks.map some := by show ((rowF _ _ _ _).map _).getD _ = _; rw [rowF_default]; rfl
  unfold look lookL
  rw [List.map_map]
  refine List.map_congr_left fun i hi => ?_
  have hi6 : i < 6 := List.mem_range.mp hi
  rw [pick_snoc, hdp, pick_congr (q := rowParts rows) (fun n hn => rowF_parts (fun e => hnd (e ▸ hn)) (by
    rcases hgo.known n hn with q | q
    · cases q
    · exact q))]
  rw [List.getElem?_map, List.getElem?_eq_getElem (by lia : i < ks.length)]
  show (pick (rowParts rows) r i).or (some _) = some ((pick (rowParts rows) r i).getD (ks.getD i 0))
  rw [List.getD_eq_getElem?_getD, List.getElem?_eq_getElem (by lia : i < ks.length)]
  cases pick (rowParts rows) r i <;> rfl
end Mine
namespace Mine
theorem numEq {TL : List (List Int)} (hn : TL.Nodup) {i j : Nat} {a b : List Int} (ha : TL[i]? = some a) (hb : TL[j]? = some b) : (i = j ↔ a = b) := by
  constructor
  · rintro rfl; rw [ha] at hb; exact Option.some.inj hb
  · rintro rfl
    have hi : i < TL.length := by
      rcases Nat.lt_or_ge i TL.length with q | q
      · exact q
      · first | exact nS (List.getElem?_eq_none q) ha | (rw [List.getElem?_eq_none q] at ha; cases ha)
    exact (List.getElem?_inj hi hn).mp (ha.trans hb.symm)
theorem lookL_nil {rows : List RowD} {ks : List Int} (hk : ks.length = 6) : lookL rows [] ks = ks := by
  obtain ⟨a, b, c, d, e, f, rfl⟩ := six hk
  rfl
end Mine

end
section
open PySem PySem.Spec PySem.Calls PySem.W PyProof.Rows
set_option Elab.async false
set_option linter.unusedVariables false
set_option maxRecDepth 100000
namespace Mine
theorem kxLs : True := by
  k_with_none
  k_with "ne" => (refine neN ?_; (try dsimp only); first | with_reducible assumption | exact Ne.symm (by with_reducible assumption) | exact Nat.ne_of_lt (by with_reducible assumption) | exact Nat.ne_of_gt (by with_reducible assumption) | lia)
  k_with "mem" => first | exact List.Mem.head _ | (refine' List.Mem.tail _ ?_; k_mem) | exact nm0 | (refine nmC ?_ ?_; k_ne; k_mem) | (refine inL ?_; k_mem) | exact fa0 | (refine faC ?_ ?_; k_mem; k_mem)
  trivial
/-- the law's own function, as the text's objects hold it -/
noncomputable def lawRec (w : World) : FuncData := match (hd.heap_39 w.params).lookup 118 with | some ⟨_, _, .func fd, _⟩ => fd | _ => default
noncomputable def lawBody (w : World) : List Stmt := match (lawRec w).body with | .stmts b => b | _ => []
noncomputable def lawEnv (w : World) (L : Nat) (fa : Addr) (cd : Value) : Env := envX (Str.ofString "law") (lawRec w).scope L fa cd [(Str.ofString "last", L + 4), (Str.ofString "lines_laid", L + 3), (Str.ofString "table", L + 2), (Str.ofString "pot", L + 1)]

noncomputable abbrev mL (o1 o2 o3 o4 o5 o6 o7 o8 o9 : Option Value) (sc : Value) : Str → Option Value := fun y => if y = Str.ofString "name" then o1 else if y = Str.ofString "part_list" then o2 else if y = Str.ofString "parents" then o3 else if y = Str.ofString "nth" then o4
  else if y = Str.ofString "lists" then o5 else if y = Str.ofString "numbers" then o6 else if y = Str.ofString "looks" then o7 else if y = Str.ofString "place" then o8 else if y = Str.ofString "other" then o9 else if y = Str.ofString "script" then some sc else none

def CellH (h : Heap) (c : Nat) (v : Value) : Prop := ∃ o, h.get? c = some o ∧ o.data = .cell (some v)
theorem CellH.kb {av : List Nat} {h h' : Heap} {c : Nat} {v : Value} (x : CellH h c v) (k : KB av h h') (n : c ∉ av) : CellH h' c v := let ⟨o, a, b⟩ := x; ⟨o, k _ _ n a, b⟩

/-- what the law holds: its frame, the pot and its cells, the table's objects, the rows -/
structure LD where
  L : Nat
  cc : Nat
  q : Nat
  td : Nat
  tb : Nat
  bn : Nat
  lk : Nat
  rl : Nat
  rn : Nat
  sc : Value
  cs : List Value
  ns : List Int
  rows : List RowD
  rvs : List Value
noncomputable abbrev LD.M (D : LD) : List Nat := [D.L, D.L + 1, D.L + 2, D.L + 3, D.L + 4, D.q, D.td, D.tb, D.bn, D.lk, 103]

noncomputable def names6 : List Str := [Str.ofString "default", chr 0, chr 1, chr 2, chr 3, chr 4]
/-- the table of names: the default and the first rows, its faces at a frozen heap -/
inductive NamesK (w : World) (hz : Heap) (o : Obj) (F : FT) (n : Nat) : Prop
  | mk (kvs : List (Str × Value)) (f1 : o.IsDictOf (strKind Pg w) kvs) (f2 : kvs.length ≤ n + 1) (f3 : (∀ x, (F x).isSome = true → x ∈ names6)) (f4 : ∀ x, (F x = none ∧ valueAt kvs x = none) ∨ ∃ f a, F x = some f ∧ f.Good ∧ valueAt kvs x = some (.ref a) ∧ FaceAt w hz a f)
theorem NamesK.up {w : World} {g h : Heap} {o : Obj} {F : FT} {n : Nat} (s : Sub g h) : NamesK w g o F n → NamesK w h o F n := by
  rintro ⟨kvs, a, b, c, d⟩
  refine ⟨kvs, a, b, c, fun x => ?_⟩
  rcases d x with d | ⟨f, x, e1, e2, e3, e4⟩
  · exact .inl d
  · exact .inr ⟨f, x, e1, e2, e3, e4.up s⟩
theorem NamesK.toO {w : World} {g : Heap} {o : Obj} {F : FT} (x : NamesK w g o F 5) : NamesO w g o F names6 :=
  let ⟨kvs, a, b, c, d⟩ := x
  ⟨kvs, a, by lia, c, by decide, d⟩
theorem NamesK.put {w : World} {h : Heap} {bo bo' : Obj} {F : FT} {kvs : List (Str × Value)} {nm : Str} {f : FaceD} {x n : Nat}
    (hk : ∀ x, (F x).isSome = true → x ∈ names6) (hN : ∀ n, (F n = none ∧ valueAt kvs n = none) ∨ ∃ f x, F n = some f ∧ f.Good ∧ valueAt kvs n = some (.ref x) ∧ FaceAt w h x f)
    (hbd : bo'.IsDictOf (strKind Pg w) (stored kvs nm (.ref x))) (hl : (stored kvs nm (.ref x)).length ≤ n + 1) (hnm : nm ∈ names6) (hf : f.Good) (hx : FaceAt w h x f) : NamesK w h bo' (putF F nm f) n := by
  refine ⟨_, hbd, hl, fun n hn => ?_, fun n => ?_⟩
  · unfold putF at hn
    by_cases e : n = nm
    · rw [e]; exact hnm
    · rw [if_neg e] at hn; exact hk n hn
  · rw [valueAt_stored]
    unfold putF
    by_cases e : n = nm
    · rw [if_pos e, if_pos e]; exact .inr ⟨f, x, rfl, hf, rfl, hx⟩
    · rw [if_neg e, if_neg e]; exact hN n
theorem stored_length_eq {kvs : List (Str × Value)} {k : Str} {v : Value} (h : valueAt kvs k ≠ none) : (stored kvs k v).length = kvs.length := by
  unfold stored
  rw [if_pos, List.length_map]
  unfold valueAt at h
  cases e : kvs.find? fun kv => kv.1 = k with
  | none => rw [e] at h; exact absurd rfl h
  | some p =>
    rw [List.any_eq_true]
    exact ⟨p, List.mem_of_find?_eq_some e, List.find?_some (p := fun kv : Str × Value => decide (kv.1 = k)) e⟩
theorem putF_rowF {rows : List RowD} {d d' : FaceD} : ∀ i, putF (rowF rows d i) (Str.ofString "default") d' = rowF rows d' i
  | 0 => by
    funext y
    unfold putF rowF
    by_cases e : y = Str.ofString "default"
    · rw [if_pos e, if_pos e]
    · rw [if_neg e, if_neg e, if_neg e]
  | i + 1 => by
    funext y
    have ih := congrFun (putF_rowF (rows := rows) (d := d) (d' := d') i) y
    show putF (match rows[i]? with | some r => putF (rowF rows d i) (chr i) ⟨r.parts, r.parents.map chr⟩ | none => rowF rows d i) (Str.ofString "default") d' y = (match rows[i]? with | some r => putF (rowF rows d' i) (chr i) ⟨r.parts, r.parents.map chr⟩ | none => rowF rows d' i) y
    cases rows[i]? with
    | none => exact ih
    | some r =>
      dsimp only
      unfold putF at ih ⊢
      by_cases e : y = Str.ofString "default"
      · rw [if_pos e] at ih ⊢
        rw [if_neg (by rw [e]; exact Ne.symm (chr_ne_default i))]
        exact ih
      · rw [if_neg e] at ih ⊢
        by_cases e2 : y = chr i
        · rw [if_pos e2, if_pos e2]
        · rw [if_neg e2, if_neg e2]; exact ih

theorem hide_sub2 {M M' : List Nat} {h h' : Heap} (k : KB M h h') (hf : ∀ b ∈ M', b ∈ M ∨ h.get? b = none) : Sub (hideAll h M) (hideAll h' M') := fun b o e => by
  have hb : b ∉ M := fun q => by first | exact nS (hideAll_none _ q) e | (rw [hideAll_none _ q] at e; cases e)
  have e' := of_hideAll _ e
  exact hideAll_get _ (k b o hb e') fun q => by
    rcases hf b q with h1 | h1
    · exact hb h1
    · rw [h1] at e'; cases e'

/-- the places of the law's objects, one behind the other -/
structure LOrd (D : LD) : Prop where
  o1 : @LT.lt Nat _ (D.L + 4) D.q
  o2 : @LT.lt Nat _ D.cc D.q
  o3 : @LT.lt Nat _ D.q D.td
  o4 : @LT.lt Nat _ D.td D.tb
  o5 : @LT.lt Nat _ D.tb D.bn
  o6 : @LT.lt Nat _ D.bn D.lk
  o7 : @LT.lt Nat _ D.lk D.rl
  o8 : @LT.lt Nat _ 103 D.L ∧ D.cc ≠ D.L ∧ D.cc ≠ D.L + 1 ∧ D.cc ≠ D.L + 2 ∧ D.cc ≠ D.L + 3 ∧ D.cc ≠ D.L + 4

theorem LOrd.le {D : LD} (o : LOrd D) : ∀ b ∈ D.M, @LE.le Nat _ b D.lk := by
  obtain ⟨o1, o2, o3, o4, o5, o6, o7, o8, _⟩ := o
  refine fa11 ?_ ?_ ?_ ?_ ?_ ?_ ?_ ?_ ?_ ?_ ?_ <;> lia
theorem LOrd.ge {D : LD} (o : LOrd D) : ∀ b ∈ D.M, @LE.le Nat _ D.L b ∨ b = 103 := by
  obtain ⟨o1, o2, o3, o4, o5, o6, o7, o8, _⟩ := o
  refine fa11 ?_ ?_ ?_ ?_ ?_ ?_ ?_ ?_ ?_ ?_ ?_ <;> lia
theorem LOrd.gap {D : LD} (o : LOrd D) : ∀ a ∈ [D.L, D.L + 4, D.q, D.td, D.tb, D.bn, D.lk, 103], @LE.le Nat _ a D.L ∨ @LE.le Nat _ (D.L + 4) a := by
  obtain ⟨o1, o2, o3, o4, o5, o6, o7, o8, _⟩ := o
  exact faC (.inl (Nat.le_refl _)) (faC (.inr (Nat.le_refl _)) (faC (.inr (by lia)) (faC (.inr (by lia)) (faC (.inr (by lia)) (faC (.inr (by lia)) (faC (.inr (by lia)) (faC (.inl (by lia)) fa0)))))))
theorem LOrd.ltLk {D : LD} (o : LOrd D) : ∀ a ∈ [D.L + 4, D.td, D.tb, D.bn], @LT.lt Nat _ a D.lk := by
  obtain ⟨o1, o2, o3, o4, o5, o6, o7, o8, _⟩ := o
  refine fa4 ?_ ?_ ?_ ?_ <;> lia
theorem LOrd.apartB {D : LD} (o : LOrd D) {x : Nat} (h1 : x ∈ [D.L + 4, D.td, D.tb, D.bn]) (h2 : x ∈ [D.L, D.q, D.lk, 103]) : False := by
  obtain ⟨o1, o2, o3, o4, o5, o6, o7, o8, _⟩ := o
  have m1 : @LE.le Nat _ x D.L ∨ x = D.q ∨ x = D.lk := (fa4 (.inl (Nat.le_refl _)) (.inr (.inl rfl)) (.inr (.inr rfl)) (.inl (Nat.le_of_lt o8)) : ∀ q ∈ ([D.L, D.q, D.lk, 103] : List Nat), q ≤ D.L ∨ q = D.q ∨ q = D.lk) _ h2
  have m2 : (@LT.lt Nat _ D.L x ∧ @LT.lt Nat _ x D.q) ∨ (@LT.lt Nat _ D.q x ∧ @LT.lt Nat _ x D.lk) := (fa4 (.inl ⟨by lia, o1⟩) (.inr ⟨o3, by lia⟩) (.inr ⟨Nat.lt_trans o3 o4, Nat.lt_trans o5 o6⟩) (.inr ⟨Nat.lt_trans o3 (Nat.lt_trans o4 o5), o6⟩) : ∀ q ∈ ([D.L + 4, D.td, D.tb, D.bn] : List Nat), (D.L < q ∧ q < D.q) ∨ (D.q < q ∧ q < D.lk)) _ h1
  clear h1 h2 o2
  lia
theorem LOrd.apartT {D : LD} (o : LOrd D) {x : Nat} (h1 : x ∈ [D.L + 4, D.td, D.tb, D.bn, D.lk, 103]) (h2 : x ∈ [D.L, D.L + 1, D.L + 2, D.L + 3, D.q]) : False := by
  obtain ⟨o1, o2, o3, o4, o5, o6, o7, o8, _⟩ := o
  have m1 : (@LE.le Nat _ D.L x ∧ @LE.le Nat _ x (D.L + 3)) ∨ x = D.q := (fa5 (.inl ⟨Nat.le_refl _, by lia⟩) (.inl ⟨by lia, by lia⟩) (.inl ⟨by lia, by lia⟩) (.inl ⟨by lia, by lia⟩) (.inr rfl) : ∀ q ∈ ([D.L, D.L + 1, D.L + 2, D.L + 3, D.q] : List Nat), (D.L ≤ q ∧ q ≤ D.L + 3) ∨ q = D.q) _ h2
  have m2 : x = D.L + 4 ∨ @LT.lt Nat _ D.q x ∨ x = 103 := (fa6 (.inl rfl) (.inr (.inl o3)) (.inr (.inl (Nat.lt_trans o3 o4))) (.inr (.inl (Nat.lt_trans o3 (Nat.lt_trans o4 o5)))) (.inr (.inl (Nat.lt_trans o3 (Nat.lt_trans o4 (Nat.lt_trans o5 o6))))) (.inr (.inr rfl)) : ∀ q ∈ ([D.L + 4, D.td, D.tb, D.bn, D.lk, 103] : List Nat), q = D.L + 4 ∨ D.q < q ∨ q = 103) _ h1
  clear h1 h2 o2 o3 o4 o5 o6 o7
  lia
theorem LOrd.leLk {D : LD} (o : LOrd D) : @LE.le Nat _ D.L D.lk := by
  obtain ⟨o1, o2, o3, o4, o5, o6, o7, o8, _⟩ := o
  clear o2 o7 o8
  lia
theorem notM {D : LD} {nu a : Nat} (o : LOrd D) (h1 : @LT.lt Nat _ D.lk a) (h2 : a ≠ nu) : a ∉ ([nu] ++ D.M) := nmC h2 fun q => absurd (o.le _ q) (Nat.not_le.mpr h1)
/-- what holds from the rows on: what is frozen, the pot, the cells; X: further addresses that may change -/
structure LawC (w : World) (gh h : Heap) (D : LD) (X : List Nat) : Prop where
  sub : Sub gh h
  above : gh.objs.size ≤ D.L
  ord : LOrd D
  g103 : gh.get? 103 = none
  gcc : gh.get? D.cc = none
  xs : ∀ x ∈ X, @LT.lt Nat _ D.lk x ∧ x ≠ D.rl
  cpot : CellH h (D.L + 1) (.ref D.q)
  ctab : CellH h (D.L + 2) (.ref D.tb)
  cll : CellH h (D.L + 3) (.ref D.rl)
  hpg : PotG (hideAll h (X ++ D.M)) D.cc D.cs D.ns
  rlo : (hideAll h (X ++ D.M)).get? D.rl = some (lstO D.rvs D.rn)
  rws : RowsAt (hideAll h (X ++ D.M)) D.rows D.rvs
  rlen : D.rows.length = 5
  good : ∀ r ∈ D.rows, r.Good
section
variable {w : World} {gh h h' : Heap} {D : LD} {X Y av : List Nat}
theorem LawC.gn (x : LawC w gh h D X) {a : Nat} (ha : D.L ≤ a) : gh.get? a = none := fresh_self (Nat.le_trans x.above ha)
theorem LawC.gM (x : LawC w gh h D X) {a : Nat} (ha : a ∈ X ++ D.M) : gh.get? a = none := by
  rcases List.mem_append.mp ha with ha | ha
  · exact x.gn (Nat.le_trans ((x.ord.ge D.lk (by k_mem)).elim id fun e => absurd (x.ord.le D.q (by k_mem)) (by obtain ⟨o1, _, _, _, _, _, _, o8, _⟩ := x.ord; lia)) (Nat.le_of_lt (x.xs _ ha).1))
  · rcases x.ord.ge _ ha with e | e
    · exact x.gn e
    · rw [e]; exact x.g103
theorem LawC.subM (x : LawC w gh h D X) : Sub gh (hideAll h (X ++ D.M)) := fun b o e => hideAll_get _ (x.sub b o e) fun q => by first | exact nS (x.gM q) e | (rw [x.gM q] at e; cases e)
theorem LawC.hide (x : LawC w gh h D X) (kb : KB av h h') (hav : ∀ a ∈ av, a ∈ X ++ D.M ∨ h.get? a = none) (hY : ∀ y ∈ Y, y ∈ X ∨ h.get? y = none) : Sub (hideAll h (X ++ D.M)) (hideAll h' (Y ++ D.M)) := by
  refine hide_sub2 (M := X ++ D.M) (fun b o nb e => kb b o (fun q => ?_) e) fun b hb => ?_
  · rcases hav b q with q | q
    · exact nb q
    · first | exact nS (q) e | (rw [q] at e; cases e)
  · rcases List.mem_append.mp hb with q | q
    · rcases hY b q with q | q
      · exact .inl (List.mem_append_left _ q)
      · exact .inr q
    · exact .inl (List.mem_append_right _ q)
theorem LawC.cell (x : LawC w gh h D X) (kb : KB av h h') (hav : ∀ a ∈ av, a ∈ X ++ [D.L, D.L + 4, D.q, D.td, D.tb, D.bn, D.lk, 103] ∨ h.get? a = none) {i : Nat} (h1 : 1 ≤ i) (h3 : i ≤ 3) {v : Value} (c : CellH h (D.L + i) v) : CellH h' (D.L + i) v := by
  obtain ⟨o, a, b⟩ := c
  refine ⟨o, kb _ _ (fun q => ?_) a, b⟩
  obtain ⟨o1, o2, o3, o4, o5, o6, o7, o8⟩ := x.ord
  rcases hav _ q with q | q
  · rcases List.mem_append.mp q with q | q
    · have := (x.xs _ q).1; clear hav a b kb; lia
    · exact (x.ord.gap _ q).elim (fun e => absurd e (by clear hav a b kb; lia)) fun e => absurd e (by clear hav a b kb; lia)
  · first | exact nS (q) a | (rw [q] at a; cases a)
theorem LawC.step (x : LawC w gh h D X) (kb : KB av h h') (hav : ∀ a ∈ av, a ∈ X ++ [D.L, D.L + 4, D.q, D.td, D.tb, D.bn, D.lk, 103] ∨ h.get? a = none) (hY : ∀ y ∈ Y, y ∈ X ∨ (h.get? y = none ∧ @LT.lt Nat _ D.lk y ∧ y ≠ D.rl)) : LawC w gh h' D Y := by
  have hav' : ∀ a ∈ av, a ∈ X ++ D.M ∨ h.get? a = none := fun a ha => (hav a ha).imp (fun q => by
    rcases List.mem_append.mp q with q | q
    · exact List.mem_append_left _ q
    · exact List.mem_append_right _ ((by k_mem : ∀ q ∈ [D.L, D.L + 4, D.q, D.td, D.tb, D.bn, D.lk, 103], q ∈ D.M) _ q)) id
  have hs : Sub (hideAll h (X ++ D.M)) (hideAll h' (Y ++ D.M)) := x.hide kb hav' fun y hy => (hY y hy).imp id (·.1)
  refine ⟨fun b o e => kb b o (fun q => ?_) (x.sub b o e), x.above, x.ord, x.g103, x.gcc, fun y hy => ?_, x.cell kb hav (by lia) (by lia) x.cpot, x.cell kb hav (by lia) (by lia) x.ctab, x.cell kb hav (by lia) (by lia) x.cll, ⟨isListUp hs x.hpg.hc, x.hpg.hi, x.hpg.hlen⟩, hs _ _ x.rlo, x.rws.sub hs, x.rlen, x.good⟩
  · rcases hav' b q with q | q
    · first | exact nS (x.gM q) e | (rw [x.gM q] at e; cases e)
    · first | exact nS (x.sub b o e) q | (rw [x.sub b o e] at q; cases q)
  · rcases hY y hy with q | ⟨_, q⟩
    · exact x.xs y q
    · exact q
end
/-- the table's own objects, as they stand before the default's turn -/
structure LawT (w : World) (h hz : Heap) (D : LD) (nu i : Nat) : Prop where
  t103 : h.get? 103 = some (tabObj #[])
  tbo : h.get? D.tb = some (instObj 80 D.td)
  tdo : ∃ (t1 t2 t3 t : Tok) (tn : Nat) (no : Obj), h.get? D.td = some (tabO w t1 t2 t3 D.bn D.lk nu tn) ∧ h.get? nu = some no ∧ TDo Pg w no [([0, 0, 0, 0, 0, 0], 15, .int 0 t)] ∧ (nu == sysModules) = false
  lko : ∃ (n0 : Nat), h.get? D.lk = some (lstO [.ref 15] n0)
  bno : ∃ bo, h.get? D.bn = some bo ∧ NamesK w hz bo (rowF D.rows ⟨[0, 0, 0, 0, 0, 0].map some, []⟩ i) i
  c4 : ∃ o v₀, h.get? (D.L + 4) = some o ∧ o.data = .cell v₀
inductive LawTx (w : World) (h hz : Heap) (D : LD) (nu i : Nat) : Prop
  | mk (b1 : h.get? 103 = some (tabObj #[])) (b2 : h.get? D.tb = some (instObj 80 D.td)) (t1 t2 t3 t : Tok) (tn : Nat) (no : Obj) (c1 : h.get? D.td = some (tabO w t1 t2 t3 D.bn D.lk nu tn)) (c2 : h.get? nu = some no) (c3 : TDo Pg w no [([0, 0, 0, 0, 0, 0], 15, .int 0 t)]) (c4 : (nu == sysModules) = false)
      (n0 : Nat) (b4 : h.get? D.lk = some (lstO [.ref 15] n0)) (bo : Obj) (d1 : h.get? D.bn = some bo) (kvs : List (Str × Value)) (d2 : bo.IsDictOf (strKind Pg w) kvs) (d3 : kvs.length ≤ i + 1) (d4 : ∀ x, (rowF D.rows ⟨[0, 0, 0, 0, 0, 0].map some, []⟩ i x).isSome = true → x ∈ names6)
      (d5 : ∀ x, (rowF D.rows ⟨[0, 0, 0, 0, 0, 0].map some, []⟩ i x = none ∧ valueAt kvs x = none) ∨ ∃ f a, rowF D.rows ⟨[0, 0, 0, 0, 0, 0].map some, []⟩ i x = some f ∧ f.Good ∧ valueAt kvs x = some (.ref a) ∧ FaceAt w hz a f) (oc4 : Obj) (vc4 : Option Value) (b6 : h.get? (D.L + 4) = some oc4) (b7 : oc4.data = .cell vc4)
theorem LawT.all {w : World} {h hz : Heap} {D : LD} {nu i : Nat} (x : LawT w h hz D nu i) : LawTx w h hz D nu i := by
  obtain ⟨b1, b2, ⟨t1, t2, t3, t, tdn, no, c1, c2, c3, c4⟩, ⟨n0, b4⟩, ⟨bo, d1, kvs, d2, d3, d4, d5⟩, ⟨oc4, vc4, b6, b7⟩⟩ := x
  exact .mk b1 b2 t1 t2 t3 t tdn no c1 c2 c3 c4 n0 b4 bo d1 kvs d2 d3 d4 d5 oc4 vc4 b6 b7
def PotK (h : Heap) (D : LD) (k : Nat) : Prop := ∃ po, h.get? D.q = some po ∧ PotO D.cc k po
theorem LawT.step {w : World} {gh h h' : Heap} {D : LD} {X Y av : List Nat} {nu i : Nat} (x : LawT w h (hideAll h (X ++ D.M)) D nu i) (c : LawC w gh h D X) (kb : KB av h h') (hav : ∀ a ∈ av, a ∈ X ++ [D.L, D.L + 1, D.L + 2, D.L + 3, D.q] ∨ h.get? a = none) (hnu : nu ∉ av) (hY : ∀ y ∈ Y, y ∈ X ∨ h.get? y = none) :
    LawT w h' (hideAll h' (Y ++ D.M)) D nu i := by
  obtain ⟨o1, o2, o3, o4, o5, o6, o7, o8⟩ := id c.ord
  have hav' : ∀ a ∈ av, a ∈ X ++ D.M ∨ h.get? a = none := fun a ha => (hav a ha).imp (fun q => by
    rcases List.mem_append.mp q with q | q
    · exact List.mem_append_left _ q
    · exact List.mem_append_right _ ((by k_mem : ∀ q ∈ [D.L, D.L + 1, D.L + 2, D.L + 3, D.q], q ∈ D.M) _ q)) id
  have hs : Sub (hideAll h (X ++ D.M)) (hideAll h' (Y ++ D.M)) := c.hide kb hav' hY
  have up : ∀ {a : Nat} {o : Obj}, a ∈ [D.L + 4, D.td, D.tb, D.bn, D.lk, 103] → h.get? a = some o → h'.get? a = some o := fun {a o} ha e => kb _ _ (fun q => by
    rcases hav _ q with q | q
    · rcases List.mem_append.mp q with q | q
      · exact absurd (c.ord.le _ ((by k_mem : ∀ q ∈ [D.L + 4, D.td, D.tb, D.bn, D.lk, 103], q ∈ D.M) _ ha)) (Nat.not_le.mpr (c.xs _ q).1)
      · exact (c.ord.apartT ha q).elim
    · first | exact nS (q) e | (rw [q] at e; cases e)) e
  obtain ⟨a1, a2, ⟨t1, t2, t3, t, tn, no, b1, b2, b3⟩, ⟨n0, a4⟩, ⟨bo, c1, c2⟩, ⟨oc, vc, d1, d2⟩⟩ := x
  exact ⟨up (by first | k_mem | simp) a1, up (by first | k_mem | simp) a2, ⟨t1, t2, t3, t, tn, no, up (by first | k_mem | simp) b1, kb _ _ hnu b2, b3⟩, ⟨n0, up (by first | k_mem | simp) a4⟩, ⟨bo, up (by first | k_mem | simp) c1, c2.up hs⟩, ⟨oc, vc, up (by first | k_mem | simp) d1, d2⟩⟩
theorem PotK.step {w : World} {gh h h' : Heap} {D : LD} {X av : List Nat} {k : Nat} (x : PotK h D k) (c : LawC w gh h D X) (kb : KB av h h') (hav : D.q ∉ av) : PotK h' D k := let ⟨po, a, b⟩ := x; ⟨po, kb _ _ hav a, b⟩
end Mine

end
section
open PySem PySem.Spec PySem.Calls PySem.W PyProof.Rows
set_option Elab.async false
set_option linter.unusedVariables false
set_option maxRecDepth 100000
namespace Mine
theorem kxLc2 : True := by
  k_with_none
  k_with "ne" => (refine neN ?_; (try dsimp only); first | with_reducible assumption | exact Ne.symm (by with_reducible assumption) | exact Nat.ne_of_lt (by with_reducible assumption) | exact Nat.ne_of_gt (by with_reducible assumption) | lia)
  k_with "mem" => first | exact List.Mem.head _ | (refine' List.Mem.tail _ ?_; k_mem) | exact nm0 | (refine nmC ?_ ?_; k_ne; k_mem) | (refine inL ?_; k_mem) | exact fa0 | (refine faC ?_ ?_; k_mem; k_mem)
  trivial

/-- an object that is no tuple and holds no text of code -/
def Far (o : Obj) : Prop := (∀ xs n, o.cls = .type "tuple" → o.data = .seq xs n → False) ∧ NoStr o
theorem tupHide {av : List Nat} {h : Heap} {a : Nat} {items : Array Value} (x : h.IsTuple a items) (n : ∀ b ∈ av, ∀ o, h.get? b = some o → Far o) : (hideAll h av).IsTuple a items := by
  obtain ⟨o, ho, hc, k, hd⟩ := x
  exact ⟨o, hideAll_get _ ho fun q => (n _ q o ho).1 _ _ hc hd, hc, k, hd⟩
theorem lookHide {av : List Nat} {h : Heap} {ks : List Int} {v : Value} (x : LookAt h ks v) (n : ∀ b ∈ av, ∀ o, h.get? b = some o → Far o) : LookAt (hideAll h av) ks v := by
  obtain ⟨a, vs, e, x, y⟩ := x
  exact ⟨a, vs, e, tupHide x n, y⟩
theorem keyHide {w : World} {av : List Nat} {h : Heap} {ks : List Int} {a : Nat} (x : KeyI w h ks a) (n : ∀ b ∈ av, ∀ o, h.get? b = some o → Far o) : KeyI w (hideAll h av) ks a := by
  obtain ⟨o, items, n', ho, hc, hd, r⟩ := x
  exact ⟨o, items, n', hideAll_get _ ho fun q => (n _ q o ho).1 _ _ hc hd, hc, hd, r⟩
theorem numHide {w : World} {av : List Nat} {h : Heap} {looks : List (List Int)} {xs} (x : NumX w h looks xs) (n : ∀ b ∈ av, ∀ o, h.get? b = some o → Far o) : NumX w (hideAll h av) looks xs :=
  ⟨x.keys, fun y hy => keyHide (x.at_ y hy) n, x.val⟩
theorem lookSub {g h : Heap} {ks : List Int} {v : Value} (s : Sub g h) (x : LookAt g ks v) : LookAt h ks v := let ⟨a, vs, e, x, y⟩ := x; ⟨a, vs, e, tupSub s x, y⟩
theorem numSub {w : World} {g h : Heap} {looks : List (List Int)} {xs} (s : Sub g h) (x : NumX w g looks xs) : NumX w h looks xs := ⟨x.keys, fun y hy => IsTupleKey.up (x.at_ y hy) s, x.val⟩
end Mine

end
section
open PySem PySem.Spec PySem.Calls PySem.W PyProof.Rows
set_option Elab.async false
set_option linter.unusedVariables false
set_option maxRecDepth 100000
namespace Mine
theorem kxLc3 : True := by
  k_with_none
  k_with "ne" => (refine neN ?_; (try dsimp only); first | with_reducible assumption | exact Ne.symm (by with_reducible assumption) | exact Nat.ne_of_lt (by with_reducible assumption) | exact Nat.ne_of_gt (by with_reducible assumption) | lia)
  k_with "mem" => first | exact nm0 | (refine nmC ?_ ?_; k_ne; k_mem) | (refine inL ?_; k_mem) | exact fa0 | (refine faC ?_ ?_; k_mem; k_mem)
  trivial
/-- [elt for y in l], where elt may change the objects at md -/
theorem list_compD0 {w : World} {A : Around} {env : Env} {elt : Expr} {y : Str} {py : Pos} {scope : Scope} {cl : List (Str × Addr)} {hp : Heap} {G : Array GenState} {Dr : Drawn} {t0 : Nat} {O : OsState} {l n : Nat} {vs : List Value} {md : List Nat}
    {fn : Nat → List Value → Nat → List Nat → Heap → Nat → Prop} (J : Nat → List Value → Heap → Prop)
    (hh : A.handled = none) (hl : hp.get? l = some (lstO vs n)) (hb : vs.length ≤ 100) (hmd : ∀ b ∈ md, b < hp.objs.size ∧ b ≠ l) (hJ0 : J 0 [] hp)
    (hJ : ∀ i ys h h', J i ys h → KB [hp.objs.size, hp.objs.size + 1, hp.objs.size + 2] h h' → J i ys h')
    (turn : ∀ i v ys h tk m₁, vs[i]? = some v → J i ys h → h.Ns (hp.objs.size + 2) m₁ → KB md hp h → (∀ b ∈ [hp.objs.size, hp.objs.size + 1, hp.objs.size + 2], ∃ o, h.get? b = some o ∧ Far o) →
      wpAny (model Pg w) A (assign (.Name y py) (compEnvC scope cl (hp.objs.size + 2) env) v) (fun _ s₂ => wpAny (model Pg w) A (eval elt (compEnvC scope cl (hp.objs.size + 2) env)) (CallEnd (hp.objs.size + 2) md (J (i + 1)) G Dr O h ys) Nv s₂) Nv ⟨h, G, Dr, tk, O⟩)
    (fin : ∀ zs av h' tk', J vs.length zs h' → h'.PlainList (hp.objs.size + 1) (List.toArray zs) → KB md hp h' → fn (hp.objs.size + 1) zs (hp.objs.size + 2) av h' tk') :
    CompAtD Pg w A env elt (.Name y py) [] scope cl ⟨(hp.push { cls := .type "list_iterator", dict := none, data := .fields #[Value.ref l, .int 0 0] }), G, Dr, t0, O⟩ (.ref hp.objs.size) fn := by
  have llt : l < hp.objs.size := ltSz hl
  generalize hH : hp.push { cls := .type "list_iterator", dict := none, data := .fields #[Value.ref l, .int 0 0] } = h0
  have sz0 : h0.objs.size = hp.objs.size + 1 := by rw [← hH, Heap.size_push]
  have sub0 : Sub hp h0 := fun b o e => hH ▸ Heap.get?_push_of_some _ e
  have itg : h0.get? hp.objs.size = some { cls := .type "list_iterator", dict := none, data := .fields #[Value.ref l, .int 0 0] } := hH ▸ Heap.get?_push_size _ rfl
  refine ⟨hp.objs.size, _, _, md, _, _, _, rfl, ItS.listA hh hp.objs.size l (by lia) vs.toArray, ?_, ⟨⟨_, itg, rfl, rfl⟩, ⟨_, sub0 _ _ hl, rfl, _, rfl⟩⟩, ?_, ?_, ?_⟩
  · rw [sizeLine_eq, List.size_toArray]; lia
  · intro b hb'
    simp only [List.mem_cons, List.not_mem_nil, or_false] at hb'
    show b < h0.objs.size
    lia
  · intro b hb'
    have := hmd b hb'
    refine ⟨?_, by show b < h0.objs.size; lia⟩
    simp only [List.mem_cons, List.not_mem_nil, or_false, not_or]
    exact ⟨by lia, this.2⟩
  intro D C hD hC
  replace hD : D = h0.objs.size := hD
  replace hC : C = h0.objs.size + 1 := hC
  have kdrop : ∀ {h : Heap}, KB (md ++ [hp.objs.size]) h0 h → KB md hp h := fun {h} kb b o nb e => by
    have := ltSz e
    exact kb b o (by simp only [List.mem_append, List.mem_cons, List.not_mem_nil, or_false, not_or]; exact ⟨nb, by lia⟩) (sub0 _ _ e)
  obtain rfl : D = hp.objs.size + 1 := by lia
  obtain rfl : C = hp.objs.size + 2 := by lia
  refine ⟨fun i zs h => J i zs h, hJ 0 [] hp h0 hJ0 (KB.of_sub sub0), ?_, ?_, ?_⟩
  · intro i zs h h' hj kb
    exact hJ i zs h h' hj (kb.mono fun b hb => by simp only [List.mem_cons, List.not_mem_nil, or_false] at hb ⊢; lia)
  · rintro i v zs h tk m₁ hi hv hst hj hnsC ⟨zs', hpz⟩ hkb
    refine wpQ (turn i v zs h tk m₁ (by simpa using hv) hj hnsC (kdrop hkb) ?_) fun _ s₂ k₂ => wpAny_tests_nil ?_
    · intro b hb
      simp only [List.mem_cons, List.not_mem_nil, or_false] at hb
      rcases hb with hb | hb | hb <;> replace hb := hb.symm <;> subst hb
      · obtain ⟨⟨o', ho', hc', hd'⟩, _⟩ := hst
        exact ⟨o', ho', fun xs n hc => by rw [hc'] at hc; exact absurd hc (by decide), fun vs z t e => by first | exact nS (hd') e | (rw [hd'] at e; cases e); simp⟩
      · obtain ⟨e, hpz⟩ := hpz
        exact ⟨_, hpz, fun xs n hc => absurd hc (show (Value.type "list") ≠ .type "tuple" by decide), fun vs z t e => by cases e⟩
      · obtain ⟨oo, es, ep, a, b, _⟩ := id hnsC
        exact ⟨oo, a, (fun xs n hc hd => by first | exact nS (hd) b | (rw [hd] at b; cases b)), noStr_ns hnsC _ a⟩
    · simp only [if_true]
      exact k₂
  · rintro zs h tk hj hpl hkb
    have hj' : J vs.length zs h := by
      have hj : J vs.toArray.size zs h := hj
      rwa [List.size_toArray] at hj
    exact fin zs _ h tk hj' hpl (kdrop hkb)

/-- [elt for y in l], where elt may change the objects at md -/
theorem tup_comp {w : World} {A : Around} {env : Env} {elt : Expr} {y : Str} {py : Pos} {scope : Scope} {cl : List (Str × Addr)} {hp : Heap} {G : Array GenState} {Dr : Drawn} {t0 : Nat} {O : OsState} {l : Nat} {vs : List Value} {md : List Nat}
    {fn : Shared → Nat → List Value → Nat → List Nat → Heap → Nat → Prop} {E : Value → Shared → Prop} (J : Nat → List Value → Heap → Prop)
    (hh : A.handled = none) (hl : hp.IsTuple l vs.toArray) (hb : vs.length ≤ 100) (hmd : ∀ b ∈ md, b < hp.objs.size ∧ b ≠ l) (hJ0 : J 0 [] hp)
    (hJ : ∀ i ys h h' (av : List Nat), (∀ b ∈ av, hp.objs.size ≤ b) → J i ys h → KB av h h' → J i ys h')
    (turn : ∀ (C : Nat) i v ys h tk m₁, hp.objs.size ≤ C → vs[i]? = some v → J i ys h → h.Ns C m₁ → KB md hp h →
      wpAny (model Pg w) A (assign (.Name y py) (compEnvC scope cl C env) v) (fun _ s₂ => wpAny (model Pg w) A (eval elt (compEnvC scope cl C env)) (CallEnd C md (J (i + 1)) G Dr O h ys) Nv s₂) Nv ⟨h, G, Dr, tk, O⟩)
    (fin : ∀ h2 zs (D C : Nat) av h' tk', hp.objs.size ≤ D → hp.objs.size ≤ C → D ≠ C → J vs.length zs h' → h'.PlainList D (List.toArray zs) → KB md hp h' → fn ⟨h2, G, Dr, t0, O⟩ D zs C av h' tk') :
    wpAny (model Pg w) A (pyIter (.ref l)) (fun it s₂ => CompAt Pg w A env elt (.Name y py) [] scope cl s₂ it (fn s₂)) E ⟨hp, G, Dr, t0, O⟩ := by
  have llt : l < hp.objs.size := (by obtain ⟨o, e, _⟩ := hl; exact ltSz e)
  refine wpAny_pyIter_tuple (s := ⟨hp, G, Dr, t0, O⟩) hl ?_
  dsimp only
  generalize hH : hp.push { cls := .type "tuple_iterator", dict := none, data := .fields #[Value.ref l, .int 0 0] } = h0
  have sz0 : h0.objs.size = hp.objs.size + 1 := by rw [← hH, Heap.size_push]
  have sub0 : Sub hp h0 := fun b o e => hH ▸ Heap.get?_push_of_some _ e
  have itg : h0.get? hp.objs.size = some { cls := .type "tuple_iterator", dict := none, data := .fields #[Value.ref l, .int 0 0] } := hH ▸ Heap.get?_push_size _ rfl
  refine ⟨hp.objs.size, _, _, md, _, _, _, rfl, ItS.tupleA hh hp.objs.size l (by lia) vs.toArray, ?_, ⟨⟨_, itg, rfl, rfl⟩, tupSub sub0 hl⟩, ?_, ?_, ?_⟩
  · rw [sizeLine_eq, List.size_toArray]; lia
  · intro b hb'
    simp only [List.mem_cons, List.not_mem_nil, or_false] at hb'
    show b < h0.objs.size
    lia
  · intro b hb'
    have := hmd b hb'
    refine ⟨?_, by show b < h0.objs.size; lia⟩
    simp only [List.mem_cons, List.not_mem_nil, or_false, not_or]
    exact ⟨by lia, this.2⟩
  intro D C hD hC
  replace hD : D = h0.objs.size := hD
  replace hC : C = h0.objs.size + 1 := hC
  have kdrop : ∀ {h : Heap}, KB (md ++ [hp.objs.size]) h0 h → KB md hp h := fun {h} kb b o nb e => by
    have := ltSz e
    exact kb b o (by simp only [List.mem_append, List.mem_cons, List.not_mem_nil, or_false, not_or]; exact ⟨nb, by lia⟩) (sub0 _ _ e)
  refine ⟨fun i zs h => J i zs h, hJ 0 [] hp h0 [] (by first | k_mem | simp) hJ0 (KB.of_sub sub0), ?_, ?_, ?_⟩
  · intro i zs h h' hj kb
    refine hJ i zs h h' _ (fun b hb' => ?_) hj kb
    simp only [List.mem_cons, List.not_mem_nil, or_false] at hb'
    lia
  · rintro i v zs h tk m₁ hi hv hst hj hnsC hkb
    refine wpQ (turn C i v zs h tk m₁ (by lia) (by simpa using hv) hj hnsC (kdrop hkb)) fun _ s₂ k₂ => wpAny_tests_nil ?_
    simp only [if_true]
    exact k₂
  · rintro zs h tk hj hpl hkb
    have hj' : J vs.length zs h := by
      have hj : J vs.toArray.size zs h := hj
      rwa [List.size_toArray] at hj
    exact fin _ zs D C _ h tk (by lia) (by lia) (by lia) hj' hpl (kdrop hkb)
end Mine

end
section
open PySem PySem.Spec PySem.Calls PySem.W PyProof.Rows
set_option Elab.async false
set_option linter.unusedVariables false
set_option maxRecDepth 100000
namespace Mine
set_option maxHeartbeats 8000000 in
theorem init2_ok {w : World} {mean : ExcName → Option Value} {mg mb : Str → Option Value} {g₀ : Heap} {s : Shared} {A : Around} {R : Result → Shared → Prop} {x dx pa pr : Nat}
    (G : Gd w mean mg mb g₀) (hs : Sub g₀ s.heap) (hx : s.heap.get? x = some (instObj 35 dx)) (hd : s.heap.get? dx = some (dictOf [] 0)) (gx : g₀.get? x = none) (gd : g₀.get? dx = none) (hxd : dx < x) (hh : A.handled = none) (hdp : A.depth < 800)
    (ret : ∀ t1 t2 h' tk', KB [dx] s.heap h' → h'.get? dx = some (faceO w t1 t2 pa pr 2) → R (.ok (.ret .none)) { s with heap := h', toks := tk' }) :
    codeAny (model Pg w) A (.call (.ref 32) ⟨[.ref x, .ref pa, .ref pr], []⟩) R s := by
  obtain ⟨X, T⟩ := G
  have hrw : PySem.Challenge.rw_np0001_01 = PySem.Challenge.rw_np0001_01 := rfl
  revert X hrw
  k_fill
  intro X hrw
  refine enter1 (own := [(x, instObj 35 dx), (dx, dictOf [] 0)]) X T hs ?ko (by k_is) (by k_is) ?kr (binds_K (X.keeps hs) rfl (by k_is) rfl rfl rfl) (locs rfl) ?kb (by decide) rfl rfl rfl
  case ko =>
    refine fa2 ?_ ?_
    · exact ⟨hx, gx⟩
    · exact ⟨hd, gd⟩
  case kr => simp only [recursionLimit]; lia
  case kb =>
    intro g L h₁ F₁ N X' T' hlt lift hsg hLs
    clear T hs
    have xL : x < L := ltN (hlt (x, _) (.head _))
    k_steps
    rename News _ _ _ _ => N5
    rename Fr _ _ _ _ => F5
    have kb := exitKB lift F5
    refine ret _ _ _ _ (fun b o nb e => ?_) (N5 _ (.tail _ (.head _))).1
    by_cases hb : b = x
    · subst hb; first | exact nS (hx) e | (rw [hx] at e; cases e); exact (N5 _ (.head _)).1
    · exact kb b o (by simp at nb; simp [hb, nb]) e

theorem use_face2 {w : World} {mean : ExcName → Option Value} {mg mb : Str → Option Value} {g : Heap} {L : Nat} {m : Str → Option Value} {s : Shared} {A : Around} {news : List (Addr × Obj)} {pa pr : Nat} {Q : Value → Shared → Prop} {E : Value → Shared → Prop}
    (X : (hd.heap_39 w.params).In g) (T : Top Vw Lo mean mg mb g) (F : Fr g L s.heap m) (N : News g L s.heap news) (hh : A.handled = none) (hdp : A.depth < 700)
    (h : ∀ (x dx : Nat) t1 t2 h' tk', Fr g L h' m → News g L h' ((x, instObj 35 dx) :: (dx, faceO w t1 t2 pa pr 2) :: news) → (∀ p ∈ news, p.1 < dx) → dx < x → Q (.ref x) { s with heap := h', toks := tk' }) :
    wpAny (model Pg w) A (call (.ref 35) [.ref pa, .ref pr]) Q E s := by
  refine wpNv ?_
  have hrw : PySem.Challenge.rw_np0001_01 = PySem.Challenge.rw_np0001_01 := rfl
  have G : Gd w mean mg mb g := ⟨X, T⟩
  revert X hrw
  k_fill
  intro X hrw
  refine call_cls (fI := 32) F X N (by k_is) (by k_is) (by k_is) fun x dx h' F' N' l1 l2 => ?_
  have l2 : (dx : Nat) < x := ltN l2
  (revert dx; intro (dx : Nat); set_option tactic.hygienic false in intros)
  (revert x; intro (x : Nat); set_option tactic.hygienic false in intros)
  refine init2_ok (dx := dx) G F'.keep (N' _ (.head _)).1 (N' _ (.tail _ (.head _))).1 (N' _ (.head _)).2.2 (N' _ (.tail _ (.head _))).2.2 l2 ?_ ?_ ?_
  · simpa [Around.under] using hh
  · rw [depth_under_make]; lia
  · intro t1 t2 h'' tk' kb hdx
    unfold InitBack
    refine ⟨rfl, ?_⟩
    refine h x dx t1 t2 h'' tk' (frKB F' kb (by simpa using (Ne.symm (N' _ (.tail _ (.head _))).2.1)) (by intro a ha; rw [List.mem_singleton.mp ha]; exact (N' _ (.tail _ (.head _))).2.2)) ?_ l1 l2
    intro p hp
    rcases List.mem_cons.mp hp with rfl | hp
    · exact ⟨kb _ _ (fun q => Nat.ne_of_gt l2 (List.mem_singleton.mp q)) (N' _ (.head _)).1, (N' _ (.head _)).2⟩
    · rcases List.mem_cons.mp hp with rfl | hp
      · exact ⟨hdx, (N' _ (.tail _ (.head _))).2⟩
      · exact ⟨kb _ _ (fun q => Nat.lt_irrefl _ (List.mem_singleton.mp q ▸ l1 p hp)) (N' p (.tail _ (.tail _ hp))).1, (N' p (.tail _ (.tail _ hp))).2⟩
end Mine

end
section
open PySem PySem.Spec PySem.Calls PySem.W PyProof.Rows
set_option Elab.async false
set_option linter.unusedVariables false
set_option maxRecDepth 100000
namespace Mine
theorem kxDl : True := by
  k_with_none
  k_with "ne" => (refine neN ?_; (try dsimp only); first | with_reducible assumption | exact Ne.symm (by with_reducible assumption) | exact Nat.ne_of_lt (by with_reducible assumption) | exact Nat.ne_of_gt (by with_reducible assumption) | lia)
  k_with "mem" => first | exact nm0 | (refine nmC ?_ ?_; k_ne; k_mem) | (refine inL ?_; k_mem) | exact fa0 | (refine faC ?_ ?_; k_mem; k_mem)
  trivial
end Mine

end
section
open PySem PySem.Spec PySem.Calls PySem.W PyProof.Rows
set_option Elab.async false
set_option linter.unusedVariables false
set_option maxRecDepth 100000
namespace Mine
theorem kxSd : True := by
  k_with_none
  k_with "ne" => (refine neN ?_; (try dsimp only); first | with_reducible assumption | exact Ne.symm (by with_reducible assumption) | exact Nat.ne_of_lt (by with_reducible assumption) | exact Nat.ne_of_gt (by with_reducible assumption) | lia)
  k_with "mem" => first | exact List.Mem.head _ | (refine' List.Mem.tail _ ?_; k_mem) | exact nm0 | (refine nmC ?_ ?_; k_ne; k_mem) | (refine inL ?_; k_mem) | exact fa0 | (refine faC ?_ ?_; k_mem; k_mem)
  trivial
inductive LookS (w : World) (h hz : Heap) (D : LD) (nu : Nat) (looks : List (List Int)) : Prop
  | mk (lv : List Value) (n : Nat) (no : Obj) (xs : List (List Int × Addr × Value)) (f1 : h.get? D.lk = some (lstO lv n)) (f2 : Are (LookAt hz) looks lv) (f3 : h.get? nu = some no) (f4 : TDo Pg w no xs) (f5 : NumX w hz looks xs) (f6 : looks.Nodup)
theorem LookS.lkLt {w : World} {h hz : Heap} {D : LD} {nu : Nat} {looks : List (List Int)} (x : LookS w h hz D nu looks) : @LT.lt Nat _ D.lk h.objs.size := by
  obtain ⟨_, _, _, _, z1, _, _, _, _, _⟩ := x
  exact ltSz z1
theorem LookS.nuGet {w : World} {h hz : Heap} {D : LD} {nu : Nat} {looks : List (List Int)} (x : LookS w h hz D nu looks) : ∃ no, h.get? nu = some no := by
  obtain ⟨_, _, no, _, _, _, z3, _, _, _⟩ := x
  exact ⟨no, z3⟩
theorem LookS.nd {w : World} {h hz : Heap} {D : LD} {nu : Nat} {looks : List (List Int)} (x : LookS w h hz D nu looks) : looks.Nodup := by
  obtain ⟨_, _, _, _, _, _, _, _, _, z⟩ := x
  exact z
/-- the law's state from the default's turn on -/
structure LawB (w : World) (h hz : Heap) (D : LD) (nu : Nat) (ks : List Int) (lt : Nat) : Prop where
  clast : CellH h (D.L + 4) (.ref lt)
  lts : ∃ lvs : List Value, hz.IsTuple lt lvs.toArray ∧ Are IntIs ks lvs
  k6 : ks.length = 6
  tbo : h.get? D.tb = some (instObj 80 D.td)
  tdo : ∃ (t1 t2 t3 : Tok) (tn : Nat), h.get? D.td = some (tabO w t1 t2 t3 D.bn D.lk nu tn)
  bno : ∃ bo, h.get? D.bn = some bo ∧ NamesO w hz bo (rowF D.rows ⟨ks.map some, []⟩ 5) names6
  nus : (nu == sysModules) = false

theorem hide_of {av : List Nat} {h : Heap} {a : Nat} {o : Obj} (e : h.get? a = some o) (n : a ∉ av) : (hideAll h av).get? a = some o := hideAll_get _ e n
theorem zeros15 {w : World} {g : Heap} (X : (hd.heap_39 w.params).In g) : ∃ vs : List Value, g.IsTuple 15 vs.toArray ∧ Are IntIs [0, 0, 0, 0, 0, 0] vs :=
  let ⟨vs, a, b⟩ := plainT X
  ⟨vs, a, Are.ints (ks := [0, 0, 0, 0, 0, 0]) b⟩
theorem lawb_none {w : World} {gh h hZ : Heap} {D : LD} {nu T0 : Nat} {zs : List Value} (X : (hd.heap_39 w.params).In gh) (hc : LawC w gh h D [nu]) (ht : LawT w h (hideAll h ([nu] ++ D.M)) D nu 5)
    (kb : KB [D.L, D.L + 4, D.q] h hZ) (hl : CellH hZ (D.L + 4) (.ref T0)) (hT0 : hZ.get? T0 = some (tupO zs)) (l : @LT.lt Nat _ D.lk T0) (hz : Are IntIs [0, 0, 0, 0, 0, 0] zs) :
    LawC w gh hZ D [nu] ∧ hZ.get? 103 = some (tabObj #[]) ∧ LawB w hZ (hideAll hZ ([nu] ++ D.M)) D nu [0, 0, 0, 0, 0, 0] T0 ∧ LookS w hZ (hideAll hZ ([nu] ++ D.M)) D nu [[0, 0, 0, 0, 0, 0]] := by
  obtain ⟨r1, r2, r3, r4, r5, r6, r7, r8⟩ := id hc.ord
  have cZ := hc.step (Y := [nu]) kb (by first | k_mem | simp) (by first | k_mem | simp)
  have hs := hc.hide (Y := [nu]) kb (by first | k_mem | simp) (by first | k_mem | simp)
  have nlk := (hc.xs nu (.head _)).1
  obtain ⟨b1, b2, ⟨t1, t2, t3, t, tdn, no, c1, c2, c3, c4⟩, ⟨n0, b4⟩, ⟨bo, d1, hN⟩, _⟩ := ht
  have nuZ := kb nu no (by first | k_mem | (simp; lia)) c2
  have nT : T0 ≠ nu := by
    rintro rfl
    rw [hT0] at nuZ
    cases nuZ
    exact clsD c3 rfl
  have h15 := zeros15 (X.keeps cZ.subM)
  obtain ⟨vs, v1, v2⟩ := h15
  refine ⟨cZ, kb _ _ (by first | k_mem | (simp; lia)) b1, ⟨hl, ⟨zs, ⟨_, hide_of hT0 (notM hc.ord l nT), rfl, _, rfl⟩, hz⟩, rfl, kb _ _ (by first | k_mem | (simp; lia)) b2, ⟨t1, t2, t3, tdn, kb _ _ (by first | k_mem | (simp; lia)) c1⟩, ⟨bo, kb _ _ (by first | k_mem | (simp; lia)) d1, (hN.up hs).toO⟩, c4⟩,
    ⟨_, n0, no, _, kb _ _ (by first | k_mem | (simp; lia)) b4, .cons ⟨15, vs, rfl, v1, v2⟩ .nil, nuZ, c3, ⟨rfl, ?_, ?_⟩, by simp⟩⟩
  · intro x hx
    obtain rfl := List.mem_singleton.mp hx
    exact keyOf v1 v2
  · intro i x hx
    match i, hx with
    | 0, hx => cases hx; exact ⟨t, rfl⟩

theorem lawb_some {w : World} {gh h hx h' hZ : Heap} {D : LD} {nu nu' T2 T3 fx' n' tn : Nat} {t1 t2 t3 tt : Tok} {zs vs : List Value} {ks : List Int} {bo' no' : Obj} {kvs : List (Str × Value)} (hc : LawC w gh h D [nu]) (ht : LawT w h (hideAll h ([nu] ++ D.M)) D nu 5)
    (d4 : ∀ x, (rowF D.rows ⟨[0, 0, 0, 0, 0, 0].map some, []⟩ 5 x).isSome = true → x ∈ names6) (d3 : kvs.length ≤ 6)
    (d5 : ∀ x, (rowF D.rows ⟨[0, 0, 0, 0, 0, 0].map some, []⟩ 5 x = none ∧ valueAt kvs x = none) ∨ ∃ f a, rowF D.rows ⟨[0, 0, 0, 0, 0, 0].map some, []⟩ 5 x = some f ∧ f.Good ∧ valueAt kvs x = some (.ref a) ∧ FaceAt w (hideAll h ([nu] ++ D.M)) a f)
    (kb1 : KB [D.L, D.L + 4, D.q] h hx) (kb2 : KB [D.tb, D.td, D.bn, D.lk] hx h')
    (e1 : h'.get? D.tb = some (instObj 80 D.td)) (e2 : h'.get? D.td = some (tabO w t1 t2 t3 D.bn D.lk nu' tn)) (e3 : h'.get? D.bn = some bo') (e4 : bo'.IsDictOf (strKind Pg w) (stored kvs (Str.ofString "default") (.ref fx')))
    (e5 : FaceAt w (hideAll h' ([D.tb, D.td, D.bn, D.lk, nu'] ++ [D.L, D.L + 1, D.L + 2, D.L + 3, D.L + 4, D.q, 103])) fx' ⟨ks.map some, []⟩)
    (e6 : h'.get? D.lk = some (lstO [.ref T2] n')) (e7 : h'.IsTuple T2 vs.toArray) (e8 : Are IntIs ks vs) (e9 : h'.get? nu' = some no') (e10 : TDo Pg w no' [(ks, T2, .int 0 tt)]) (e11 : hx.get? nu' = none) (e12 : hx.get? T2 = none) (e13 : (nu' == sysModules) = false) (e14 : @LT.lt Nat _ D.lk nu')
    (hex : ∀ a ∈ D.M, ∃ o, hx.get? a = some o)
    (kb3 : KB [D.L, D.L + 4] h' hZ) (c4 : CellH hZ (D.L + 4) (.ref T3)) (hT3 : hZ.get? T3 = some (tupO zs)) (l3 : @LT.lt Nat _ D.lk T3) (hz : Are IntIs ks zs) (k6 : ks.length = 6) :
    LawC w gh hZ D [nu'] ∧ hZ.get? 103 = some (tabObj #[]) ∧ LawB w hZ (hideAll hZ ([nu'] ++ D.M)) D nu' ks T3 ∧ LookS w hZ (hideAll hZ ([nu'] ++ D.M)) D nu' [ks] := by
  obtain ⟨r1, r2, r3, r4, r5, r6, r7, r8⟩ := id hc.ord
  have cX := hc.step (Y := [nu]) kb1 (by first | k_mem | simp) (by first | k_mem | simp)
  have hs1 := hc.hide (Y := [nu]) kb1 (by first | k_mem | simp) (by first | k_mem | simp)
  have hrl := of_hideAll _ cX.rlo
  have nrl : nu' ≠ D.rl := Ne.symm (neNone hrl e11)
  have hav2 : ∀ a ∈ [D.tb, D.td, D.bn, D.lk], a ∈ [nu] ++ [D.L, D.L + 4, D.q, D.td, D.tb, D.bn, D.lk, 103] := fun a ha => .tail _ ((by k_mem : ∀ q ∈ [D.tb, D.td, D.bn, D.lk], q ∈ [D.L, D.L + 4, D.q, D.td, D.tb, D.bn, D.lk, 103]) a ha)
  have hY2 : ∀ y ∈ [nu'], y ∈ [nu] ∨ (hx.get? y = none ∧ @LT.lt Nat _ D.lk y ∧ y ≠ D.rl) := by
    intro y hy
    obtain rfl := List.mem_singleton.mp hy
    exact .inr ⟨e11, e14, nrl⟩
  have c' := cX.step (Y := [nu']) kb2 (fun a ha => .inl (hav2 a ha)) hY2
  have hs2 := cX.hide (Y := [nu']) kb2 (fun a ha => .inl (.tail _ ((by k_mem : ∀ q ∈ [D.tb, D.td, D.bn, D.lk], q ∈ D.M) a ha))) (fun y hy => (hY2 y hy).imp id (·.1))
  have cZ := c'.step (Y := [nu']) kb3 (by first | k_mem | simp) (by first | k_mem | simp)
  have hs3 := c'.hide (Y := [nu']) kb3 (by first | k_mem | simp) (by first | k_mem | simp)
  have hs13 : Sub (hideAll h ([nu] ++ D.M)) (hideAll hZ ([nu'] ++ D.M)) := fun b o e => hs3 _ _ (hs2 _ _ (hs1 _ _ e))
  have hex0 := hex
  have t2M : T2 ∉ ([nu'] ++ D.M) := nmC (e7.elim fun o q => neCls q.1 e9 (by rw [q.2.1]; exact fun c => clsD e10 c.symm)) (fun q => (hex _ q).elim fun o ho => nS e12 ho)
  have nuZ := kb3 nu' no' (by first | k_mem | (simp; lia)) e9
  have nT : T3 ≠ nu' := neCls hT3 nuZ fun c => clsD e10 c.symm
  have e7Z : (hideAll hZ ([nu'] ++ D.M)).IsTuple T2 vs.toArray := by
    obtain ⟨o, ho, r⟩ := e7
    exact ⟨o, hs3 _ _ (hide_of ho t2M), r⟩
  have fZ : FaceAt w (hideAll hZ ([nu'] ++ D.M)) fx' ⟨ks.map some, []⟩ := e5.up fun b o e => by
    (revert b; intro (b : Nat); set_option tactic.hygienic false in intros)
    have e' := of_hideAll _ e
    have nb : b ∉ ([D.tb, D.td, D.bn, D.lk, nu', D.L, D.L + 1, D.L + 2, D.L + 3, D.L + 4, D.q, 103] : List Nat) := fun q => nS (hideAll_none _ (show b ∈ ([D.tb, D.td, D.bn, D.lk, nu'] ++ [D.L, D.L + 1, D.L + 2, D.L + 3, D.L + 4, D.q, 103]) from q)) e
    exact hide_of (kb3 b o (nmC (neMem nb (by repeat (first | exact List.Mem.head _ | refine List.Mem.tail _ ?_))) (nmC (neMem nb (by repeat (first | exact List.Mem.head _ | refine List.Mem.tail _ ?_))) nm0)) e') (by
      refine nmC ?_ (nmC ?_ (nmC ?_ (nmC ?_ (nmC ?_ (nmC ?_ (nmC ?_ (nmC ?_ (nmC ?_ (nmC ?_ (nmC ?_ (nmC ?_ nm0))))))))))) <;> exact neMem nb (by repeat (first | exact List.Mem.head _ | refine List.Mem.tail _ ?_)))
  have hvd : valueAt kvs (Str.ofString "default") ≠ none := by
    rcases d5 (Str.ofString "default") with ⟨q, _⟩ | ⟨f, a, _, _, q, _⟩
    · first | exact nS (rowF_default) q | (rw [rowF_default] at q; cases q)
    · rw [q]; simp
  have hN : NamesK w (hideAll hZ ([nu'] ++ D.M)) bo' (rowF D.rows ⟨ks.map some, []⟩ 5) 5 := by
    rw [← putF_rowF (d := ⟨[0, 0, 0, 0, 0, 0].map some, []⟩)]
    refine NamesK.put (bo := bo') d4 (fun y => ?_) e4 (by rw [stored_length_eq hvd]; exact d3) (by decide) ⟨by rw [List.length_map]; exact k6, by simp⟩ fZ
    rcases d5 y with q | ⟨f, a, q1, q2, q3, q4⟩
    · exact .inl q
    · exact .inr ⟨f, a, q1, q2, q3, q4.up hs13⟩
  have h103 := kb3 103 _ (by first | k_mem | (simp; lia)) (kb2 103 _ (by first | k_mem | (simp; lia)) (kb1 103 _ (by first | k_mem | (simp; lia)) ht.t103))
  refine ⟨cZ, h103, ⟨c4, ⟨zs, ⟨_, hide_of hT3 (notM hc.ord l3 nT), rfl, _, rfl⟩, hz⟩, k6, kb3 _ _ (by first | k_mem | (simp; lia)) e1, ⟨t1, t2, t3, tn, kb3 _ _ (by first | k_mem | (simp; lia)) e2⟩, ⟨bo', kb3 _ _ (by first | k_mem | (simp; lia)) e3, hN.toO⟩, e13⟩,
    ⟨_, n', no', _, kb3 _ _ (by first | k_mem | (simp; lia)) e6, .cons ⟨T2, vs, rfl, e7Z, e8⟩ .nil, nuZ, e10, ⟨rfl, ?_, ?_⟩, by simp⟩⟩
  · intro x hx
    obtain rfl := List.mem_singleton.mp hx
    exact keyOf e7Z e8
  · intro i x hx
    match i, hx with
    | 0, hx => cases hx; exact ⟨tt, rfl⟩
end Mine

end
section
open PySem PySem.Spec PySem.Calls PySem.W PyProof.Rows
set_option Elab.async false
set_option linter.unusedVariables false
set_option maxRecDepth 100000
namespace Mine
theorem kxSa : True := by
  k_with_none
  k_with "lt" => first | with_reducible assumption | exact And.left (by with_reducible assumption) | exact And.right (by with_reducible assumption) | exact And.left (And.right (by with_reducible assumption)) | exact And.right (And.right (by with_reducible assumption)) | exact And.left (And.right (And.right (by with_reducible assumption))) | exact And.right (And.right (And.right (by with_reducible assumption))) | exact And.left (And.right (And.right (And.right (by with_reducible assumption)))) | exact And.right (And.right (And.right (And.right (by with_reducible assumption)))) | exact And.left (And.right (And.right (And.right (And.right (by with_reducible assumption))))) | exact And.right (And.right (And.right (And.right (And.right (by with_reducible assumption))))) | exact And.left (And.right (And.right (And.right (And.right (And.right (by with_reducible assumption)))))) | exact And.right (And.right (And.right (And.right (And.right (And.right (by with_reducible assumption)))))) | exact And.left (And.right (And.right (And.right (And.right (And.right (And.right (by with_reducible assumption))))))) | exact And.right (And.right (And.right (And.right (And.right (And.right (And.right (by with_reducible assumption))))))) | exact And.left (And.right (And.right (And.right (And.right (And.right (And.right (And.right (by with_reducible assumption)))))))) | exact And.right (And.right (And.right (And.right (And.right (And.right (And.right (And.right (by with_reducible assumption)))))))) | exact And.left (And.right (And.right (And.right (And.right (And.right (And.right (And.right (And.right (by with_reducible assumption))))))))) | exact And.right (And.right (And.right (And.right (And.right (And.right (And.right (And.right (And.right (by with_reducible assumption))))))))) | exact And.left (And.right (And.right (And.right (And.right (And.right (And.right (And.right (And.right (And.right (by with_reducible assumption)))))))))) | exact And.right (And.right (And.right (And.right (And.right (And.right (And.right (And.right (And.right (And.right (by with_reducible assumption)))))))))) | exact And.left (And.right (And.right (And.right (And.right (And.right (And.right (And.right (And.right (And.right (And.right (by with_reducible assumption))))))))))) | exact And.right (And.right (And.right (And.right (And.right (And.right (And.right (And.right (And.right (And.right (And.right (by with_reducible assumption))))))))))) | exact And.left (And.right (And.right (And.right (And.right (And.right (And.right (And.right (And.right (And.right (And.right (And.right (by with_reducible assumption)))))))))))) | exact And.right (And.right (And.right (And.right (And.right (And.right (And.right (And.right (And.right (And.right (And.right (And.right (by with_reducible assumption)))))))))))) | exact And.left (And.right (And.right (And.right (And.right (And.right (And.right (And.right (And.right (And.right (And.right (And.right (And.right (by with_reducible assumption))))))))))))) | exact And.right (And.right (And.right (And.right (And.right (And.right (And.right (And.right (And.right (And.right (And.right (And.right (And.right (by with_reducible assumption))))))))))))) | exact And.left (And.right (And.right (And.right (And.right (And.right (And.right (And.right (And.right (And.right (And.right (And.right (And.right (And.right (by with_reducible assumption)))))))))))))) | exact And.right (And.right (And.right (And.right (And.right (And.right (And.right (And.right (And.right (And.right (And.right (And.right (And.right (And.right (by with_reducible assumption)))))))))))))) | exact And.left (And.right (And.right (And.right (And.right (And.right (And.right (And.right (And.right (And.right (And.right (And.right (And.right (And.right (And.right (by with_reducible assumption))))))))))))))) | exact And.right (And.right (And.right (And.right (And.right (And.right (And.right (And.right (And.right (And.right (And.right (And.right (And.right (And.right (And.right (by with_reducible assumption))))))))))))))) | exact And.left (And.right (And.right (And.right (And.right (And.right (And.right (And.right (And.right (And.right (And.right (And.right (And.right (And.right (And.right (And.right (by with_reducible assumption)))))))))))))))) | exact And.right (And.right (And.right (And.right (And.right (And.right (And.right (And.right (And.right (And.right (And.right (And.right (And.right (And.right (And.right (And.right (by with_reducible assumption)))))))))))))))) | exact And.left (And.right (And.right (And.right (And.right (And.right (And.right (And.right (And.right (And.right (And.right (And.right (And.right (And.right (And.right (And.right (And.right (by with_reducible assumption))))))))))))))))) | exact And.right (And.right (And.right (And.right (And.right (And.right (And.right (And.right (And.right (And.right (And.right (And.right (And.right (And.right (And.right (And.right (And.right (by with_reducible assumption))))))))))))))))) | exact And.left (And.right (And.right (And.right (And.right (And.right (And.right (And.right (And.right (And.right (And.right (And.right (And.right (And.right (And.right (And.right (And.right (And.right (by with_reducible assumption)))))))))))))))))) | exact And.right (And.right (And.right (And.right (And.right (And.right (And.right (And.right (And.right (And.right (And.right (And.right (And.right (And.right (And.right (And.right (And.right (And.right (by with_reducible assumption)))))))))))))))))) | exact And.left (And.right (And.right (And.right (And.right (And.right (And.right (And.right (And.right (And.right (And.right (And.right (And.right (And.right (And.right (And.right (And.right (And.right (And.right (by with_reducible assumption))))))))))))))))))) | exact And.right (And.right (And.right (And.right (And.right (And.right (And.right (And.right (And.right (And.right (And.right (And.right (And.right (And.right (And.right (And.right (And.right (And.right (And.right (by with_reducible assumption))))))))))))))))))) | exact And.left (And.right (And.right (And.right (And.right (And.right (And.right (And.right (And.right (And.right (And.right (And.right (And.right (And.right (And.right (And.right (And.right (And.right (And.right (And.right (by with_reducible assumption)))))))))))))))))))) | exact And.right (And.right (And.right (And.right (And.right (And.right (And.right (And.right (And.right (And.right (And.right (And.right (And.right (And.right (And.right (And.right (And.right (And.right (And.right (And.right (by with_reducible assumption)))))))))))))))))))) | exact And.left (And.right (And.right (And.right (And.right (And.right (And.right (And.right (And.right (And.right (And.right (And.right (And.right (And.right (And.right (And.right (And.right (And.right (And.right (And.right (And.right (by with_reducible assumption))))))))))))))))))))) | exact And.right (And.right (And.right (And.right (And.right (And.right (And.right (And.right (And.right (And.right (And.right (And.right (And.right (And.right (And.right (And.right (And.right (And.right (And.right (And.right (And.right (by with_reducible assumption))))))))))))))))))))) | exact And.left (And.right (And.right (And.right (And.right (And.right (And.right (And.right (And.right (And.right (And.right (And.right (And.right (And.right (And.right (And.right (And.right (And.right (And.right (And.right (And.right (And.right (by with_reducible assumption)))))))))))))))))))))) | exact And.right (And.right (And.right (And.right (And.right (And.right (And.right (And.right (And.right (And.right (And.right (And.right (And.right (And.right (And.right (And.right (And.right (And.right (And.right (And.right (And.right (And.right (by with_reducible assumption)))))))))))))))))))))) | exact And.left (And.right (And.right (And.right (And.right (And.right (And.right (And.right (And.right (And.right (And.right (And.right (And.right (And.right (And.right (And.right (And.right (And.right (And.right (And.right (And.right (And.right (And.right (by with_reducible assumption))))))))))))))))))))))) | exact And.right (And.right (And.right (And.right (And.right (And.right (And.right (And.right (And.right (And.right (And.right (And.right (And.right (And.right (And.right (And.right (And.right (And.right (And.right (And.right (And.right (And.right (And.right (by with_reducible assumption))))))))))))))))))))))) | exact And.left (And.right (And.right (And.right (And.right (And.right (And.right (And.right (And.right (And.right (And.right (And.right (And.right (And.right (And.right (And.right (And.right (And.right (And.right (And.right (And.right (And.right (And.right (And.right (by with_reducible assumption)))))))))))))))))))))))) | exact And.right (And.right (And.right (And.right (And.right (And.right (And.right (And.right (And.right (And.right (And.right (And.right (And.right (And.right (And.right (And.right (And.right (And.right (And.right (And.right (And.right (And.right (And.right (And.right (by with_reducible assumption))))))))))))))))))))))))
  k_with "lt2" => (apply Nat.lt_trans; rotate_left; with_reducible assumption; k_extra "lt")
  k_with "ne" => (refine neN ?_; (try dsimp only); first | with_reducible assumption | exact Ne.symm (by with_reducible assumption) | exact Nat.ne_of_lt (by k_extra "lt") | exact Nat.ne_of_gt (by k_extra "lt") | exact Nat.ne_of_lt (by k_extra "lt2") | exact Nat.ne_of_gt (by k_extra "lt2") | lia)
  k_with "mem" => first | exact nm0 | (refine nmC ?_ ?_; k_ne; k_mem) | (refine inL ?_; k_mem) | exact fa0 | (refine faC ?_ ?_; k_mem; k_mem)
  trivial
local macro_rules | `(tactic| k_all) => `(tactic| assumption)
theorem offTwo {frz : List (Addr × Obj)} {av : List Nat} {x : Nat} (off : ∀ p ∈ frz, p.1 ∉ av) (hx : x ∈ av) : ∀ p ∈ frz, p.1 ≠ x := fun p hp e => off p hp (by rw [show p.1 = x from e]; exact hx)
local macro_rules | `(tactic| k_all) => `(tactic| (refine offTwo (by assumption) ?_; simp))
theorem wSa1 : True := by
  k_with "exec For Tuple Name" => k_dflt (refine' for_rule ?_ ?hs; (case hs => intro _; with_unfolding_all rfl))
  trivial
theorem wSa2 : True := by
  k_with "unpackItems" => k_dflt (refine' unpackN ?F ?N ?hh ?hT ?hk ?_; (case hT => first | assumption | exact tupSub (Fr.keep (by k_asm)) (by assumption)); (case F => k_asm); (case N => k_asm); (case hh => rfl); (case hk => exact rfl); intro _ _ _)
  trivial
theorem wSa3 : True := by
  k_with "call ref" => k_dflt (refine' use_defineN ?X ?T ?F ?N ?hT ?U ?hbd ?hkl ?tbn ?dbn ?hnm ?hh ?hd ?hu ?_; (case X => assumption); (case T => assumption); (case F => k_asm); (case N => k_asm); (case hT => exact ⟨_, _, _, _, InstAt.of_news (by k_asm) (by k_mem) (by k_mem)⟩); (case U => k_updF); (case hbd => assumption); (case hkl => lia); (case tbn => lia); (case dbn => lia); (case hnm => assumption); (case hh => rfl); (case hd => (dsimp only [Ar, Around.deeper]; lia)); (case hu => (dsimp only [Ar, Around.deeper]; lia)); intro _ _ _ _ _ _ _)
  trivial
theorem wSa4 : True := by
  k_with "call ref" => k_dflt (refine' use_face2 ?X ?T ?F ?N ?hh ?hd ?_; (case X => assumption); (case T => assumption); (case F => k_asm); (case N => k_asm); (case hh => rfl); (case hd => (dsimp only [Ar, Around.deeper]; lia)); intro _ _ _ _ _ _ _ _ _ _)
  trivial
theorem mL_step {v1 v2 v3 : Value} {o1 o2 o3 o4 o5 o6 o7 o8 o9 : Option Value} {sc : Value} : (fun y => if y = Str.ofString "parents" then some v3 else if y = Str.ofString "part_list" then some v2 else if y = Str.ofString "name" then some v1 else mL o1 o2 o3 o4 o5 o6 o7 o8 o9 sc y) = mL (some v1) (some v2) (some v3) o4 o5 o6 o7 o8 o9 sc := by
  funext y
  by_cases h1 : y = Str.ofString "name"
  · subst h1; with_unfolding_all rfl
  by_cases h2 : y = Str.ofString "part_list"
  · subst h2; with_unfolding_all rfl
  by_cases h3 : y = Str.ofString "parents"
  · subst h3; with_unfolding_all rfl
  · simp only [mL, if_neg h1, if_neg h2, if_neg h3]
theorem mem6 {i : Nat} (h : i < 5) : chr i ∈ names6 :=
  (by decide : ∀ i ∈ List.range 5, chr i ∈ names6) i (List.mem_range.mpr h)
inductive SaJ (w : World) (gh : Heap) (L : Nat) (sc : Value) (D : LD) (I nu : Nat) (i : Nat) (h' : Heap) : Prop
  | mk (p1 p2 p3 : Option Value) (f1 : h'.Ns L (mL p1 p2 p3 none none none none none none sc)) (f2 : LawC w gh h' D [I, nu]) (f3 : PotK h' D 45) (f4 : LawT w h' (hideAll h' ([I, nu] ++ D.M)) D nu i)
set_option maxHeartbeats 8000000 in
theorem law_a {w : World} {fa : Addr} {cd : Value} {mean : ExcName → Option Value} {mg mb : Str → Option Value} {gh h : Heap} {D : LD} {Gs : Array GenState} {Dr : Drawn} {t0 : Nat} {O : OsState} {dp un nu : Nat} {fr : Option (List Env)} {gd : Option (List Code)} {Q : Flow → Shared → Prop}
    (G : Gd w mean mg mb gh) (hc : LawC w gh h D [nu]) (hp : PotK h D 45) (ht : LawT w h (hideAll h ([nu] ++ D.M)) D nu 0) (hns : h.Ns D.L (mL none none none none none none none none none D.sc)) (hdp : dp < 320) (hun : un < 300)
    (k : ∀ h' o1 o2 o3, LawC w gh h' D [nu] → PotK h' D 45 → LawT w h' (hideAll h' ([nu] ++ D.M)) D nu 5 → h'.Ns D.L (mL o1 o2 o3 none none none none none none D.sc) → ∀ tk, wpAny (model Pg w) (Ar dp un fr gd) (execs ((lawBody w).drop 3) (lawEnv w D.L fa cd)) Q Nv ⟨h', Gs, Dr, tk, O⟩) :
    wpAny (model Pg w) (Ar dp un fr gd) (execs ((lawBody w).drop 2) (lawEnv w D.L fa cd)) Q Nv ⟨h, Gs, Dr, t0, O⟩ := by
  obtain ⟨X, T⟩ := G
  have hrw : PySem.Challenge.rw_np0001_01 = PySem.Challenge.rw_np0001_01 := rfl
  revert X hrw
  k_fill
  intro X hrw
  rw [show (lawBody w).drop 2 = _ :: (lawBody w).drop 3 by with_unfolding_all rfl]
  unfold lawEnv at k ⊢
  rw [show (lawRec w).scope = Scope.mk _ _ _ _ _ by with_unfolding_all rfl] at k ⊢
  obtain ⟨L, cc, q, td, tb, bn, lk, rl, rn, sc, cs, ns, rows, rvs⟩ := D
  obtain ⟨o1, o2, o3, o4, o5, o6, o7, o8⟩ := id hc.ord
  dsimp only at *
  obtain ⟨oll, holl, dll⟩ := id hc.cll
  dsimp only at holl dll
  obtain ⟨frz, F7, N7, off, infrz, kback⟩ := kmode (own := [(L + 3, oll)]) (g := gh) hns hc.sub hc.above (by
    exact fa1 ⟨holl, (by show L + 3 ≠ L; lia), hc.gM (by first | k_mem | simp)⟩)
  simp only [List.cons_append, List.nil_append] at N7
  refine stmtH fun Q1 k1 k2 => ?_
  k_steps
  have hrl : h.get? rl = some (lstO rvs rn) := of_hideAll _ hc.rlo
  refine wpAny_pyIter_list ⟨_, hrl, rfl, _, rfl⟩ ?_
  dsimp only
  obtain ⟨nlk, nrl⟩ := hc.xs nu (.head _)
  have nuI : nu < h.objs.size := (ht.tdo.elim fun _ x => x.elim fun _ x => x.elim fun _ x => x.elim fun _ x => x.elim fun _ x => x.elim fun _ q => ltSz q.2.1)
  dsimp only at nlk nrl
  generalize hI : h.objs.size = I
  have rlI : rl < h.objs.size := ltSz hrl
  have LI : L < h.objs.size := F7.ns.lt
  generalize hP : h.push _ = hP0
  have subP : Sub h hP0 := fun b o e => hP ▸ Heap.get?_push_of_some _ e
  have fI : h.get? I = none := fresh_self (Nat.le_of_eq hI)
  have hcI : LawC w gh hP0 (LD.mk L cc q td tb bn lk rl rn sc cs ns rows rvs) [I, nu] := hc.step (KB.of_sub (av := []) subP) (by first | k_mem | simp) (by
    refine fa2 ?_ ?_
    · exact .inr ⟨fI, by show lk < I; lia, by show I ≠ rl; lia⟩
    · exact .inl (.head _))
  have hpI : PotK hP0 (LD.mk L cc q td tb bn lk rl rn sc cs ns rows rvs) 45 := hp.step hc (KB.of_sub (av := []) subP) (by first | k_mem | simp)
  have htI : LawT w hP0 (hideAll hP0 ([I, nu] ++ (LD.M (LD.mk L cc q td tb bn lk rl rn sc cs ns rows rvs)))) (LD.mk L cc q td tb bn lk rl rn sc cs ns rows rvs) nu 0 := ht.step hc (KB.of_sub (av := []) subP) (by first | k_mem | simp) (by first | k_mem | simp) (by
    refine fa2 ?_ ?_
    · exact .inr fI
    · exact .inl (.head _))
  refine ⟨I, [I, rl], [I], [bn], _, _, _, SaJ w gh L sc (LD.mk L cc q td tb bn lk rl rn sc cs ns rows rvs) I nu, rfl, ItS.listA rfl I rl (by lia) rvs.toArray, ?_, ?_, ?_, ?_, ?_, ?_, ?_⟩
  · rw [← hP, ← hI]
    exact ⟨⟨_, Heap.get?_push_size _ rfl, rfl, rfl⟩, ⟨_, Heap.get?_push_of_some _ hrl, rfl, _, rfl⟩⟩
  · intro b hb; rw [List.mem_singleton.mp hb]; first | k_mem | (simp only [List.mem_cons, List.not_mem_nil, or_false, not_or]; lia)
  · show L ∉ [I, rl]; first | k_mem | (simp only [List.mem_cons, List.not_mem_nil, or_false, not_or]; lia)
  · exact ⟨none, none, none, hns.at' fun o e => subP _ _ e, hcI, hpI, htI⟩
  · rintro i h1 h2 ⟨p1, p2, p3, a1, a2, a3, a4⟩ kb
    exact ⟨p1, p2, p3, a1.at' fun o e => kb _ _ (by first | k_mem | (simp; lia)) e, a2.step kb (by first | k_mem | simp) (by first | k_mem | simp), a3.step a2 kb (by first | k_mem | (simp; lia)), a4.step a2 kb (by first | k_mem | simp) (by first | k_mem | (simp; lia)) (by first | k_mem | simp)⟩
  · intro i v h1 tk hi hvi hst hPt7 hkb
    refine turnQ fun Qc kc => ?_
    obtain ⟨p1, p2, p3, a1, a2, a3, a4⟩ := hPt7
    clear hkb hc hp ht hcI hpI htI kback infrz off F7 N7 hns k1 k2
    have hi5 : i < rows.length := by rw [← a2.rws.1]; simpa using hi
    have hi5' : i < 5 := by have := a2.rlen; dsimp only at this; lia
    obtain ⟨v', hv', a, pa, pr, tn, xs, ys, rfl, e2, e3, e4, e5, e6⟩ := a2.rws.2 i _ (List.getElem?_eq_getElem hi5)
    obtain rfl : Value.ref a = v := by rw [List.getElem?_toArray, hv'] at hvi; exact Option.some.inj hvi
    have e2' := tupSub hide_self e2
    obtain ⟨b1, b2, t1, t2, t3, t, tdn, no, c1, c2, c3, c3b, n0, b4, bo, d1, kvs, d2, d3, d4, d5, oc4, vc4, b6, b7⟩ := a4.all
    obtain ⟨otab, hotab, dtab⟩ := id a2.ctab
    dsimp only at b1 b2 c1 c2 b4 d1 d2 d3 d4 d5 hotab dtab
    obtain ⟨frz, F7, N7, off, infrz, kback⟩ := kmode (own := [(L + 2, otab), (td, tabO w t1 t2 t3 bn lk nu tdn), (tb, instObj 80 td), (bn, bo)]) (g := gh) a1 a2.sub a2.above (by
      refine fa4 ?_ ?_ ?_ ?_
      · exact ⟨hotab, (by show L + 2 ≠ L; lia), a2.gM (by first | k_mem | simp)⟩
      · exact ⟨c1, (by show td ≠ L; lia), a2.gM (by first | k_mem | simp)⟩
      · exact ⟨b2, (by show tb ≠ L; lia), a2.gM (by first | k_mem | simp)⟩
      · exact ⟨d1, (by show bn ≠ L; lia), a2.gM (by first | k_mem | simp)⟩)
    simp only [List.cons_append, List.nil_append] at N7
    have hnm := chr_ne_default i
    k_steps
    rename_i hq1 hq2 hq3 hq4 F8 N8 x' d' u1 u2 hx tkx F9 N9 lnew l2
    have lbn : (bn : Nat) < d' := ltN (lnew (bn, bo) (by k_mem))
    have ltb : (tb : Nat) < d' := ltN (lnew (tb, _) (by k_mem))
    have ltd : (td : Nat) < d' := ltN (lnew (td, _) (by k_mem))
    have lc2 : (L + 2 : Nat) < d' := ltN (lnew (L + 2, _) (by k_mem))
    have kl6 : kvs.length ≤ 6 := by lia
    clear F8 N8
    k_steps
    rename News _ _ _ _ => NZ
    rename Fr _ _ _ _ => FZ
    rename Obj.IsDictOf _ _ _ => hbdZ
    obtain ⟨oI, hoI, cI, _⟩ := id hst.1
    have infr : ∀ (a : Nat) o, h1.get? a = some o → a ∉ ([L, L + 2, td, tb, bn] : List Nat) → gh.get? a = none → (a, o) ∈ frz := fun a o e n g => infrz a o e (fun q => n (List.mem_cons.mpr (.inl q))) (fun q => n (List.mem_cons_of_mem _ q)) g
    have fIm := infr I oI hoI (by first | k_mem | (simp only [List.mem_cons, List.not_mem_nil, or_false, not_or]; lia)) (a2.gM (by first | k_mem | simp))
    have lI : (I : Nat) < d' := ltN (lnew (I, oI) (by simp [fIm]))
    have nuIm := infr nu no c2 (by first | k_mem | (simp only [List.mem_cons, List.not_mem_nil, or_false, not_or]; lia)) (a2.gM (by first | k_mem | simp))
    have nuZ : (nu : Nat) < d' := ltN (lnew (nu, no) (by simp [nuIm]))
    have hmx := (NZ (x', _) (by k_mem)).1
    have hmd := (NZ (d', _) (by k_mem)).1
    have kb0 := kback _ _ _ FZ NZ (fun p hp => by repeat (first | exact hp | refine List.Mem.tail _ ?_))
    have kb1 : KB [L, bn] h1 _ := kbKeep kb0 (fa5 (.inl (.head _)) (.inr ⟨_, hotab, (NZ (L + 2, otab) (by k_mem)).1⟩) (.inr ⟨_, c1, (NZ (_, tabO w t1 t2 t3 bn lk nu tdn) (by k_mem)).1⟩) (.inr ⟨_, b2, (NZ (_, instObj 80 _) (by k_mem)).1⟩) (.inl (.tail _ (.head _))))
    have cZ := a2.step (Y := [I, nu]) kb1 (by first | k_mem | simp) (by first | k_mem | simp)
    have hsZ := a2.hide (Y := [I, nu]) kb1 (by first | k_mem | simp) (by first | k_mem | simp)
    rename_i hZ tkZ bZ kbZ rZ
    have q1 : hZ.Ns L (mL (some (.str (chr i) tn)) (some (.ref pa)) (some (.ref pr)) none none none none none none sc) := nsEq FZ.ns mL_step
    have q2 : PotK hZ (LD.mk L cc q td tb bn lk rl rn sc cs ns rows rvs) 45 := a3.step a2 kb1 (by first | k_mem | (simp; lia))
    have q3 : NamesK w (hideAll hZ ([I, nu] ++ LD.M (LD.mk L cc q td tb bn lk rl rn sc cs ns rows rvs))) bZ (rowF rows ⟨[0, 0, 0, 0, 0, 0].map some, []⟩ (i + 1)) (i + 1) := by
      have hrw1 : rowF rows ⟨[0, 0, 0, 0, 0, 0].map some, []⟩ (i + 1) = putF (rowF rows ⟨[0, 0, 0, 0, 0, 0].map some, []⟩ i) (chr i) ⟨rows[i].parts, rows[i].parents.map chr⟩ := by
        show (match rows[i]? with | some r => putF _ (chr i) ⟨r.parts, r.parents.map chr⟩ | none => _) = _
        rw [List.getElem?_eq_getElem hi5]
      show NamesK w _ _ (rowF rows ⟨[0, 0, 0, 0, 0, 0].map some, []⟩ (i + 1)) (i + 1)
      rw [hrw1]
      have hgd := a2.good rows[i] (List.getElem_mem hi5)
      have hidZ : ∀ {a : Nat} {o : Obj}, hZ.get? a = some o → d' ≤ a → (hideAll hZ ([I, nu] ++ LD.M (LD.mk L cc q td tb bn lk rl rn sc cs ns rows rvs))).get? a = some o := fun {a o} e ha => hideAll_get _ e (nmC (by show (a : Nat) ≠ I; lia) (notM a2.ord (by show lk < a; lia) (by show (a : Nat) ≠ nu; lia)))
      refine NamesK.put (bo := bo) d4 (fun y => ?_) hbdZ (by have := stored_length_le kvs (chr i) (Value.ref x'); lia) (mem6 hi5') ⟨hgd.1, by rw [List.length_map]; exact hgd.2.1⟩ ⟨d', pa, pr, 2, u1, u2, xs, ys, ⟨hidZ hmx (by lia), rfl, rfl, hidZ hmd (by lia)⟩, tupSub hsZ e3, e4, tupSub hsZ e5, nmStr e6⟩
      rcases d5 y with q | ⟨f, a, q1, q2, q3, q4⟩
      · exact .inl q
      · exact .inr ⟨f, a, q1, q2, q3, q4.up hsZ⟩
    have q4 : LawT w hZ (hideAll hZ ([I, nu] ++ LD.M (LD.mk L cc q td tb bn lk rl rn sc cs ns rows rvs))) (LD.mk L cc q td tb bn lk rl rn sc cs ns rows rvs) nu (i + 1) := by
      refine ⟨kb1 _ _ (by first | k_mem | (simp; lia)) b1, kb1 _ _ (by first | k_mem | (simp; lia)) b2, ⟨t1, t2, t3, t, tdn, no, kb1 _ _ (by first | k_mem | (simp; lia)) c1, kb1 _ _ (by first | k_mem | (simp; lia)) c2, c3, c3b⟩, ⟨n0, kb1 _ _ (by first | k_mem | (simp; lia)) b4⟩, ⟨_, (NZ (bn, _) (by k_mem)).1, q3⟩, ⟨oc4, vc4, kb1 _ _ (by first | k_mem | (simp; lia)) b6, b7⟩⟩
    exact kc _ ⟨hZ, tkZ, rfl, kb1, _, _, _, q1, cZ, q2, q4⟩
  · rintro h1 tk ⟨p1, p2, p3, a1, a2, a3, a4⟩ _
    have hn5 : rvs.toArray.size = 5 := by have := hc.rws.1; have := hc.rlen; dsimp only at *; simp; lia
    rw [hn5] at a4
    exact k1 _ (k _ _ _ _ (a2.step (KB.refl [] _) (by first | k_mem | simp) (by first | k_mem | simp)) (a3.step a2 (KB.refl [] _) (by first | k_mem | simp)) (a4.step a2 (KB.refl [] _) (by first | k_mem | simp) (by first | k_mem | simp) (by first | k_mem | simp)) a1) _
end Mine

end
section
open PySem PySem.Spec PySem.Calls PySem.W PyProof.Rows
set_option Elab.async false
set_option linter.unusedVariables false
set_option maxRecDepth 100000
namespace Mine
theorem kxSb : True := by
  k_with_none
  k_with "ne" => (refine neN ?_; (try dsimp only); first | with_reducible assumption | exact Ne.symm (by with_reducible assumption) | exact Nat.ne_of_lt (by with_reducible assumption) | exact Nat.ne_of_gt (by with_reducible assumption) | lia)
  k_with "mem" => first | exact nm0 | (refine nmC ?_ ?_; k_ne; k_mem) | (refine inL ?_; k_mem) | exact fa0 | (refine faC ?_ ?_; k_mem; k_mem)
  trivial
local macro_rules | `(tactic| k_all) => `(tactic| assumption)
local macro_rules | `(tactic| k_all) => `(tactic| (refine offTwo (by assumption) ?_; simp))
theorem wSb1 : True := by
  k_with "call ref" => k_dflt (refine' use_dipL ?X ?T ?F ?N ?U ?hpo ?hp ?hcq ?hh ?hm ?hm2 ?hk ?hd ?hu ?_; (case X => assumption); (case T => assumption); (case F => k_asm); (case N => k_asm); (case U => k_updF); (case hpo => assumption); (case hp => exact ⟨⟨_, News.get (by k_asm) (by k_mem), by assumption, _, by assumption⟩, by assumption, by assumption⟩); (case hcq => lia); (case hh => rfl); (case hm => decide); (case hm2 => decide); (case hk => decide); (case hd => (dsimp only [Ar, Around.deeper]; lia)); (case hu => (dsimp only [Ar, Around.deeper]; lia)); intro _ _ _ _ _ _ _ _ _ _)
  trivial
theorem wSb2 : True := by
  k_with "call ref" => k_dflt (refine' use_face ?X ?T ?F ?N ?hh ?hd ?_; (case X => assumption); (case T => assumption); (case F => k_asm); (case N => k_asm); (case hh => rfl); (case hd => (dsimp only [Ar, Around.deeper]; lia)); intro _ _ _ _ _ _ _ _ _ _ _ _)
  trivial
theorem wSb3 : True := by
  k_with "eval ListComp" => k_dflt (refine' comp_eval ?hclos ?hcell ?hkind ?hnames ?_ ?hs; (case hclos => with_unfolding_all rfl); (case hcell => decide); (case hkind => with_unfolding_all rfl); (case hnames => decide); (case hs => intro _; with_unfolding_all rfl))
  trivial
theorem wSb4 : True := by
  k_with "subscriptTail" => (refine' pickL ?F ?N ?M ?h0 ?h1 ?hl ?hb ?_ ?hs ?hg; (case h0 => assumption); (case h1 => assumption); (case F => k_asm); (case N => k_asm); (case M => k_mem); (case hl => rfl); (case hb => exact Nat.le_of_ble_eq_true rfl); (case hs => with_unfolding_all rfl); (case hg => intro _; with_unfolding_all rfl); intro _ _)
  trivial
theorem wSb5 : True := by
  k_with "call type:tuple" => k_dflt (refine' tupleN ?F ?N ?M ?hz ?_; (case F => k_asm); (case N => k_asm); (case M => k_mem); (case hz => assumption); intro _ _ _ _ l1; (try k_lt l1); (first | (revert l1; intro _) | skip))
  trivial
theorem wSb6 : True := by
  k_with "call ref" => (refine' use_dip ?X ?T ?F ?N ?U ?hpo ?hp ?hh ?hm ?hm2 ?hk ?hd ?hu ?_; (case X => assumption); (case T => assumption); (case F => k_asm); (case N => k_asm); (case U => k_updF); (case hpo => assumption); (case hp => assumption); (case hh => rfl); (case hm => decide); (case hm2 => decide); (case hk => lia); (case hd => (dsimp only [Ar, Around.deeper]; lia)); (case hu => (dsimp only [Ar, Around.deeper]; lia)); intro _ _ _ _ _ _ _ _ _ _)
  trivial
theorem wSb7 : True := by
  k_with "storeName" => ((with_reducible show wpAny _ _ (storeName (compEnvC _ _ _ _) _ _) _ _ _); k_dflt (refine' storeC ?F ?N ?hC ?hx ?hk ?_; (case F => k_asm); (case N => k_asm); (case hC => with_unfolding_all rfl); (case hx => with_unfolding_all rfl); (case hk => with_unfolding_all rfl); intro _ _ _))
  trivial
theorem Are.getDs : ∀ {xs : List (Option Int)} {vs : List Value}, Are PartIs xs vs → ∀ {i : Nat} {v : Value}, vs[i]? = some v → ∃ x, xs[i]? = some x ∧ PartIs x v := fun h _ _ e => h.get' e
theorem take_snoc {α : Type} {xs : List α} {i : Nat} {x : α} (h : xs[i]? = some x) : xs.take (i + 1) = xs.take i ++ [x] := by
  rw [List.take_add_one, h]; rfl
theorem mL_pl {v : Value} {o1 o2 o3 o4 o5 o6 o7 o8 o9 : Option Value} {sc : Value} : (fun y => if y = Str.ofString "part_list" then some v else mL o1 o2 o3 o4 o5 o6 o7 o8 o9 sc y) = mL o1 (some v) o3 o4 o5 o6 o7 o8 o9 sc := by
  funext y
  by_cases h1 : y = Str.ofString "part_list"
  · subst h1; with_unfolding_all rfl
  · simp only [mL, if_neg h1]
theorem ownKB {g h h' : Heap} {L : Nat} {own news' : List (Addr × Obj)} {bv : List Nat} (k : KB (L :: own.map (·.1)) h h') (hown : ∀ p ∈ own, h.get? p.1 = some p.2 ∧ p.1 ≠ L ∧ g.get? p.1 = none) (N : News g L h' news') (hL : L ∈ bv) (hm : ∀ p ∈ own, p.1 ∈ bv ∨ p ∈ news') : KB bv h h' :=
  kbKeep k fun b hb => by
    rcases List.mem_cons.mp hb with rfl | hb
    · exact .inl hL
    · obtain ⟨p, hp, rfl⟩ := List.mem_map.mp hb
      exact (hm p hp).imp id fun q => ⟨_, (hown p hp).1, (N p q).1⟩
set_option maxHeartbeats 8000000 in
theorem law_b {w : World} {fa : Addr} {cd : Value} {mean : ExcName → Option Value} {mg mb : Str → Option Value} {gh h : Heap} {D : LD} {Gs : Array GenState} {Dr : Drawn} {t0 : Nat} {O : OsState} {dp un nu : Nat} {fr : Option (List Env)} {gd : Option (List Code)} {Q : Flow → Shared → Prop} {o1 o2 o3 : Option Value}
    (G : Gd w mean mg mb gh) (hc : LawC w gh h D [nu]) (hp : PotK h D 45) (ht : LawT w h (hideAll h ([nu] ++ D.M)) D nu 5) (hns : h.Ns D.L (mL o1 o2 o3 none none none none none none D.sc)) (hdp : dp < 320) (hun : un < 300)
    (k : ∀ h' o1 o2 o3 nu ks lt, LawC w gh h' D [nu] → PotK h' D 60 → h'.get? 103 = some (tabObj #[]) → LawB w h' (hideAll h' ([nu] ++ D.M)) D nu ks lt → LookS w h' (hideAll h' ([nu] ++ D.M)) D nu [ks] → h'.Ns D.L (mL o1 o2 o3 none none none none none none D.sc) → ∀ tk, wpAny (model Pg w) (Ar dp un fr gd) (execs ((lawBody w).drop 5) (lawEnv w D.L fa cd)) Q Nv ⟨h', Gs, Dr, tk, O⟩) :
    wpAny (model Pg w) (Ar dp un fr gd) (execs ((lawBody w).drop 3) (lawEnv w D.L fa cd)) Q Nv ⟨h, Gs, Dr, t0, O⟩ := by
  obtain ⟨X, T⟩ := G
  have hrw : PySem.Challenge.rw_np0001_01 = PySem.Challenge.rw_np0001_01 := rfl
  revert X hrw
  k_fill
  intro X hrw
  rw [show (lawBody w).drop 3 = _ :: _ :: (lawBody w).drop 5 by with_unfolding_all rfl]
  unfold lawEnv at k ⊢
  rw [show (lawRec w).scope = Scope.mk _ _ _ _ _ by with_unfolding_all rfl] at k ⊢
  obtain ⟨L, cc, q, td, tb, bn, lk, rl, rn, sc, cs, ns, rows, rvs⟩ := D
  obtain ⟨r1, r2, r3, r4, r5, r6, r7, r8⟩ := id hc.ord
  dsimp only at *
  obtain ⟨opot, hopot, dpot⟩ := id hc.cpot
  obtain ⟨otab, hotab, dtab⟩ := id hc.ctab
  obtain ⟨⟨occ, hocc, ccls, ccn, cdat⟩, hcsi, hcsl⟩ := id hc.hpg
  replace hocc := of_hideAll _ hocc
  obtain ⟨po, hpo, hpo'⟩ := id hp
  obtain ⟨b1, b2, t1, t2, t3, t, tdn, no, c1, c2, c3, c4, n0, b4, bo, d1, kvs, d2, d3, d4, d5, oc4, vc4, b6, b7⟩ := ht.all
  dsimp only at *
  have hown : ∀ p ∈ ([(L + 1, opot), (L + 2, otab), (L + 4, oc4), (cc, occ), (q, po), (td, tabO w t1 t2 t3 bn lk nu tdn), (tb, instObj 80 td), (bn, bo), (lk, lstO [.ref 15] n0)] : List (Addr × Obj)), h.get? p.1 = some p.2 ∧ p.1 ≠ L ∧ gh.get? p.1 = none := by
    refine fa9 ?_ ?_ ?_ ?_ ?_ ?_ ?_ ?_ ?_
    · exact ⟨hopot, (by show @Ne Nat (L + 1) L; lia), hc.gn (by show L ≤ L + 1; lia)⟩
    · exact ⟨hotab, (by show @Ne Nat (L + 2) L; lia), hc.gn (by show L ≤ L + 2; lia)⟩
    · exact ⟨b6, (by show @Ne Nat (L + 4) L; lia), hc.gn (by show L ≤ L + 4; lia)⟩
    · exact ⟨hocc, (by show @Ne Nat cc L; lia), hc.gcc⟩
    · exact ⟨hpo, (by show @Ne Nat q L; lia), hc.gn (by show L ≤ q; lia)⟩
    · exact ⟨c1, (by show @Ne Nat td L; lia), hc.gn (by show L ≤ td; lia)⟩
    · exact ⟨b2, (by show @Ne Nat tb L; lia), hc.gn (by show L ≤ tb; lia)⟩
    · exact ⟨d1, (by show @Ne Nat bn L; lia), hc.gn (by show L ≤ bn; lia)⟩
    · exact ⟨b4, (by show @Ne Nat lk L; lia), hc.gn (by show L ≤ lk; lia)⟩
  obtain ⟨frz, F7, N7, off, infrz, kback⟩ := kmode (g := gh) hns hc.sub hc.above hown
  simp only [List.cons_append, List.nil_append] at N7
  refine stmtH fun Q1 k1 k2 => ?_
  k_steps
  refine k1 _ (fun tk => ?_) _
  clear k1 k2 Q1
  rename_i T0 hA1 lT0 hA2 o4 FA NA d4c
  (revert T0; intro (T0 : Nat); set_option tactic.hygienic false in intros)
  have lkT0 : lk < T0 := lT0.2.2.2.2.2.2.2.2.1
  refine stmtH fun Q1 k1 k2 => ?_
  k_steps
  · dsimp only
    rename IsRange _ _ _ _ _ _ _ _ => hR
    dsimp only at hR
    rename PotO _ _ _ => hpo9
    rename News _ _ _ _ => N9
    rename Fr _ _ _ _ => F9
    have cq : L + 1 ≠ q := neN (by lia)
    refine dip_compL (P := PartIs) (good := fun _ => True) (n := 6) (q := q) (cc := L + 1) (co := opot) hR X T F9 N9 (by k_updF) (by k_mem) cq hpo9 ⟨⟨_, News.get N9 (by k_mem), by assumption, _, by assumption⟩, by assumption, by assumption⟩ (neN (by lia)) (neN (by lia)) rfl (by decide) rfl rfl (by with_unfolding_all rfl) ?_ ?_
    · intro gB C hh tkk m₂ po2 k' frz' hk1 hk2 XB TB pgB FB NB offB cq hpo2
      have off_q : ∀ p ∈ frz', p.1 ≠ q := offB
      clear kback infrz off hc hp ht hns k k1 k2
      k_steps
      rename News _ _ _ _ => N9
      rename Fr _ _ _ _ => F9
      have N9' := newsMono N9 (fun p hp => List.mem_cons_of_mem _ hp)
      rename _ ∈ _ => hv'
      simp only [List.mem_cons, List.not_mem_nil, or_false] at hv'
      rcases hv' with rfl | rfl | rfl
      · exact ⟨none, _, _, _, _, rfl, F9, N9', by assumption, rfl, trivial⟩
      · exact ⟨some 5, _, _, _, _, rfl, F9, N9', by assumption, ⟨_, rfl⟩, trivial⟩
      · exact ⟨some 6, _, _, _, _, rfl, F9, N9', by assumption, ⟨_, rfl⟩, trivial⟩
    · intro h2 xs ys D C av h' tk' po2 e F' N' lD hpo2 hlen hP hg
      dsimp only
      have hys : ys.length ≤ 100 := by have := hP.length; lia
      clear hg F9 N9
      k_steps
      rename_i hB0 T1 hB1 lT1 hB2 FB NB x' fd' pr' u1 u2 hx tkx F9 N9 lnew l2 hpr'
      (revert T1; intro (T1 : Nat); set_option tactic.hygienic false in intros)
      have ltT1 : (T1 : Nat) < fd' := ltN (lnew (T1, _) (by k_mem))
      have ltlk : (lk : Nat) < fd' := ltN (lnew (lk, _) (by k_mem))
      have lkT1 : (lk : Nat) < T1 := ltN (lT1.2.2.2.2.2.2.2.2.2.2.1)
      have kb1 : KB [L, L + 4, q] h hx := ownKB (kback _ _ _ F9 N9 (fun p hp => by repeat (first | exact hp | refine List.Mem.tail _ ?_))) hown N9 (by first | k_mem | simp) (by
        refine fa9 ?_ ?_ ?_ ?_ ?_ ?_ ?_ ?_ ?_
        all_goals first | exact .inr (by k_mem) | exact .inl (by first | k_mem | simp))
      have mx := fun (a : Nat) o hm => (N9 (a, o) hm).1
      have oll := hc.cll
      obtain ⟨oll, holl, dll⟩ := hc.cll
      dsimp only at holl dll
      have hcll : hx.get? (L + 3) = some oll := kb1 _ _ (by first | k_mem | (simp; lia)) holl
      have h103 : hx.get? 103 = some (tabObj #[]) := kb1 _ _ (by first | k_mem | (simp; lia)) b1
      obtain ⟨oL, esL, epL, hL1, hL2, _⟩ := id F9.ns
      have hg9 : Sub gh (hideAll hx [tb, td, bn, lk]) := subHide F9.keep (fa4 (N9 (_, instObj 80 td) (by k_mem)).2.2 (N9 (_, tabO w t1 t2 t3 bn lk nu tdn) (by k_mem)).2.2 (N9 (_, bo) (by k_mem)).2.2 (N9 (_, lstO [.ref 15] n0) (by k_mem)).2.2)
      have hid9 : ∀ {a : Nat} {o : Obj}, hx.get? a = some o → lk < a → (hideAll hx [tb, td, bn, lk]).get? a = some o := fun {a o} e ha => hideAll_get _ e (show a ∉ ([tb, td, bn, lk] : List Nat) by first | k_mem | (simp only [List.mem_cons, List.not_mem_nil, or_false, not_or]; lia))
      have hface : FaceAt w (hideAll hx [tb, td, bn, lk]) x' ⟨xs, []⟩ := by
        refine ⟨fd', T1, pr', 2, u1, u2, ys, [], ⟨hid9 (mx x' _ (by k_mem)) (by lia), rfl, rfl, hid9 (mx fd' _ (by k_mem)) (by lia)⟩, ⟨_, hid9 (mx T1 _ (by k_mem)) (by lia), rfl, _, rfl⟩, hP, ?_, .nil⟩
        obtain ⟨o, ho, r⟩ := hpr'
        exact ⟨o, hg9 _ _ ho, r⟩
      have hav9 : ∀ a ∈ [L, L + 1, L + 2, L + 3, L + 4, q, 103], @LT.lt Nat _ a lk ∧ ∃ o, hx.get? a = some o ∧ ∀ xs n, o.cls = .type "tuple" → o.data = .seq xs n → False := by
        refine fa7 ?_ ?_ ?_ ?_ ?_ ?_ ?_
        · exact avD (by show L < lk; lia) hL1 (by rw [hL2]; rfl)
        · exact avD (by show L + 1 < lk; lia) (mx _ opot (by k_mem)) (by rw [dpot]; rfl)
        · exact avD (by show L + 2 < lk; lia) (mx _ otab (by k_mem)) (by rw [dtab]; rfl)
        · exact avD (by show L + 3 < lk; lia) hcll (by rw [dll]; rfl)
        · exact avD (by show L + 4 < lk; lia) (mx _ o4 (by k_mem)) (by rw [d4c]; rfl)
        · exact avC (by show q < lk; lia) (mx _ po2 (by k_mem)) (by rw [hpo2.cls]; decide)
        · exact avC (by show 103 < lk; lia) h103 (show (Value.none) ≠ .type "tuple" by decide)
      have hexx : ∀ a ∈ LD.M (LD.mk L cc q td tb bn lk rl rn sc cs ns rows rvs), ∃ o, hx.get? a = some o := by
        refine fa11 ?_ ?_ ?_ ?_ ?_ ?_ ?_ ?_ ?_ ?_ ?_
        · exact ⟨oL, hL1⟩
        · exact ⟨_, mx _ opot (by k_mem)⟩
        · exact ⟨_, mx _ otab (by k_mem)⟩
        · exact ⟨_, hcll⟩
        · exact ⟨_, mx _ o4 (by k_mem)⟩
        · exact ⟨_, mx _ po2 (by k_mem)⟩
        · exact ⟨_, mx _ (tabO w t1 t2 t3 bn lk nu tdn) (by k_mem)⟩
        · exact ⟨_, mx _ (instObj 80 td) (by k_mem)⟩
        · exact ⟨_, mx _ bo (by k_mem)⟩
        · exact ⟨_, mx _ (lstO [.ref 15] n0) (by k_mem)⟩
        · exact ⟨_, h103⟩
      have hpo5 := mx q po2 (by k_mem)
      refine wpNv ?_
      refine wpAny_call (define_def (f := ⟨xs, []⟩) ⟨X.keeps hg9, T.keeps hg9⟩ (fun b o e => of_hideAll _ e) (mx tb _ (by k_mem)) (mx td _ (by k_mem)) (mx bn _ (by k_mem)) (mx lk _ (by k_mem)) d2 (by lia)
        (hideAll_none _ (by first | k_mem | simp)) (hideAll_none _ (by first | k_mem | simp)) (hideAll_none _ (by first | k_mem | simp)) (hideAll_none _ (by first | k_mem | simp)) r4 r5 r6 hface ⟨hlen, by simp⟩ (by lia) (by lia) [L, L + 1, L + 2, L + 3, L + 4, q, 103] hav9 ?_)
      intro fx' nu' T2 n' h5 tk5 bo' no' tt vs kbd e1 e2 e3 e4 e5 e6 e7 e8 e9 e10 e11 e12 e13 e14
      dsimp only at e5 e8 e10
      dsimp only at e1 e2 e3 e6 e11 e12 e14
      show wpAny (model Pg w) (Ar dp un fr gd) (execs _ _) Q1 Nv ⟨h5, Gs, Dr, tk5, O⟩
      have kb5 : ∀ (a : Nat) o, a ∉ ([tb, td, bn, lk] : List Nat) → hx.get? a = some o → h5.get? a = some o := kbd
      have hns5 := F9.ns.at' fun o e => kb5 L o (by first | k_mem | (simp only [List.mem_cons, List.not_mem_nil, or_false, not_or]; lia)) e
      have hsub5 : Sub gh h5 := fun b o e => kbd b o (fun q => by have := hg9 b o e; rw [hideAll_none _ q] at this; cases this) (F9.keep b o e)
      have hT15 := kb5 T1 _ (by first | k_mem | (simp only [List.mem_cons, List.not_mem_nil, or_false, not_or]; lia)) (mx T1 _ (by k_mem))
      have ho45 := kb5 (L + 4) _ (by first | k_mem | (simp only [List.mem_cons, List.not_mem_nil, or_false, not_or]; lia)) (mx (L + 4) _ (by k_mem))
      have gT1 := (N9 (T1, _) (by k_mem)).2
      have gL4 := (N9 (L + 4, _) (by k_mem)).2
      have lk5 : lk < h5.objs.size := ltSz e6
      clear F9 N9
      try clear kback
      try clear infrz
      try clear off
      have hown5 : ∀ p ∈ ([(L + 4, o4), (T1, tupO ys)] : List (Addr × Obj)), h5.get? p.1 = some p.2 ∧ p.1 ≠ L ∧ gh.get? p.1 = none := by
        refine fa2 ?_ ?_
        · exact ⟨ho45, gL4⟩
        · exact ⟨hT15, gT1⟩
      obtain ⟨frz5, F7, N7, off5, infrz5, kback5⟩ := kmode (g := gh) hns5 hsub5 hc.above hown5
      simp only [List.cons_append, List.nil_append] at N7
      refine stmtH fun Q2 k3 k4 => ?_
      k_steps
      have L5 : L < h5.objs.size := F7.ns.lt
      refine tup_comp (md := []) (fun i zs _ => Are IntIs ((xs.map fun x : Option Int => x.getD (0 : Int)).take i) zs) rfl (vs := ys) ⟨_, (N7 (T1, _) (by k_mem)).1, rfl, _, rfl⟩ hys (by first | k_mem | simp) .nil (fun _ _ _ _ _ _ x _ => x) ?_ ?_
      · intro C i v zs h6 tk6 m₁ hC hv hJ hnC hkb
        clear k1 k2 k3 k4 k hc hp ht
        obtain ⟨x, hx0, hPx⟩ := hP.get' hv
        have hsn : ((xs.map fun x : Option Int => x.getD (0 : Int)).take (i + 1)) = ((xs.map fun x : Option Int => x.getD (0 : Int)).take i) ++ [x.getD 0] := take_snoc (by rw [List.getElem?_map, hx0]; rfl)
        obtain ⟨frzC, FC, NC, offC, infC, kbackC⟩ := kmode (own := []) (g := gh) hnC (fun b o e => hkb b o (by first | k_mem | simp) (hsub5 b o e)) (by have := F7.above; lia) (by first | k_mem | simp)
        simp only [List.nil_append] at NC
        clear F7 N7
        cases x with
        | none =>
          obtain rfl : v = .none := hPx
          k_steps
          all_goals first | (rename News _ _ _ _ => N8; rename Fr _ _ _ _ => F8; exact ⟨_, _, _, rfl, kbackC _ _ _ F8 N8 (fun p hp => by repeat (first | exact hp | refine List.Mem.tail _ ?_)), F8.ns, hsn ▸ hJ.snoc ⟨_, rfl⟩⟩) | exact Str.ofString "" | exact Value.none | exact ([] : List (Str × Addr)) | exact (0 : Nat)
        | some j =>
          obtain ⟨t', rfl⟩ := hPx
          k_steps
          all_goals first | (rename News _ _ _ _ => N8; rename Fr _ _ _ _ => F8; exact ⟨_, _, _, rfl, kbackC _ _ _ F8 N8 (fun p hp => by repeat (first | exact hp | refine List.Mem.tail _ ?_)), F8.ns, hsn ▸ hJ.snoc ⟨_, rfl⟩⟩) | exact Str.ofString "" | exact Value.none | exact ([] : List (Str × Addr)) | exact (0 : Nat)
      · intro h7 zs D7 C7 av7 h8 tk8 hD8 hC8 hDC8 hJ8 hpl8 hkb8
        obtain ⟨e8', hpl8⟩ := hpl8
        obtain ⟨F8, N8, l8⟩ := news_add F7 N7 (fun b o e => hkb8 b o (by first | k_mem | simp) e) hD8 hpl8
        have lkD7 : lk < D7 := Nat.lt_of_lt_of_le lk5 hD8
        have off7 : (L + 4 : Nat) < D7 := ltN (l8 (L + 4, _) (by k_mem))
        clear F7 N7
        have hJ9 : Are IntIs (xs.map fun x : Option Int => x.getD (0 : Int)) zs := by
          have e : (xs.map fun x : Option Int => x.getD (0 : Int)).take ys.length = (xs.map fun x : Option Int => x.getD (0 : Int)) := by rw [List.take_of_length_le (by rw [List.length_map]; exact Nat.le_of_eq hP.length)]
          have hJ8 : Are IntIs ((xs.map fun x : Option Int => x.getD (0 : Int)).take ys.length) zs := hJ8
          rwa [e] at hJ8
        have hzl : zs.length ≤ 100 := by have := hJ9.length; rw [List.length_map] at this; lia
        k_steps
        rename_i T3 h9 lT3 h10 o4' FZ NZ d4'
        (revert T3; intro (T3 : Nat); set_option tactic.hygienic false in intros)
        have lD7T : (D7 : Nat) < T3 := ltN lT3.1
        have kb3 : KB [L, L + 4] h5 h10 := ownKB (kback5 _ _ _ FZ NZ (fun p hp => by repeat (first | exact hp | refine List.Mem.tail _ ?_))) hown5 NZ (by first | k_mem | simp) (by
          refine fa2 ?_ ?_
          · exact .inl (by first | k_mem | simp)
          · exact .inr (by k_mem))
        obtain ⟨x1, x2, x3, x4⟩ := lawb_some hc ht d4 d3 d5 kb1 kbd e1 e2 e3 e4 e5 e6 e7 e8 e9 e10 e11 e12 e13 e14 hexx kb3 ⟨_, (NZ (_, o4') (by k_mem)).1, d4'⟩ (NZ (T3, _) (by k_mem)).1 (by show lk < T3; lia) hJ9 (by rw [List.length_map]; exact hlen)
        refine k3 _ (fun tkz => ?_) _
        show wpAny _ _ (execs [] _) _ _ _
        refine wpAny_execs_nil ?_
        exact k1 _ (k h10 _ _ _ nu' _ T3 x1 ⟨_, kb3 _ _ (by first | k_mem | (simp; lia)) (kb5 q _ (by first | k_mem | (simp only [List.mem_cons, List.not_mem_nil, or_false, not_or]; lia)) hpo5), hpo2.le (by lia)⟩ x2 x3 x4 (nsEq FZ.ns mL_pl)) _
  · rename_i r0 tr0 hZ tkZ poZ FZ NZ hpoZ hr0 hr1 ha
    have kb1 : KB [L, L + 4, q] h hZ := ownKB (kback _ _ _ FZ NZ (fun p hp => by repeat (first | exact hp | refine List.Mem.tail _ ?_))) hown NZ (by first | k_mem | simp) (by
      refine fa9 ?_ ?_ ?_ ?_ ?_ ?_ ?_ ?_ ?_
      all_goals first | exact .inr (by k_mem) | exact .inl (by first | k_mem | simp))
    obtain ⟨x1, x2, x3, x4⟩ := lawb_none X hc ht kb1 ⟨_, (NZ (_, o4) (by k_mem)).1, d4c⟩ (NZ (T0, _) (by k_mem)).1 lkT0 (.cons ⟨_, rfl⟩ (.cons ⟨_, rfl⟩ (.cons ⟨_, rfl⟩ (.cons ⟨_, rfl⟩ (.cons ⟨_, rfl⟩ (.cons ⟨_, rfl⟩ .nil))))))
    exact k1 _ (k hZ _ _ _ nu _ T0 x1 ⟨_, (NZ (q, _) (by k_mem)).1, hpoZ.le (by lia)⟩ x2 x3 x4 FZ.ns) _
end Mine

end
section
open PySem PySem.Spec PySem.Calls PySem.W PyProof.Rows
set_option Elab.async false
set_option linter.unusedVariables false
set_option maxRecDepth 100000
namespace Mine
theorem kxSe : True := by
  k_with_none
  k_with "ne" => (refine neN ?_; (try dsimp only); first | with_reducible assumption | exact Ne.symm (by with_reducible assumption) | exact Nat.ne_of_lt (by with_reducible assumption) | exact Nat.ne_of_gt (by with_reducible assumption) | lia)
  k_with "mem" => first | exact List.Mem.head _ | (refine' List.Mem.tail _ ?_; k_mem) | exact nm0 | (refine nmC ?_ ?_; k_ne; k_mem) | (refine inL ?_; k_mem) | exact fa0 | (refine faC ?_ ?_; k_mem; k_mem)
  trivial
theorem LOrd.lkNot {D : LD} (o : LOrd D) : D.lk ∉ [D.L, D.q, 103] := by
  obtain ⟨o1, o2, o3, o4, o5, o6, o7, o8, _⟩ := o
  have a : @LT.lt Nat _ D.q D.lk := Nat.lt_trans o3 (Nat.lt_trans o4 (Nat.lt_trans o5 o6))
  have b : @LT.lt Nat _ D.L D.q := Nat.lt_of_le_of_lt (Nat.le_add_right _ 4) o1
  exact nmC (Nat.ne_of_gt (Nat.lt_trans b a)) (nmC (Nat.ne_of_gt a) (nmC (Nat.ne_of_gt (Nat.lt_trans o8 (Nat.lt_trans b a))) nm0))
section
variable {w : World} {gh h h' : Heap} {D : LD} {X Y av : List Nat} {nu lt : Nat} {ks : List Int} {looks : List (List Int)}
theorem LawB.step (x : LawB w h (hideAll h (X ++ D.M)) D nu ks lt) (c : LawC w gh h D X) (kb : KB av h h') (hav : ∀ a ∈ av, a ∈ X ++ [D.L, D.q, D.lk, 103] ∨ h.get? a = none) (hY : ∀ y ∈ Y, y ∈ X ∨ h.get? y = none) :
    LawB w h' (hideAll h' (Y ++ D.M)) D nu ks lt := by
  obtain ⟨o1, o2, o3, o4, o5, o6, o7, o8⟩ := id c.ord
  have hav' : ∀ a ∈ av, a ∈ X ++ D.M ∨ h.get? a = none := fun a ha => (hav a ha).imp (fun q => by
    rcases List.mem_append.mp q with q | q
    · exact List.mem_append_left _ q
    · exact List.mem_append_right _ ((by k_mem : ∀ q ∈ [D.L, D.q, D.lk, 103], q ∈ D.M) _ q)) id
  have hs : Sub (hideAll h (X ++ D.M)) (hideAll h' (Y ++ D.M)) := c.hide kb hav' hY
  have up : ∀ {a : Nat} {o : Obj}, a ∈ [D.L + 4, D.td, D.tb, D.bn] → h.get? a = some o → h'.get? a = some o := fun {a o} ha e => kb _ _ (fun q => by
    rcases hav _ q with q | q
    · rcases List.mem_append.mp q with q | q
      · exact absurd (Nat.lt_trans (c.ord.ltLk _ ha) (c.xs _ q).1) (Nat.lt_irrefl _)
      · exact (c.ord.apartB ha q).elim
    · first | exact nS (q) e | (rw [q] at e; cases e)) e
  obtain ⟨⟨oc, a1, a2⟩, ⟨lvs, b1, b2⟩, b3, b4, ⟨t1, t2, t3, tn, b5⟩, ⟨bo, b6, b7⟩, b8⟩ := x
  exact ⟨⟨oc, up (by first | k_mem | simp) a1, a2⟩, ⟨lvs, tupSub hs b1, b2⟩, b3, up (by first | k_mem | simp) b4, ⟨t1, t2, t3, tn, up (by first | k_mem | simp) b5⟩, ⟨bo, up (by first | k_mem | simp) b6, b7.up hs⟩, b8⟩
theorem LookS.step (x : LookS w h (hideAll h (X ++ D.M)) D nu looks) (c : LawC w gh h D X) (kb : KB av h h') (hav : ∀ a ∈ av, a ∈ X ++ [D.L, D.q, 103] ∨ h.get? a = none) (hnu : nu ∉ av) (hY : ∀ y ∈ Y, y ∈ X ∨ h.get? y = none) :
    LookS w h' (hideAll h' (Y ++ D.M)) D nu looks := by
  obtain ⟨o1, o2, o3, o4, o5, o6, o7, o8⟩ := id c.ord
  have hav' : ∀ a ∈ av, a ∈ X ++ D.M ∨ h.get? a = none := fun a ha => (hav a ha).imp (fun q => by
    rcases List.mem_append.mp q with q | q
    · exact List.mem_append_left _ q
    · exact List.mem_append_right _ ((by k_mem : ∀ q ∈ [D.L, D.q, 103], q ∈ D.M) _ q)) id
  have hs : Sub (hideAll h (X ++ D.M)) (hideAll h' (Y ++ D.M)) := c.hide kb hav' hY
  obtain ⟨lv, n, no, xs, a1, a2, a3, a4, a5, a6⟩ := x
  refine ⟨lv, n, no, xs, kb _ _ (fun q => ?_) a1, a2.mono fun _ _ z => lookSub hs z, kb _ _ hnu a3, a4, numSub hs a5, a6⟩
  rcases hav _ q with q | q
  · rcases List.mem_append.mp q with q | q
    · exact absurd (c.xs _ q).1 (Nat.lt_irrefl _)
    · exact c.ord.lkNot q
  · first | exact nS (q) a1 | (rw [q] at a1; cases a1)
/-- all of the law's state, after the default's turn -/
structure LawS (w : World) (gh h : Heap) (D : LD) (X : List Nat) (nu : Nat) (ks : List Int) (lt : Nat) (looks : List (List Int)) : Prop where
  c : LawC w gh h D X
  b : LawB w h (hideAll h (X ++ D.M)) D nu ks lt
  lks : LookS w h (hideAll h (X ++ D.M)) D nu looks
theorem LawS.step (x : LawS w gh h D X nu ks lt looks) (kb : KB av h h') (hav : ∀ a ∈ av, a ∈ X ++ [D.L, D.q, 103] ∨ h.get? a = none) (hnu : nu ∉ av) (hY : ∀ y ∈ Y, y ∈ X ∨ (h.get? y = none ∧ @LT.lt Nat _ D.lk y ∧ y ≠ D.rl)) :
    LawS w gh h' D Y nu ks lt looks := by
  have hav2 : ∀ a ∈ av, a ∈ X ++ [D.L, D.L + 4, D.q, D.td, D.tb, D.bn, D.lk, 103] ∨ h.get? a = none := fun a ha => (hav a ha).imp (fun q => by
    rcases List.mem_append.mp q with q | q
    · exact List.mem_append_left _ q
    · exact List.mem_append_right _ ((by k_mem : ∀ q ∈ [D.L, D.q, 103], q ∈ [D.L, D.L + 4, D.q, D.td, D.tb, D.bn, D.lk, 103]) _ q)) id
  have hav3 : ∀ a ∈ av, a ∈ X ++ [D.L, D.q, D.lk, 103] ∨ h.get? a = none := fun a ha => (hav a ha).imp (fun q => by
    rcases List.mem_append.mp q with q | q
    · exact List.mem_append_left _ q
    · exact List.mem_append_right _ ((by k_mem : ∀ q ∈ [D.L, D.q, 103], q ∈ [D.L, D.q, D.lk, 103]) _ q)) id
  have hY2 : ∀ y ∈ Y, y ∈ X ∨ h.get? y = none := fun y hy => (hY y hy).imp id (·.1)
  exact ⟨x.c.step kb hav2 hY, x.b.step x.c kb hav3 hY2, x.lks.step x.c kb hav hnu hY2⟩
theorem LawS.hs (x : LawS w gh h D X nu ks lt looks) (kb : KB av h h') (hav : ∀ a ∈ av, a ∈ X ++ [D.L, D.q, D.lk, 103] ∨ h.get? a = none) (hY : ∀ y ∈ Y, y ∈ X ∨ h.get? y = none) : Sub (hideAll h (X ++ D.M)) (hideAll h' (Y ++ D.M)) := by
  refine x.c.hide kb (fun a ha => (hav a ha).imp (fun q => ?_) id) hY
  rcases List.mem_append.mp q with q | q
  · exact List.mem_append_left _ q
  · exact List.mem_append_right _ ((by k_mem : ∀ q ∈ [D.L, D.q, D.lk, 103], q ∈ D.M) _ q)
theorem LawS.refl (x : LawS w gh h D X nu ks lt looks) (hY : ∀ y ∈ Y, y ∈ X) : LawS w gh h D Y nu ks lt looks := x.step (KB.refl [] _) (by first | k_mem | simp) (by first | k_mem | simp) fun y hy => .inl (hY y hy)
end
/-- a tuple of names -/
def NamesT (h : Heap) (names : List Str) (v : Value) : Prop := ∃ (a : Nat) (ws : List Value), v = .ref a ∧ h.IsTuple a ws.toArray ∧ Are StrIs names ws
theorem NamesT.sub {g h : Heap} {names v} (s : Sub g h) (x : NamesT g names v) : NamesT h names v := let ⟨a, ws, e, x, y⟩ := x; ⟨a, ws, e, tupSub s x, y⟩
def NGood (names : List Str) : Prop := names.length ≤ 10 ∧ Str.ofString "default" ∉ names
/-- the lists of names, as the law holds them -/
structure ListsN (hz : Heap) (lv : List Value) (nls : List (List Str)) : Prop where
  are : Are (NamesT hz) nls lv
  good : ∀ x ∈ nls, NGood x
  first : nls[0]? = some []
theorem ListsN.sub {g h : Heap} {lv nls} (s : Sub g h) (x : ListsN g lv nls) : ListsN h lv nls := ⟨x.are.mono fun _ _ z => z.sub s, x.good, x.first⟩
theorem ListsN.snoc {h : Heap} {lv nls names v} (x : ListsN h lv nls) (y : NamesT h names v) (g : NGood names) : ListsN h (lv ++ [v]) (nls ++ [names]) := by
  refine ⟨x.are.snoc y, fun z hz => ?_, ?_⟩
  · rcases List.mem_append.mp hz with q | q
    · exact x.good z q
    · rw [List.mem_singleton.mp q]; exact g
  · have := x.first
    cases nls with
    | nil => cases this
    | cons a l => exact this
end Mine

end
section
open PySem PySem.Spec PySem.Calls PySem.W PyProof.Rows
set_option Elab.async false
set_option linter.unusedVariables false
set_option maxRecDepth 100000
namespace Mine
theorem kxNt : True := by
  k_with_none
  k_with "ne" => (refine neN ?_; (try dsimp only); first | with_reducible assumption | exact Ne.symm (by with_reducible assumption) | exact Nat.ne_of_lt (by with_reducible assumption) | exact Nat.ne_of_gt (by with_reducible assumption) | lia)
  k_with "mem" => first | exact List.Mem.head _ | (refine' List.Mem.tail _ ?_; k_mem) | exact nm0 | (refine nmC ?_ ?_; k_ne; k_mem) | (refine inL ?_; k_mem) | exact fa0 | (refine faC ?_ ?_; k_mem; k_mem)
  trivial
def NotT (o : Obj) : Prop := ∀ xs n, o.cls = .type "tuple" → o.data = .seq xs n → False
theorem tupHideT {av : List Nat} {h : Heap} {a : Nat} {items : Array Value} (x : h.IsTuple a items) (n : ∀ b ∈ av, ∀ o, h.get? b = some o → NotT o) : (hideAll h av).IsTuple a items := by
  obtain ⟨o, ho, hc, k, hd⟩ := x
  exact ⟨o, hideAll_get _ ho fun q => (n _ q o ho) _ _ hc hd, hc, k, hd⟩
theorem lookHideT {av : List Nat} {h : Heap} {ks : List Int} {v : Value} (x : LookAt h ks v) (n : ∀ b ∈ av, ∀ o, h.get? b = some o → NotT o) : LookAt (hideAll h av) ks v := by
  obtain ⟨a, vs, e, x, y⟩ := x
  exact ⟨a, vs, e, tupHideT x n, y⟩
theorem keyHideT {w : World} {av : List Nat} {h : Heap} {ks : List Int} {a : Nat} (x : KeyI w h ks a) (n : ∀ b ∈ av, ∀ o, h.get? b = some o → NotT o) : KeyI w (hideAll h av) ks a := by
  obtain ⟨o, items, n', ho, hc, hd, r⟩ := x
  exact ⟨o, items, n', hideAll_get _ ho fun q => (n _ q o ho) _ _ hc hd, hc, hd, r⟩
theorem numHideT {w : World} {av : List Nat} {h : Heap} {looks : List (List Int)} {xs} (x : NumX w h looks xs) (n : ∀ b ∈ av, ∀ o, h.get? b = some o → NotT o) : NumX w (hideAll h av) looks xs :=
  ⟨x.keys, fun y hy => keyHideT (x.at_ y hy) n, x.val⟩
/-- the objects at these places are no tuples -/
def MT (h : Heap) (av : List Nat) : Prop := ∀ b ∈ av, ∃ o, h.get? b = some o ∧ NotT o
noncomputable def isQ : Data → Bool
  | .seq _ _ => true
  | _ => false
theorem mtI {h : Heap} {b : Nat} {o : Obj} (e : h.get? b = some o) (n : o.cls ≠ .type "tuple") : ∃ o, h.get? b = some o ∧ NotT o := ⟨o, e, fun _ _ c _ => n c⟩
theorem mtD {h : Heap} {b : Nat} {o : Obj} {d : Data} (e : h.get? b = some o) (hd : o.data = d) (n : isQ d = false) : ∃ o, h.get? b = some o ∧ NotT o := ⟨o, e, fun _ _ _ q => by rw [hd.symm.trans q] at n; cases n⟩
theorem MT.of {w : World} {gh h : Heap} {D : LD} {X : List Nat} {nu lt k : Nat} {ks : List Int} {looks : List (List Int)} {m : Str → Option Value} {ps : Array Value} (c : LawS w gh h D X nu ks lt looks) (hns : h.Ns D.L m) (hp : PotK h D k) (h103 : h.get? 103 = some (tabObj ps)) : MT h ([nu] ++ D.M) := by
  obtain ⟨⟨oc, a1, a2⟩, _, _, a4, ⟨t1, t2, t3, tn, a5⟩, ⟨bo, a6, ⟨kvs, a7, _⟩⟩, _⟩ := id c.b
  obtain ⟨lv, n, no, xs, z1, z2, z3, z4, z5, z6⟩ := id c.lks
  obtain ⟨p1, e1, d1⟩ := id c.c.cpot
  obtain ⟨p2, e2, d2⟩ := id c.c.ctab
  obtain ⟨p3, e3, d3⟩ := id c.c.cll
  obtain ⟨po, e4, d4⟩ := hp
  obtain ⟨oL, es, ep, e5, d5, _⟩ := id hns
  refine fa12 (mtI z3 (clsD z4)) (mtD e5 d5 rfl) (mtD e1 d1 rfl) (mtD e2 d2 rfl) (mtD e3 d3 rfl) (mtD a1 a2 rfl) (mtI e4 (by rw [d4.cls]; decide)) (mtD a5 rfl rfl) (mtD a4 rfl rfl) ?_ (mtI z1 (show Value.type "list" ≠ Value.type "tuple" by decide)) (mtI h103 (show Value.none ≠ Value.type "tuple" by decide))
  obtain ⟨es7, ep7, _, q1, _⟩ := a7
  exact mtD a6 q1 rfl
theorem MT.kbL {h h' : Heap} {D : LD} {nu : Nat} {av : List Nat} {m : Str → Option Value} (x : MT h ([nu] ++ D.M)) (kb : KB (D.L :: av) h h') (hns : h'.Ns D.L m) (n : ∀ b ∈ [nu] ++ D.M, b ∉ av) : MT h' ([nu] ++ D.M) := fun b hb => by
  by_cases e : b = D.L
  · subst e
    obtain ⟨oL, es, ep, e5, d5, _⟩ := id hns
    exact ⟨_, e5, fun _ _ _ e => by first | exact nS (d5) e | (rw [d5] at e; cases e)⟩
  · obtain ⟨o, a, c⟩ := x b hb
    exact ⟨o, kb _ _ (by simp only [List.mem_cons, not_or]; exact ⟨e, n b hb⟩) a, c⟩
/-- the number of a list of names -/
def NumIs (rows : List RowD) (ks : List Int) (looks : List (List Int)) (names : List Str) (v : Value) : Prop :=
  ∃ (i : Nat) (t : Tok) (L : List Int), v = .int (i : Nat) t ∧ looks[i]? = some L ∧ ∀ r, Go (rowTab rows) names [] r → L = lookL rows r ks
theorem NumIs.app {rows ks looks names v L'} (x : NumIs rows ks looks names v) : NumIs rows ks (looks ++ [L']) names v := by
  obtain ⟨i, t, L, e, a, b⟩ := x
  refine ⟨i, t, L, e, ?_, b⟩
  have hi : i < looks.length := by
    rcases Nat.lt_or_ge i looks.length with q | q
    · exact q
    · first | exact nS (List.getElem?_eq_none q) a | (rw [List.getElem?_eq_none q] at a; cases a)
  rw [List.getElem?_append_left hi]; exact a
theorem mapSome {a b : List Int} (h : a.map some = b.map some) : a = b := List.map_inj_right (fun _ _ e => Option.some.inj e) |>.mp h
theorem number_turn {w : World} {mean : ExcName → Option Value} {mg mb : Str → Option Value} {gh h : Heap} {D : LD} {X : List Nat} {nu lt : Nat} {ks : List Int} {looks : List (List Int)} {v : Value} {names : List Str} {Gs : Array GenState} {Dr : Drawn} {t0 : Nat} {O : OsState} {dp un : Nat} {fr : Option (List Env)} {gd : Option (List Code)} {Q : Value → Shared → Prop} {E : Value → Shared → Prop}
    (G : Gd w mean mg mb gh) (hc : LawS w gh h D X nu ks lt looks) (hnu : nu ∈ X) (hmt : MT h (X ++ D.M)) (hn : NamesT (hideAll h (X ++ D.M)) names v) (hng : NGood names) (hll : looks.length ≤ 50) (h0 : looks[0]? = some ks) (hdp : dp < 500) (hun : un < 600)
    (hQ : ∀ (i : Nat) t looks' h' tk', KB [D.lk, nu] h h' → LawS w gh h' D X nu ks lt looks' → MT h' (X ++ D.M) → NumIs D.rows ks looks' names (.int (i : Nat) t) → (looks' = looks ∨ ∃ L, looks' = looks ++ [L]) →
      (∀ L r, Go (rowTab D.rows) names [] r → L = lookL D.rows r ks → L ∈ looks → looks' = looks) → Q (.int (i : Nat) t) ⟨h', Gs, Dr, tk', O⟩) :
    wpAny (model Pg w) (Ar dp un fr gd) (call (.ref 70) [.ref D.tb, v]) Q E ⟨h, Gs, Dr, t0, O⟩ := by
  obtain ⟨nt, ws, rfl, hnt, hws⟩ := hn
  obtain ⟨_, _, b3, b4, ⟨t1, t2, t3, tn, b5⟩, ⟨bo, b6, b7⟩, b8⟩ := id hc.b
  obtain ⟨lv, n, no, xs, z1, z2, z3, z4, z5, z6⟩ := id hc.lks
  obtain ⟨o1, o2, o3, o4, o5, o6, o7, o8⟩ := id hc.c.ord
  have nlk := (hc.c.xs nu hnu).1
  have hs0 : Sub (hideAll h (X ++ D.M)) (hideAll h [D.lk, nu]) := fun b o e => by
    have hb : b ∉ X ++ D.M := fun q => by first | exact nS (hideAll_none _ q) e | (rw [hideAll_none _ q] at e; cases e)
    refine hide_of (of_hideAll _ e) fun q => hb ?_
    simp only [List.mem_cons, List.not_mem_nil, or_false] at q
    rcases q with q | q <;> replace q := q.symm <;> subst q
    · exact List.mem_append_right _ (by first | k_mem | simp)
    · exact List.mem_append_left _ hnu
  have hsh : Sub (hideAll h (X ++ D.M)) h := fun b o e => of_hideAll _ e
  have hid : ∀ {a : Nat} {o : Obj}, h.get? a = some o → a ∉ ([D.lk, nu] : List Nat) → (hideAll h [D.lk, nu]).get? a = some o := fun e q => hide_of e q
  have hTab : TabI w (hideAll h [D.lk, nu]) D.tb D.td D.bn D.lk nu := ⟨t1, t2, t3, tn, hid b4 (by first | k_mem | (simp only [List.mem_cons, List.not_mem_nil, or_false, not_or]; lia)), rfl, rfl, hid b5 (by first | k_mem | (simp only [List.mem_cons, List.not_mem_nil, or_false, not_or]; lia))⟩
  refine wpNv ?_
  refine wpAny_call (number_ok (F := rowF D.rows ⟨ks.map some, []⟩ 5) (known := names6) (names := names) (ks := ks) (fd := ⟨ks.map some, []⟩) (xs := xs) (looks := looks) (lv := lv) (G.sub fun b o e => hs0 _ _ (hc.c.subM b o e)) (fun b o e => of_hideAll _ e) hTab (hid b6 (by first | k_mem | (simp only [List.mem_cons, List.not_mem_nil, or_false, not_or]; lia)))
    (beq_eq_false_iff_ne.mpr (neN (show (D.bn : Nat) ≠ sysModules by show (D.bn : Nat) ≠ 1; lia))) (b7.up hs0) (tupSub hs0 hnt) hws hng.1 (rowF_default 5) rfl b3 z1 z3 z4 (hideAll_none _ (by first | k_mem | simp)) (hideAll_none _ (by first | k_mem | simp)) b8 (z2.mono fun _ _ z => lookSub hsh z) (numSub hsh z5) z6 hll (by lia) (by lia) ?_)
  intro i t looks' lv' n' no' xs' h' tk' kb q1 q2 q3 q4 q5 q6 q7 q8
  have hav : ∀ a ∈ [D.lk, nu], a ∈ X ++ [D.L, D.L + 4, D.q, D.td, D.tb, D.bn, D.lk, 103] ∨ h.get? a = none := by
    refine fa2 ?_ ?_
    · exact .inl (List.mem_append_right _ (by first | k_mem | simp))
    · exact .inl (List.mem_append_left _ hnu)
  have hav2 : ∀ a ∈ [D.lk, nu], a ∈ X ++ [D.L, D.q, D.lk, 103] ∨ h.get? a = none := by
    refine fa2 ?_ ?_
    · exact .inl (List.mem_append_right _ (by first | k_mem | simp))
    · exact .inl (List.mem_append_left _ hnu)
  have hmt' : MT h' (X ++ D.M) := fun b hb => by
    by_cases e1 : b = D.lk
    · subst e1; exact ⟨_, q1, fun _ _ e _ => absurd e (show (Value.type "list") ≠ .type "tuple" by decide)⟩
    · by_cases e2 : b = nu
      · subst e2; exact ⟨_, q2, fun _ _ e _ => clsD q3 e⟩
      · obtain ⟨o, a1, a2⟩ := hmt b hb
        exact ⟨o, kb _ _ (by simp only [List.mem_cons, List.not_mem_nil, or_false, not_or]; exact ⟨e1, e2⟩) a1, a2⟩
  have hnt' : ∀ b ∈ X ++ D.M, ∀ o, h'.get? b = some o → NotT o := fun b hb o e => by
    obtain ⟨o', a1, a2⟩ := hmt' b hb
    first | exact nS (a1) e | (rw [a1] at e; cases e); exact a2
  have cS : LawS w gh h' D X nu ks lt looks' := ⟨hc.c.step kb hav fun y hy => .inl hy, hc.b.step hc.c kb hav2 fun y hy => .inl hy, ⟨lv', n', no', xs', q1, q4.mono fun _ _ z => lookHideT z hnt', q2, q3, numHideT q5 hnt', q6⟩⟩
  have hlen := hc.c.rlen
  have key : ∀ {r r' : List Str} {L : List Int}, Go (rowTab D.rows) names [] r → Go (rowF D.rows ⟨ks.map some, []⟩ 5).tab (names ++ [Str.ofString "default"]) [] r' → look (rowF D.rows ⟨ks.map some, []⟩ 5).parts r' = L.map some → L = lookL D.rows r ks := by
    intro r r' L g1 g2 g3
    rw [← hlen] at g2 g3
    exact mapSome (g3.symm.trans (look_same b3 hng.2 g1 g2))
  refine hQ i t looks' h' tk' kb cS hmt' ?_ q7 ?_
  · rcases q8 with ⟨rfl, rfl, rfl⟩ | ⟨r', L, g1, g2, g3, _⟩
    · exact ⟨0, t, ks, rfl, h0, fun r hg => by cases hg; exact (lookL_nil b3).symm⟩
    · exact ⟨i, t, L, rfl, g3, fun r hg => key hg g1 g2⟩
  · intro L r hg hL hm
    rcases q8 with ⟨rfl, rfl, rfl⟩ | ⟨r', L2, g1, g2, g3, g4⟩
    · rfl
    · exact g4 (by rw [key hg g1 g2, ← hL]; exact hm)
end Mine

end
section
open PySem PySem.Spec PySem.Calls PySem.W PyProof.Rows
set_option Elab.async false
set_option linter.unusedVariables false
set_option maxRecDepth 100000
namespace Mine
theorem kxNc : True := by
  k_with_none
  k_with "ne" => (refine neN ?_; (try dsimp only); first | with_reducible assumption | exact Ne.symm (by with_reducible assumption) | exact Nat.ne_of_lt (by with_reducible assumption) | exact Nat.ne_of_gt (by with_reducible assumption) | lia)
  k_with "mem" => first | exact List.Mem.head _ | (refine' List.Mem.tail _ ?_; k_mem) | exact nm0 | (refine nmC ?_ ?_; k_ne; k_mem) | (refine inL ?_; k_mem) | exact fa0 | (refine faC ?_ ?_; k_mem; k_mem)
  trivial
theorem MT.kb {h h' : Heap} {av bv : List Nat} (x : MT h bv) (k : KB av h h') (n : ∀ b ∈ bv, b ∉ av) : MT h' bv := fun b hb => let ⟨o, a, c⟩ := x b hb; ⟨o, k _ _ (n b hb) a, c⟩
theorem MT.app {h : Heap} {av bv : List Nat} (x : MT h av) (y : MT h bv) : MT h (av ++ bv) := fun b hb => (List.mem_append.mp hb).elim (x b) (y b)
theorem Are.app' {α : Type} {R S : α → Value → Prop} {as : List α} {vs : List Value} (x : Are R as vs) (k : ∀ a v, R a v → S a v) : Are S as vs := x.mono k
/-- the numbers of the lists, in a comprehension whose element calls number_of -/
theorem number_comp0 {w : World} {mean : ExcName → Option Value} {mg mb : Str → Option Value} {gh hp : Heap} {D : LD} {nu lt : Nat} {ks : List Int} {looks0 : List (List Int)} {ll n : Nat} {lv : List Value} {nls : List (List Str)} {Gs : Array GenState} {Dr : Drawn} {t0 : Nat} {O : OsState} {dp un : Nat} {fr : Option (List Env)} {gd : Option (List Code)}
    {env : Env} {elt : Expr} {y : Str} {py : Pos} {scope : Scope} {cl : List (Str × Addr)} {fn : Nat → List Value → Nat → List Nat → Heap → Nat → Prop} (P : Nat → List (List Int) → Prop)
    (G : Gd w mean mg mb gh) (hc : LawS w gh hp D [nu] nu ks lt looks0) (hmt : MT hp ([nu] ++ D.M)) (hP0 : P 0 looks0) (hPl : ∀ i looks, i ≤ 8 → P i looks → looks.length ≤ 50 ∧ looks[0]? = some ks)
    (hPs : ∀ i looks looks' names, i < 8 → names ∈ nls → P i looks → (looks' = looks ∨ ∃ L, looks' = looks ++ [L]) → (∀ L r, Go (rowTab D.rows) names [] r → L = lookL D.rows r ks → L ∈ looks → looks' = looks) → P (i + 1) looks')
    (hll : hp.get? ll = some (lstO lv n)) (hllM : ll ∉ ([nu] ++ D.M)) (hL : ListsN (hideAll hp ([nu] ++ D.M)) lv nls) (hlen : nls.length = 8) (hdp : dp < 500) (hun : un < 600)
    (helt : ∀ (C : Nat) (h : Heap) (tk : Nat) (m₁ : Str → Option Value) (v : Value) (Q : Value → Shared → Prop), @LT.lt Nat _ D.lk C → LawS w gh h D [hp.objs.size, hp.objs.size + 1, hp.objs.size + 2, nu] nu ks lt looks0 ∨ True → Sub gh h → gh.objs.size ≤ C → CellH h (D.L + 2) (.ref D.tb) → h.get? D.tb = some (instObj 80 D.td) → (∃ (t1 t2 t3 : Tok) (tn : Nat), h.get? D.td = some (tabO w t1 t2 t3 D.bn D.lk nu tn)) → h.Ns C m₁ →
      (∀ h2 tk2 m2, KB [C] h h2 → h2.Ns C m2 → wpAny (model Pg w) (Ar dp un fr gd) (call (.ref 70) [.ref D.tb, v]) Q Nv ⟨h2, Gs, Dr, tk2, O⟩) →
      wpAny (model Pg w) (Ar dp un fr gd) (assign (.Name y py) (compEnvC scope cl C env) v) (fun _ s₂ => wpAny (model Pg w) (Ar dp un fr gd) (eval elt (compEnvC scope cl C env)) Q Nv s₂) Nv ⟨h, Gs, Dr, tk, O⟩)
    (fin : ∀ zs av h' tk' looks', LawS w gh h' D [hp.objs.size, hp.objs.size + 1, hp.objs.size + 2, nu] nu ks lt looks' → MT h' ([nu] ++ D.M) → P 8 looks' → Are (NumIs D.rows ks looks') nls zs → h'.PlainList (hp.objs.size + 1) (List.toArray zs) → KB [D.lk, nu] hp h' → fn (hp.objs.size + 1) zs (hp.objs.size + 2) av h' tk') :
    CompAtD Pg w (Ar dp un fr gd) env elt (.Name y py) [] scope cl ⟨(hp.push { cls := .type "list_iterator", dict := none, data := .fields #[Value.ref ll, .int 0 0] }), Gs, Dr, t0, O⟩ (.ref hp.objs.size) fn := by
  have hlv : lv.length = 8 := by rw [← hL.are.length, hlen]
  obtain ⟨o1, o2, o3, o4, o5, o6, o7, o8⟩ := id hc.c.ord
  obtain ⟨_, _, no0, _, z1, _, z3, _, _, _⟩ := id hc.lks
  have lkS : @LT.lt Nat _ D.lk hp.objs.size := ltSz z1
  have nuS : nu < hp.objs.size := ltSz z3
  have rlS : @LT.lt Nat _ D.rl hp.objs.size := ltSz (of_hideAll _ hc.c.rlo)
  obtain ⟨nlk, nrl⟩ := hc.c.xs nu (.head _)
  have hnM : ∀ b ∈ [nu] ++ D.M, b < hp.objs.size := fun b hb => let ⟨o, a, _⟩ := hmt b hb; ltSz a
  have hY : ∀ y ∈ [hp.objs.size, hp.objs.size + 1, hp.objs.size + 2, nu], y ∈ [nu] ∨ (hp.get? y = none ∧ @LT.lt Nat _ D.lk y ∧ y ≠ D.rl) := by
    refine fa4 ?_ ?_ ?_ ?_
    · exact .inr ⟨fresh_self (Nat.le_refl _), by lia, by lia⟩
    · exact .inr ⟨fresh_self (Nat.le_succ _), by lia, by lia⟩
    · exact .inr ⟨fresh_self (by lia), by lia, by lia⟩
    · exact .inl (.head _)
  have hc3 : LawS w gh hp D [hp.objs.size, hp.objs.size + 1, hp.objs.size + 2, nu] nu ks lt looks0 := hc.step (KB.refl [] _) (by first | k_mem | simp) (by first | k_mem | simp) hY
  refine list_compD0 (md := [D.lk, nu]) (fun i ys h => ∃ looks, LawS w gh h D [hp.objs.size, hp.objs.size + 1, hp.objs.size + 2, nu] nu ks lt looks ∧ MT h ([nu] ++ D.M) ∧ P i looks ∧ Are (NumIs D.rows ks looks) (nls.take i) ys) rfl hll (by lia) ?_ ⟨looks0, hc3, hmt, hP0, .nil⟩ ?_ ?_ ?_
  · intro b hb
    simp only [List.mem_cons, List.not_mem_nil, or_false] at hb
    simp only [LD.M, List.cons_append, List.nil_append, List.mem_cons, List.not_mem_nil, or_false, not_or] at hllM
    lia
  · rintro i ys h h' ⟨looks, a1, a2, a3, a4⟩ kb
    exact ⟨looks, a1.step kb (by first | k_mem | simp) (by first | k_mem | (simp; lia)) (by first | k_mem | simp), a2.kb kb (fun b hb => by have := hnM b hb; first | k_mem | (simp only [List.mem_cons, List.not_mem_nil, or_false, not_or]; lia)), a3, a4⟩
  · rintro i v ys h tk m₁ hv ⟨looks, a1, a2, a3, a4⟩ hns hkb hfar
    have hi8 : i < 8 := by
      rcases Nat.lt_or_ge i lv.length with q | q
      · lia
      · first | exact nS (List.getElem?_eq_none q) hv | (rw [List.getElem?_eq_none q] at hv; cases hv)
    obtain ⟨names, hnm, hnt⟩ := (hL.are).get' hv
    have hmem : names ∈ nls := List.mem_of_getElem? hnm
    refine helt (hp.objs.size + 2) h tk m₁ v _ (by lia) (.inr trivial) a1.c.sub (Nat.le_trans a1.c.above (by lia)) a1.c.ctab a1.b.tbo a1.b.tdo hns ?_
    intro h2 tk2 m2 kb2 hns2
    have c2 : LawS w gh h2 D [hp.objs.size, hp.objs.size + 1, hp.objs.size + 2, nu] nu ks lt looks := a1.step kb2 (by first | k_mem | simp) (by first | k_mem | (simp; lia)) (by first | k_mem | simp)
    have mt2 : MT h2 ([hp.objs.size, hp.objs.size + 1, hp.objs.size + 2, nu] ++ D.M) := by
      have x1 : MT h2 ([nu] ++ D.M) := a2.kb kb2 fun b hb => by have := hnM b hb; first | k_mem | (simp only [List.mem_cons, List.not_mem_nil, or_false, not_or]; lia)
      have x2 : MT h2 [hp.objs.size, hp.objs.size + 1, hp.objs.size + 2] := fun b hb => by
        by_cases e : b = hp.objs.size + 2
        · subst e
          obtain ⟨oo, es, ep, a, b, _⟩ := id hns2
          exact ⟨oo, a, fun xs n hc hd => by first | exact nS (hd) b | (rw [hd] at b; cases b)⟩
        · obtain ⟨o, a, c⟩ := hfar b hb
          exact ⟨o, kb2 _ _ (by simpa using e) a, c.1⟩
      exact x2.app x1
    have hsz : Sub (hideAll hp ([nu] ++ D.M)) (hideAll h2 ([hp.objs.size, hp.objs.size + 1, hp.objs.size + 2, nu] ++ D.M)) := by
      have s1 : Sub (hideAll hp ([nu] ++ D.M)) (hideAll h ([hp.objs.size, hp.objs.size + 1, hp.objs.size + 2, nu] ++ D.M)) := hc.hs hkb (by first | k_mem | simp) (fun y hy => (hY y hy).imp id (·.1))
      have s2 := a1.hs (Y := [hp.objs.size, hp.objs.size + 1, hp.objs.size + 2, nu]) kb2 (by first | k_mem | simp) (fun y hy => .inl hy)
      exact fun b o e => s2 _ _ (s1 _ _ e)
    obtain ⟨p1, p2⟩ := hPl i looks (by lia) a3
    refine number_turn G c2 (by first | k_mem | simp) mt2 (hnt.sub hsz) (hL.good _ hmem) p1 p2 hdp hun ?_
    intro k t looks' h' tk' kb3 c3 mt3 hN hlk hsame
    refine ⟨h', tk', m2, rfl, ?_, hns2.at' fun o e => kb3 _ _ (by first | k_mem | (simp only [List.mem_cons, List.not_mem_nil, or_false, not_or]; lia)) e, looks', c3, fun b hb => mt3 b ?_, hPs i looks looks' names hi8 hmem a3 hlk hsame, ?_⟩
    · exact fun b o nb e => kb3 b o (by simp only [List.mem_cons, List.not_mem_nil, or_false, not_or] at nb ⊢; exact nb.2) (kb2 b o (by simp only [List.mem_cons, List.not_mem_nil, or_false, not_or] at nb ⊢; exact nb.1) e)
    · rcases List.mem_append.mp hb with q | q
      · exact List.mem_append_left _ (by simp only [List.mem_cons, List.not_mem_nil, or_false] at q ⊢; lia)
      · exact List.mem_append_right _ q
    · have e : nls.take (i + 1) = nls.take i ++ [names] := by rw [List.take_add_one, hnm]; rfl
      rw [e]
      refine Are.snoc (a4.mono fun a v x => ?_) hN
      rcases hlk with rfl | ⟨L, rfl⟩
      · exact x
      · exact x.app
  · rintro zs av h' tk' ⟨looks', a1, a2, a3, a4⟩ hpl hkb
    rw [hlv] at a3 a4
    rw [List.take_of_length_le (by lia)] at a4
    exact fin zs av h' tk' looks' a1 a2 a3 a4 hpl hkb
end Mine

end
section
open PySem PySem.Spec PySem.Calls PySem.W PyProof.Rows
set_option Elab.async false
set_option linter.unusedVariables false
set_option maxRecDepth 100000
namespace Mine
theorem kxSc : True := by
  k_with_none
  k_with "ne" => (refine neN ?_; (try dsimp only); first | with_reducible assumption | exact Ne.symm (by with_reducible assumption) | exact Nat.ne_of_lt (by with_reducible assumption) | exact Nat.ne_of_gt (by with_reducible assumption) | lia)
  k_with "mem" => first | exact nm0 | (refine nmC ?_ ?_; k_ne; k_mem) | (refine inL ?_; k_mem) | exact fa0 | (refine faC ?_ ?_; k_mem; k_mem)
  trivial
local macro_rules | `(tactic| k_all) => `(tactic| assumption)
local macro_rules | `(tactic| k_all) => `(tactic| (refine offTwo (by assumption) ?_; simp))
theorem wSc1 : True := by
  k_with "call ref" => k_dflt (refine' use_dipL ?X ?T ?F ?N ?U ?hpo ?hp ?hcq ?hh ?hm ?hm2 ?hk ?hd ?hu ?_; (case X => assumption); (case T => assumption); (case F => k_asm); (case N => k_asm); (case U => k_updF); (case hpo => assumption); (case hp => exact ⟨⟨_, News.get (by k_asm) (by k_mem), by assumption, _, by assumption⟩, by assumption, by assumption⟩); (case hcq => lia); (case hh => rfl); (case hm => decide); (case hm2 => decide); (case hk => lia); (case hd => (dsimp only [Ar, Around.deeper]; lia)); (case hu => (dsimp only [Ar, Around.deeper]; lia)); intro _ _ _ _ _ _ _ _ _ _)
  trivial
theorem wSc2 : True := by
  k_with "eval ListComp" => k_dflt (refine' comp_eval ?hclos ?hcell ?hkind ?hnames ?_ ?hs; (case hclos => with_unfolding_all rfl); (case hcell => decide); (case hkind => with_unfolding_all rfl); (case hnames => decide); (case hs => intro _; with_unfolding_all rfl))
  trivial
theorem wSc3 : True := by
  k_with "subscriptTail" => (refine' pickL ?F ?N ?M ?h0 ?h1 ?hl ?hb ?_ ?hs ?hg; (case h0 => assumption); (case h1 => assumption); (case F => k_asm); (case N => k_asm); (case M => k_mem); (case hl => rfl); (case hb => exact Nat.le_of_ble_eq_true rfl); (case hs => with_unfolding_all rfl); (case hg => intro _; with_unfolding_all rfl); intro _ _)
  trivial
theorem wSc4 : True := by
  k_with "call type:tuple" => k_dflt (refine' tupleN ?F ?N ?M ?hz ?_; (case F => k_asm); (case N => k_asm); (case M => k_mem); (case hz => assumption); intro _ _ _ _ l1; (try k_lt l1); (first | (revert l1; intro _) | skip))
  trivial
theorem wSc5 : True := by
  k_with "call ref" => (refine' use_dip ?X ?T ?F ?N ?U ?hpo ?hp ?hh ?hm ?hm2 ?hk ?hd ?hu ?_; (case X => assumption); (case T => assumption); (case F => k_asm); (case N => k_asm); (case U => k_updF); (case hpo => assumption); (case hp => assumption); (case hh => rfl); (case hm => decide); (case hm2 => decide); (case hk => lia); (case hd => (dsimp only [Ar, Around.deeper]; lia)); (case hu => (dsimp only [Ar, Around.deeper]; lia)); intro _ _ _ _ _ _ _ _ _ _)
  trivial
theorem wSc6 : True := by
  k_with "storeName" => ((with_reducible show wpAny _ _ (storeName (compEnvC _ _ _ _) _ _) _ _ _); k_dflt (refine' storeC ?F ?N ?hC ?hx ?hk ?_; (case F => k_asm); (case N => k_asm); (case hC => with_unfolding_all rfl); (case hx => with_unfolding_all rfl); (case hk => with_unfolding_all rfl); intro _ _ _))
  trivial
theorem wSc7 : True := by
  k_with "call builtin:list.append" => k_dflt (refine' appendN ?F ?N ?U ?hz ?_; (case F => k_asm); (case N => k_asm); (case U => k_updF); (case hz => lia); intro _ _ _ _)
  trivial
theorem wSc8 : True := by
  k_with "exec For Name Call cons nil" => k_dflt (refine' for_rule ?_ ?hs; (case hs => intro _; with_unfolding_all rfl))
  trivial
theorem ltOf {d : Nat} {l : List (Addr × Obj)} (h : AllLt d l) : ∀ p ∈ l, @LT.lt Nat _ p.1 d := by
  induction l with
  | nil => intro p hp; cases hp
  | cons a r ih =>
    intro p hp
    have h1 : @LT.lt Nat _ a.1 d ∧ AllLt d r := h
    rcases List.mem_cons.mp hp with e | hp
    · rw [e]; exact h1.1
    · exact ih h1.2 p hp
theorem pick3 {r : Int} (h0 : 0 ≤ r) (h1 : r < 3) : ∃ nn : Nat, 1 + r = (nn : Int) ∧ nn ≤ 3 := ⟨(1 + r).toNat, by lia, by lia⟩
theorem frFresh {g h : Heap} {L a : Nat} {own frz : List (Addr × Obj)} (inf : ∀ a o, h.get? a = some o → a ≠ L → a ∉ own.map (·.1) → g.get? a = none → (a, o) ∈ frz) (hl : AllLt a frz) (h1 : (a : Addr) ≠ L ∧ g.get? a = none) (h2 : a ∉ own.map (·.1)) : h.get? a = none := by
  cases e : h.get? a with
  | none => rfl
  | some o => exact absurd (ltOf hl _ (inf a o e h1.1 h2 h1.2)) (Nat.lt_irrefl _)
theorem mL_lists {v : Value} {o1 o2 o3 o4 o5 o6 o7 o8 o9 : Option Value} {sc : Value} : (fun y => if y = Str.ofString "lists" then some v else mL o1 o2 o3 o4 o5 o6 o7 o8 o9 sc y) = mL o1 o2 o3 o4 (some v) o6 o7 o8 o9 sc := by
  funext y
  by_cases h1 : y = Str.ofString "lists"
  · subst h1; with_unfolding_all rfl
  · simp only [mL, if_neg h1]
theorem mL_nth {v : Value} {o1 o2 o3 o4 o5 o6 o7 o8 o9 : Option Value} {sc : Value} : (fun y => if y = Str.ofString "nth" then some v else mL o1 o2 o3 o4 o5 o6 o7 o8 o9 sc y) = mL o1 o2 o3 (some v) o5 o6 o7 o8 o9 sc := by
  funext y
  by_cases h1 : y = Str.ofString "nth"
  · subst h1; with_unfolding_all rfl
  · simp only [mL, if_neg h1]
inductive ScJ (w : World) (gh : Heap) (L : Nat) (sc : Value) (D : LD) (I ll nu : Nat) (ks : List Int) (lt : Nat) (o1 o2 o3 : Option Value) (i : Nat) (h' : Heap) : Prop
  | mk (p4 : Option Value) (lv : List Value) (n : Nat) (nls : List (List Str)) (f1 : h'.Ns L (mL o1 o2 o3 p4 (some (.ref ll)) none none none none sc)) (f2 : LawS w gh h' D [I, ll, nu] nu ks lt [ks]) (f3 : PotK h' D (60 + 4 * i)) (f4 : h'.get? 103 = some (tabObj #[]))
      (f5 : h'.get? ll = some (lstO lv n)) (f6 : ListsN (hideAll h' ([I, ll, nu] ++ D.M)) lv nls) (f7 : nls.length = i + 2)
set_option maxHeartbeats 8000000 in
theorem law_c {w : World} {fa : Addr} {cd : Value} {mean : ExcName → Option Value} {mg mb : Str → Option Value} {gh h : Heap} {D : LD} {Gs : Array GenState} {Dr : Drawn} {t0 : Nat} {O : OsState} {dp un nu lt : Nat} {fr : Option (List Env)} {gd : Option (List Code)} {Q : Flow → Shared → Prop} {o1 o2 o3 : Option Value} {ks : List Int}
    (G : Gd w mean mg mb gh) (hc : LawS w gh h D [nu] nu ks lt [ks]) (hp : PotK h D 60) (h103 : h.get? 103 = some (tabObj #[])) (hns : h.Ns D.L (mL o1 o2 o3 none none none none none none D.sc)) (hdp : dp < 320) (hun : un < 300)
    (k : ∀ h' o4 ll lv n nls, LawS w gh h' D [nu] nu ks lt [ks] → MT h' ([nu] ++ D.M) → h'.get? 103 = some (tabObj #[]) → (hideAll h' ([nu] ++ D.M)).get? ll = some (lstO lv n) → ListsN (hideAll h' ([nu] ++ D.M)) lv nls → nls.length = 8 → h'.Ns D.L (mL o1 o2 o3 o4 (some (.ref ll)) none none none none D.sc) → ∀ tk, wpAny (model Pg w) (Ar dp un fr gd) (execs ((lawBody w).drop 7) (lawEnv w D.L fa cd)) Q Nv ⟨h', Gs, Dr, tk, O⟩) :
    wpAny (model Pg w) (Ar dp un fr gd) (execs ((lawBody w).drop 5) (lawEnv w D.L fa cd)) Q Nv ⟨h, Gs, Dr, t0, O⟩ := by
  obtain ⟨X, T⟩ := G
  have hrw : PySem.Challenge.rw_np0001_01 = PySem.Challenge.rw_np0001_01 := rfl
  revert X hrw
  k_fill
  intro X hrw
  rw [show (lawBody w).drop 5 = _ :: _ :: (lawBody w).drop 7 by with_unfolding_all rfl]
  unfold lawEnv at k ⊢
  rw [show (lawRec w).scope = Scope.mk _ _ _ _ _ by with_unfolding_all rfl] at k ⊢
  obtain ⟨L, cc, q, td, tb, bn, lk, rl, rn, sc, cs, ns, rows, rvs⟩ := D
  obtain ⟨r1, r2, r3, r4, r5, r6, r7, r8⟩ := id hc.c.ord
  dsimp only at *
  obtain ⟨frz, F7, N7, off, infrz, kback⟩ := kmode (own := []) (g := gh) hns hc.c.sub hc.c.above (by first | k_mem | simp)
  simp only [List.nil_append] at N7
  refine stmtH fun Q1 k1 k2 => ?_
  k_steps
  refine k1 _ (fun tk => ?_) _
  clear k1 k2 Q1
  rename_i T0 g1 lT0 T1 g2 lT1 ll g3 lll hA FA NA
  (revert ll; intro (ll : Nat); set_option tactic.hygienic false in intros)
  (revert T0; intro (T0 : Nat); set_option tactic.hygienic false in intros)
  (revert T1; intro (T1 : Nat); set_option tactic.hygienic false in intros)
  have kb1 : KB [L] h hA := kback _ _ _ FA NA (fun p hp => by repeat (first | exact hp | exact List.mem_append_left _ hp | exact List.mem_append_right _ hp | refine List.Mem.tail _ ?_))
  have AT0 := allLt_of lT0
  have infr : ∀ (a : Nat) o, h.get? a = some o → a ≠ L → gh.get? a = none → (a, o) ∈ frz := fun a o e n g => infrz a o e n (by first | k_mem | simp) g
  obtain ⟨lv0, m0, no, xs0, z1, _, z3, _, _, _⟩ := id hc.lks
  dsimp only at z1 z3
  have lkm := infr lk _ z1 (by lia) (hc.c.gM (by first | k_mem | simp))
  obtain ⟨nlk, nrl⟩ := hc.c.xs nu (.head _)
  dsimp only at nlk nrl
  have num := infr nu _ z3 (by lia) (hc.c.gM (by first | k_mem | simp))
  have lkT0 : lk < T0 := ltOf AT0 _ lkm
  have nuT0 : nu < T0 := ltOf AT0 _ num
  have T01 : T0 < T1 := lT1.1
  have T1l : T1 < ll := lll.1
  have fll : h.get? ll = none := frFresh infrz lll.2.2 (NA (ll, _) (by k_mem)).2 (by first | k_mem | simp)
  have llrl : ll ≠ rl := by rintro rfl; have := of_hideAll _ hc.c.rlo; dsimp only at this; rw [fll] at this; cases this
  have hcA : LawS w gh hA (LD.mk L cc q td tb bn lk rl rn sc cs ns rows rvs) [ll, nu] nu ks lt [ks] := hc.step kb1 (by first | k_mem | simp) (by first | k_mem | (simp; lia)) (by
    refine fa2 ?_ ?_
    · exact .inr ⟨fll, by show lk < ll; lia, llrl⟩
    · exact .inl (.head _))
  have hpA : PotK hA (LD.mk L cc q td tb bn lk rl rn sc cs ns rows rvs) 60 := hp.step hc.c kb1 (by first | k_mem | (simp; lia))
  have h103A := kb1 103 _ (by first | k_mem | (simp; lia)) h103
  have hllA := (NA (ll, _) (by k_mem)).1
  have nM : ∀ a : Nat, lk < a → a ≠ nu → a ≠ ll → a ∉ ([ll, nu] ++ (LD.M (LD.mk L cc q td tb bn lk rl rn sc cs ns rows rvs))) := fun a x1 x2 x3 => nmC x3 (notM hc.c.ord x1 x2)
  have hLA : ListsN (hideAll hA ([ll, nu] ++ (LD.M (LD.mk L cc q td tb bn lk rl rn sc cs ns rows rvs)))) [.ref T0, .ref T1] [[], [Str.ofString "u"]] := by
    refine ⟨.cons ⟨T0, [], rfl, ⟨_, hide_of (NA (T0, _) (by k_mem)).1 (nM _ (by lia) (by lia) (by lia)), rfl, _, rfl⟩, .nil⟩ (.cons ⟨T1, _, rfl, ⟨_, hide_of (NA (T1, _) (by k_mem)).1 (nM _ (by lia) (by lia) (by lia)), rfl, _, rfl⟩, .cons ⟨_, rfl⟩ .nil⟩ .nil), ?_, rfl⟩
    refine fa2 ?_ ?_
    · exact ⟨by simp, by simp⟩
    · exact ⟨by simp, by decide +kernel⟩
  have hnsA : hA.Ns L (mL o1 o2 o3 none (some (.ref ll)) none none none none sc) := nsEq FA.ns mL_lists
  clear FA NA kback infr infrz lkm num
  obtain ⟨frz, F7, N7, off, infrz, kback⟩ := kmode (own := []) (g := gh) hnsA hcA.c.sub hcA.c.above (by first | k_mem | simp)
  simp only [List.nil_append] at N7
  refine stmtH fun Q1 k1 k2 => ?_
  k_steps
  rename IsRange _ _ _ _ _ _ _ _ => hR
  dsimp only at hR ⊢
  rename News _ _ _ _ => NB
  rename Fr _ _ _ _ => FB
  rename_i hB tkR tr1 tr2 tr3 hsB
  refine wpAny_pyIter_range hR (by decide +kernel) ?_
  rw [show Builtin.Range.rangeSize 0 6 1 = 6 by decide +kernel]
  dsimp only
  have hllI : ll < hB.objs.size := ltSz (hsB _ _ hllA)
  have nuI : nu < hB.objs.size := (hcA.lks.nuGet.elim fun _ q => ltSz (hsB _ _ q))
  have LI : L < hB.objs.size := FB.ns.lt
  generalize hI : hB.objs.size = I
  generalize hP : hB.push _ = hP0
  have subP : Sub hA hP0 := fun b o e => hP ▸ Heap.get?_push_of_some _ (hsB b o e)
  have fI : hA.get? I = none := by
    cases e : hA.get? I with
    | none => rfl
    | some o => have := ltSz (hsB _ _ e); lia
  have hcI : LawS w gh hP0 (LD.mk L cc q td tb bn lk rl rn sc cs ns rows rvs) [I, ll, nu] nu ks lt [ks] := hcA.step (KB.of_sub (av := []) subP) (by first | k_mem | simp) (by first | k_mem | simp) (by
    refine fa3 ?_ ?_ ?_
    · exact .inr ⟨fI, by show lk < I; lia, by show I ≠ rl; intro e; have := of_hideAll _ hcA.c.rlo; dsimp only at this; rw [← e, fI] at this; cases this⟩
    · exact .inl (.head _)
    · exact .inl (.tail _ (.head _)))
  have hpI : PotK hP0 (LD.mk L cc q td tb bn lk rl rn sc cs ns rows rvs) (60 + 4 * 0) := hpA.step hcA.c (KB.of_sub (av := []) subP) (by first | k_mem | simp)
  have hLI : ListsN (hideAll hP0 ([I, ll, nu] ++ (LD.M (LD.mk L cc q td tb bn lk rl rn sc cs ns rows rvs)))) [.ref T0, .ref T1] [[], [Str.ofString "u"]] := hLA.sub (hcA.hs (KB.of_sub (av := []) subP) (by first | k_mem | simp) (by
    refine fa3 ?_ ?_ ?_
    · exact .inr fI
    · exact .inl (.head _)
    · exact .inl (.tail _ (.head _))))
  refine ⟨I, [I], [I], [ll, q], 6, _, _, ScJ w gh L sc (LD.mk L cc q td tb bn lk rl rn sc cs ns rows rvs) I ll nu ks lt o1 o2 o3, rfl, ItS.of (Walks.range rfl I 0 1 6), ?_, ?_, ?_, ?_, ?_, ?_, ?_⟩
  · show IsRangeIter _ _ _ _ _
    rw [← hP, ← hI]
    simpa using Heap.get?_push_size hB rfl
  · intro b hb; simp only [List.mem_cons, List.not_mem_nil, or_false] at hb ⊢; lia
  · show L ∉ [I]; first | k_mem | (simp only [List.mem_cons, List.not_mem_nil, or_false, not_or]; lia)
  · exact ⟨none, _, _, _, hnsA.at' fun o e => subP _ _ e, hcI, hpI, subP _ _ h103A, subP _ _ hllA, hLI, rfl⟩
  · rintro i h1 h2 ⟨p4, lv, n, nls, a1, a2, a3, a4, a5, a6, a7⟩ kb
    exact ⟨p4, lv, n, nls, a1.at' fun o e => kb _ _ (by first | k_mem | (simp; lia)) e, a2.step kb (by first | k_mem | simp) (by first | k_mem | (simp; lia)) (by first | k_mem | simp), a3.step a2.c kb (by first | k_mem | (simp; lia)), kb _ _ (by first | k_mem | (simp; lia)) a4, kb _ _ (by first | k_mem | (simp; lia)) a5, a6.sub (a2.hs kb (by first | k_mem | simp) (by first | k_mem | simp)), a7⟩
  · intro i v h1 tk1 hi hvi hst hPt7 _
    refine turnQ fun Qc kc => ?_
    obtain ⟨p4, lv, n, nls, a1, a2, a3, a4, a5, a6, a7⟩ := hPt7
    obtain ⟨tv, rfl⟩ := hvi
    clear hc hp h103 hns hcA hpA h103A hLA hcI hpI hLI k1 k2 k kback infrz off FB NB hnsA kb1 hllA
    obtain ⟨opot, hopot, dpot⟩ := id a2.c.cpot
    obtain ⟨⟨occ, hocc, ccls, ccn, cdat⟩, hcsi, hcsl⟩ := id a2.c.hpg
    replace hocc := of_hideAll _ hocc
    obtain ⟨po, hpo, hpo'⟩ := id a3
    dsimp only at *
    have hown : ∀ p ∈ ([(L + 1, opot), (cc, occ), (q, po), (ll, lstO lv n)] : List (Addr × Obj)), h1.get? p.1 = some p.2 ∧ p.1 ≠ L ∧ gh.get? p.1 = none := by
      refine fa4 ?_ ?_ ?_ ?_
      · exact ⟨hopot, (by show @Ne Nat (L + 1) L; lia), a2.c.gn (by show L ≤ L + 1; lia)⟩
      · exact ⟨hocc, (by show @Ne Nat cc L; lia), a2.c.gcc⟩
      · exact ⟨hpo, (by show @Ne Nat q L; lia), a2.c.gn (by show L ≤ q; lia)⟩
      · exact ⟨a5, (by show @Ne Nat ll L; lia), a2.c.gn (by show L ≤ ll; lia)⟩
    obtain ⟨frz, F7, N7, off, infrz, kback⟩ := kmode (g := gh) a1 a2.c.sub a2.c.above hown
    simp only [List.cons_append, List.nil_append] at N7
    have hlvl : lv.length ≤ 1000 := by have := a6.are.length; have h6 : i < 6 := hi; lia
    have h6 : i < 6 := hi
    k_steps
    rename IsRange _ _ _ _ _ _ _ _ => hR
    dsimp only at hR ⊢
    rename News _ _ _ _ => N9
    rename Fr _ _ _ _ => F9
    rename PotO _ _ _ => hpo9
    have cq : L + 1 ≠ q := neN (by lia)
    obtain ⟨nn, hnn, hn2⟩ : ∃ nn : Nat, 1 + _ = (nn : Int) ∧ nn ≤ 3 := pick3 (by assumption) (by assumption)
    refine dip_compL (P := NmIs) (good := (· < 6)) (n := nn) (q := q) (cc := L + 1) (co := opot) hR X T F9 N9 (by k_updF) (by k_mem) cq hpo9 ⟨⟨_, News.get N9 (by k_mem), by assumption, _, by assumption⟩, by assumption, by assumption⟩ (neN (by lia)) (neN (by lia)) hnn (by lia) rfl rfl (by with_unfolding_all rfl) ?_ ?_
    · intro gB C hh tkk m₂ po2 k' frz' hk1 hk2 XB TB pgB FB NB offB cq hpo2
      have off_q : ∀ p ∈ frz', p.1 ≠ q := offB
      clear kback infrz off hown
      k_steps
      rename News _ _ _ _ => N8
      rename Fr _ _ _ _ => F8
      rename (0 : Int) ≤ _ => r0
      rename _ < (6 : Int) => r6
      exact elt6 F8 N8 (by assumption) r0 r6
    · intro h2 xs2 ys2 D2 C2 av2 h' tk' po2 e2 F' N' lD hpo2 hlen2 hP2 hg2
      dsimp only
      have hys2 : ys2.length ≤ 100 := by have := hP2.length; lia
      have lD2 : (ll : Nat) < D2 := ltN (lD (ll, _) (by k_mem))
      have lD3 : (q : Nat) < D2 := ltN (lD (q, _) (by k_mem))
      have lD4 : (cc : Nat) < D2 := ltN (lD (cc, _) (by k_mem))
      have off_D2 : ∀ p ∈ frz, p.1 ≠ D2 := fun p hp => Nat.ne_of_lt (lD p (by repeat (first | exact hp | exact List.mem_append_left _ hp | exact List.mem_append_right _ hp | refine List.Mem.tail _ ?_)))
      clear F9 N9
      k_steps
      rename_i T9 h8 F8 N8 lT9 hZ n9 FZ NZ
      (revert T9; intro (T9 : Nat); set_option tactic.hygienic false in intros)
      have kb9 : KB [L, ll, q] h1 hZ := ownKB (kback _ _ _ FZ NZ (fun p hp => by repeat (first | exact hp | exact List.mem_append_left _ hp | exact List.mem_append_right _ hp | refine List.Mem.tail _ ?_))) hown NZ (by first | k_mem | simp) (by
        refine fa4 ?_ ?_ ?_ ?_
        all_goals first | exact .inr (by k_mem) | exact .inl (by first | k_mem | simp))
      have infr : ∀ (a : Nat) o, h1.get? a = some o → a ∉ ([L, L + 1, cc, q, ll] : List Nat) → gh.get? a = none → (a, o) ∈ frz := fun a o e n g => infrz a o e (fun q => n (List.mem_cons.mpr (.inl q))) (fun q => n (List.mem_cons_of_mem _ q)) g
      have A9 := lT9.2.2.2.2.2
      obtain ⟨lv0, m0, no, xs0, z1, _, z3, _, _, _⟩ := id a2.lks
      dsimp only at z1 z3
      have lkT : lk < T9 := ltOf A9 _ (infr lk _ z1 (by first | k_mem | (simp only [List.mem_cons, List.not_mem_nil, or_false, not_or]; lia)) (a2.c.gM (by first | k_mem | simp)))
      have nuT : nu < T9 := ltOf A9 _ (infr nu _ z3 (by first | k_mem | (simp only [List.mem_cons, List.not_mem_nil, or_false, not_or]; lia)) (a2.c.gM (by first | k_mem | simp)))
      have IT : I < T9 := ltOf A9 _ (infr I _ hst (by first | k_mem | (simp only [List.mem_cons, List.not_mem_nil, or_false, not_or]; lia)) (a2.c.gM (by first | k_mem | simp)))
      have llT : ll < T9 := lT9.2.2.2.2.1
      have hsZ := a2.hs (Y := [I, ll, nu]) kb9 (by first | k_mem | simp) (by first | k_mem | simp)
      have cZ : LawS w gh hZ (LD.mk L cc q td tb bn lk rl rn sc cs ns rows rvs) [I, ll, nu] nu ks lt [ks] := a2.step kb9 (by first | k_mem | simp) (by first | k_mem | (simp; lia)) (by first | k_mem | simp)
      have hNT : NamesT (hideAll hZ ([I, ll, nu] ++ (LD.M (LD.mk L cc q td tb bn lk rl rn sc cs ns rows rvs)))) (xs2.map chr) (.ref T9) := by
        refine ⟨T9, ys2, rfl, ⟨_, hide_of (NZ (T9, _) (by k_mem)).1 ?_, rfl, _, rfl⟩, nmStr hP2⟩
        exact nmC (by show (T9 : Nat) ≠ I; lia) (nmC (by show (T9 : Nat) ≠ ll; lia) (notM a2.c.ord (by show lk < T9; lia) (by show (T9 : Nat) ≠ nu; lia)))
      have hNG : NGood (xs2.map chr) := ⟨by rw [List.length_map]; lia, fun hm => by
        obtain ⟨j, _, e⟩ := List.mem_map.mp hm
        exact chr_ne_default j e⟩
      exact kc _ ⟨hZ, _, rfl, kb9, _, lv ++ [.ref T9], n9, nls ++ [xs2.map chr], nsEq FZ.ns mL_nth, cZ, ⟨po2, (NZ (q, _) (by k_mem)).1, hpo2.le (by lia)⟩, kb9 _ _ (by first | k_mem | (simp; lia)) a4, (NZ (ll, _) (by k_mem)).1, (a6.sub hsZ).snoc hNT hNG, by rw [List.length_append, a7]; rfl⟩
  · rintro h1 tk1 ⟨p4, lv, n, nls, a1, a2, a3, a4, a5, a6, a7⟩ _
    have hX : ∀ y ∈ [nu], y ∈ [I, ll, nu] := by simp
    refine k1 _ (fun tkz => ?_) _
    refine k h1 p4 ll lv n nls (a2.refl hX) (MT.of a2 a1 a3 a4) a4 (hide_of a5 ?_) (a6.sub (a2.hs (KB.refl [] _) (by first | k_mem | simp) (fun y hy => .inl (hX y hy)))) a7 a1 tkz
    exact notM a2.c.ord (by show lk < ll; lia) (by show (ll : Nat) ≠ nu; lia)
end Mine

end
section
open PySem PySem.Spec PySem.Calls PySem.W PyProof.Rows
set_option Elab.async false
set_option linter.unusedVariables false
set_option maxRecDepth 100000
namespace Mine
theorem kxSf : True := by
  k_with_none
  k_with "ne" => (refine neN ?_; (try dsimp only); first | with_reducible assumption | exact Ne.symm (by with_reducible assumption) | exact Nat.ne_of_lt (by with_reducible assumption) | exact Nat.ne_of_gt (by with_reducible assumption) | lia)
  k_with "mem" => first | exact nm0 | (refine nmC ?_ ?_; k_ne; k_mem) | (refine inL ?_; k_mem) | exact fa0 | (refine faC ?_ ?_; k_mem; k_mem)
  trivial
local macro_rules | `(tactic| k_all) => `(tactic| assumption)
local macro_rules | `(tactic| k_all) => `(tactic| (refine offTwo (by assumption) ?_; simp))
theorem wSf1 : True := by
  k_with "storeName" => ((with_reducible show wpAny _ _ (storeName (compEnvC _ _ _ _) _ _) _ _ _); k_dflt (refine' storeC ?F ?N ?hC ?hx ?hk ?_; (case F => k_asm); (case N => k_asm); (case hC => with_unfolding_all rfl); (case hx => with_unfolding_all rfl); (case hk => with_unfolding_all rfl); intro _ _ _))
  trivial
theorem wSf2 : True := by
  k_with "exec Assign cons ListComp" => k_dflt (refine' comp_assignD ?hsw ?hclos ?hcell ?hkind ?hnames ?hy ?hp ?_ ?hs; (case hsw => with_unfolding_all rfl); (case hclos => with_unfolding_all rfl); (case hcell => decide); (case hkind => with_unfolding_all rfl); (case hnames => decide); (case hy => with_unfolding_all rfl); (case hp => with_unfolding_all rfl); (case hs => intro _; with_unfolding_all rfl))
  trivial
theorem mL_numbers {v : Value} {o1 o2 o3 o4 o5 o6 o7 o8 o9 : Option Value} {sc : Value} : (fun y => if y = Str.ofString "numbers" then some v else mL o1 o2 o3 o4 o5 o6 o7 o8 o9 sc y) = mL o1 o2 o3 o4 o5 (some v) o7 o8 o9 sc := by
  funext y
  by_cases h1 : y = Str.ofString "numbers"
  · subst h1; with_unfolding_all rfl
  · simp only [mL, if_neg h1]
theorem notHid {av : List Nat} {h : Heap} {a : Nat} {o : Obj} (e : (hideAll h av).get? a = some o) : a ∉ av := fun q => by rw [hideAll_none _ q] at e; cases e
set_option maxHeartbeats 8000000 in
theorem law_d {w : World} {fa : Addr} {cd : Value} {mean : ExcName → Option Value} {mg mb : Str → Option Value} {gh h : Heap} {D : LD} {Gs : Array GenState} {Dr : Drawn} {t0 : Nat} {O : OsState} {dp un nu lt ll n : Nat} {fr : Option (List Env)} {gd : Option (List Code)} {Q : Flow → Shared → Prop} {o1 o2 o3 o4 : Option Value} {ks : List Int} {lv : List Value} {nls : List (List Str)}
    (G : Gd w mean mg mb gh) (hc : LawS w gh h D [nu] nu ks lt [ks]) (hmt : MT h ([nu] ++ D.M)) (h103 : h.get? 103 = some (tabObj #[])) (hll : (hideAll h ([nu] ++ D.M)).get? ll = some (lstO lv n)) (hL : ListsN (hideAll h ([nu] ++ D.M)) lv nls) (hlen : nls.length = 8)
    (hns : h.Ns D.L (mL o1 o2 o3 o4 (some (.ref ll)) none none none none D.sc)) (hdp : dp < 320) (hun : un < 300)
    (k : ∀ h' nb zs n' looks, LawS w gh h' D [nu] nu ks lt looks → MT h' ([nu] ++ D.M) → h'.get? 103 = some (tabObj #[]) → (hideAll h' ([nu] ++ D.M)).get? ll = some (lstO lv n) → ListsN (hideAll h' ([nu] ++ D.M)) lv nls → (hideAll h' ([nu] ++ D.M)).get? nb = some (lstO zs n') →
      Are (NumIs D.rows ks looks) nls zs → looks[0]? = some ks → looks.length ≤ 9 → h'.Ns D.L (mL o1 o2 o3 o4 (some (.ref ll)) (some (.ref nb)) none none none D.sc) → ∀ tk, wpAny (model Pg w) (Ar dp un fr gd) (execs ((lawBody w).drop 8) (lawEnv w D.L fa cd)) Q Nv ⟨h', Gs, Dr, tk, O⟩) :
    wpAny (model Pg w) (Ar dp un fr gd) (execs ((lawBody w).drop 7) (lawEnv w D.L fa cd)) Q Nv ⟨h, Gs, Dr, t0, O⟩ := by
  have G' := G
  obtain ⟨X, T⟩ := G
  have hrw : PySem.Challenge.rw_np0001_01 = PySem.Challenge.rw_np0001_01 := rfl
  revert X hrw
  k_fill
  intro X hrw
  rw [show (lawBody w).drop 7 = _ :: (lawBody w).drop 8 by with_unfolding_all rfl]
  unfold lawEnv at k ⊢
  rw [show (lawRec w).scope = Scope.mk _ _ _ _ _ by with_unfolding_all rfl] at k ⊢
  obtain ⟨L, cc, q, td, tb, bn, lk, rl, rn, sc, cs, ns, rows, rvs⟩ := D
  obtain ⟨r1, r2, r3, r4, r5, r6, r7, r8⟩ := id hc.c.ord
  dsimp only at *
  obtain ⟨frz, F7, N7, off, infrz, kback⟩ := kmode (own := []) (g := gh) hns hc.c.sub hc.c.above (by first | k_mem | simp)
  simp only [List.nil_append] at N7
  refine stmtH fun Q1 k1 k2 => ?_
  k_steps
  have hll' := of_hideAll _ hll
  refine wpAny_pyIter_list ⟨_, hll', rfl, _, rfl⟩ ?_
  refine ⟨⟨_, hns.at' fun o e => Heap.get?_push_of_some _ e⟩, ?_⟩
  refine number_comp0 (dp := dp) (un := un) (fun i looks => looks.length ≤ i + 1 ∧ looks[0]? = some ks) G' hc hmt ⟨by simp, rfl⟩ (fun i looks hi hP => ⟨by lia, hP.2⟩) ?_ hll' (notHid hll) hL hlen (by lia) (by lia) ?_ ?_
  · rintro i looks looks' names hi _ ⟨p1, p2⟩ hlk _
    rcases hlk with rfl | ⟨L', rfl⟩
    · exact ⟨by lia, p2⟩
    · refine ⟨by simp; lia, ?_⟩
      cases looks with
      | nil => cases p2
      | cons a l => exact p2
  · intro C hh tk m₁ v Q' lC _ hsub habove hct htb htd hnsC kq
    obtain ⟨otab, hotab, dtab⟩ := hct
    obtain ⟨t1, t2, t3, tn, htd⟩ := htd
    dsimp only at lC hotab dtab htb htd ⊢
    have hgn : ∀ a : Nat, L ≤ a → gh.get? a = none := fun a ha => hc.c.gn ha
    clear F7 N7 off infrz kback k1 k2 k hns hc hmt hL
    have hown : ∀ p ∈ ([(L + 2, otab), (tb, instObj 80 td), (td, tabO w t1 t2 t3 bn lk nu tn)] : List (Addr × Obj)), hh.get? p.1 = some p.2 ∧ p.1 ≠ C ∧ gh.get? p.1 = none := by
      refine fa3 ?_ ?_ ?_
      · exact ⟨hotab, (by show @Ne Nat (L + 2) C; lia), hgn _ (by lia)⟩
      · exact ⟨htb, (by show @Ne Nat tb C; lia), hgn _ (by lia)⟩
      · exact ⟨htd, (by show @Ne Nat td C; lia), hgn _ (by lia)⟩
    obtain ⟨frz, F7, N7, off, infrz, kback⟩ := kmode (g := gh) hnsC hsub habove hown
    simp only [List.cons_append, List.nil_append] at N7
    k_steps
    all_goals first
      | (rename News _ _ _ _ => N8
         rename Fr _ _ _ _ => F8
         refine kq _ _ _ (ownKB (kback _ _ _ F8 N8 (fun p hp => by repeat (first | exact hp | exact List.mem_append_left _ hp | exact List.mem_append_right _ hp | refine List.Mem.tail _ ?_))) hown N8 (by first | k_mem | simp) ?_) F8.ns
         refine fa3 ?_ ?_ ?_
         all_goals exact .inr (by k_mem))
      | exact Str.ofString "" | exact Value.none | exact ([] : List (Str × Addr)) | exact (0 : Nat)
  · intro zs av h' tk' looks' c' mt' hPP hN hpl hkb
    have hlkS : @LT.lt Nat _ lk h.objs.size := hc.lks.lkLt
    have hnuS : nu < h.objs.size := (hc.lks.nuGet.elim fun _ q => ltSz q)
    have hllS : ll < h.objs.size := ltSz hll'
    have hllM := notHid hll
    obtain ⟨nlk, nrl⟩ := hc.c.xs nu (.head _)
    have hrlS : @LT.lt Nat _ rl h.objs.size := ltSz (of_hideAll _ hc.c.rlo)
    dsimp only at nlk nrl
    have hns' := hns.at' fun o e => hkb L o (by first | k_mem | (simp only [List.mem_cons, List.not_mem_nil, or_false, not_or]; lia)) e
    refine ⟨_, hns', fun h'' tk'' hn'' kb'' => ?_⟩
    have kb3 : KB [L, h.objs.size + 2] h' h'' := kb''
    have s1 : Sub (hideAll h ([nu] ++ LD.M (LD.mk L cc q td tb bn lk rl rn sc cs ns rows rvs))) (hideAll h' ([h.objs.size, h.objs.size + 1, h.objs.size + 2, nu] ++ LD.M (LD.mk L cc q td tb bn lk rl rn sc cs ns rows rvs))) := hc.hs hkb (by first | k_mem | simp) (by
      refine fa4 ?_ ?_ ?_ ?_
      · exact .inr (fresh_self (Nat.le_refl _))
      · exact .inr (fresh_self (Nat.le_succ _))
      · exact .inr (fresh_self (by lia))
      · exact .inl (.head _))
    have s2 : Sub _ (hideAll h'' ([nu] ++ LD.M (LD.mk L cc q td tb bn lk rl rn sc cs ns rows rvs))) := c'.hs (Y := [nu]) kb3 (by first | k_mem | simp) (by first | k_mem | simp)
    obtain ⟨e9, hpl⟩ := hpl
    refine k1 _ (k h'' (h.objs.size + 1) zs e9 looks' (c'.step kb3 (by first | k_mem | simp) (by first | k_mem | (simp; lia)) (by first | k_mem | simp)) (mt'.kbL kb3 hn'' (fun b hb => ?_)) (kb3 _ _ (by first | k_mem | (simp; lia)) (hkb _ _ (by first | k_mem | (simp; lia)) h103)) (s2 _ _ (s1 _ _ hll)) (hL.sub fun b o e => s2 _ _ (s1 _ _ e)) (hide_of (kb3 _ _ (by first | k_mem | (simp; lia)) hpl) ?_) hN hPP.2 (by lia) (nsEq hn'' mL_numbers)) _
    · obtain ⟨o, a, _⟩ := hmt b hb
      have := ltSz a
      simp only [List.mem_cons, List.not_mem_nil, or_false]
      lia
    · intro hb
      obtain ⟨o, a, _⟩ := hmt _ hb
      have := ltSz a
      lia
end Mine

end
section
open PySem PySem.Spec PySem.Calls PySem.W PyProof.Rows
set_option Elab.async false
set_option linter.unusedVariables false
set_option maxRecDepth 100000
namespace Mine
theorem kxSg : True := by
  k_with_none
  k_with "ne" => (refine neN ?_; (try dsimp only); first | with_reducible assumption | exact Ne.symm (by with_reducible assumption) | exact Nat.ne_of_lt (by with_reducible assumption) | exact Nat.ne_of_gt (by with_reducible assumption) | lia)
  k_with "mem" => first | exact nm0 | (refine nmC ?_ ?_; k_ne; k_mem) | (refine inL ?_; k_mem) | exact fa0 | (refine faC ?_ ?_; k_mem; k_mem)
  trivial
local macro_rules | `(tactic| k_all) => `(tactic| assumption)
local macro_rules | `(tactic| k_all) => `(tactic| (refine offTwo (by assumption) ?_; simp))
theorem wSg1 : True := by
  k_with "storeName" => ((with_reducible show wpAny _ _ (storeName (compEnvC _ _ _ _) _ _) _ _ _); k_dflt (refine' storeC ?F ?N ?hC ?hx ?hk ?_; (case F => k_asm); (case N => k_asm); (case hC => with_unfolding_all rfl); (case hx => with_unfolding_all rfl); (case hk => with_unfolding_all rfl); intro _ _ _))
  trivial
theorem wSg2 : True := by
  k_with "exec Assign cons ListComp" => k_dflt (refine' comp_assignD ?hsw ?hclos ?hcell ?hkind ?hnames ?hy ?hp ?_ ?hs; (case hsw => with_unfolding_all rfl); (case hclos => with_unfolding_all rfl); (case hcell => decide); (case hkind => with_unfolding_all rfl); (case hnames => decide); (case hy => with_unfolding_all rfl); (case hp => with_unfolding_all rfl); (case hs => intro _; with_unfolding_all rfl))
  trivial
theorem mL_looks {v : Value} {o1 o2 o3 o4 o5 o6 o7 o8 o9 : Option Value} {sc : Value} : (fun y => if y = Str.ofString "looks" then some v else mL o1 o2 o3 o4 o5 o6 o7 o8 o9 sc y) = mL o1 o2 o3 o4 o5 o6 (some v) o8 o9 sc := by
  funext y
  by_cases h1 : y = Str.ofString "looks"
  · subst h1; with_unfolding_all rfl
  · simp only [mL, if_neg h1]
theorem TabOk.hides {h : Heap} {av : List Nat} {ps : Array Value} (x : TabOk h ps) (n : ∀ b ∈ av, ∀ o, h.get? b = some o → NoStr o) : TabOk (hideAll h av) ps := by
  rcases x with x | ⟨c', oc, vs, t, a, b, c, d⟩
  · exact .inl x
  · exact .inr ⟨c', oc, vs, t, a, hideAll_get _ b fun q => n _ q oc b vs _ t c d, c, d⟩
/-- the look of a list of names, as the slow rule tells it -/
def LookR (rows : List RowD) (ks : List Int) (hz : Heap) (names : List Str) (v : Value) : Prop :=
  ∃ (a : Nat) (vs : List Value) (r : List Str), v = .ref a ∧ hz.IsTuple a vs.toArray ∧ Are IntIs (lookL rows r ks) vs ∧ Go (rowTab rows) names [] r
theorem LookR.sub {rows ks} {g h : Heap} {names v} (s : Sub g h) (x : LookR rows ks g names v) : LookR rows ks h names v := let ⟨a, vs, r, e, x, y⟩ := x; ⟨a, vs, r, e, tupSub s x, y⟩
theorem look_turn {w : World} {mean : ExcName → Option Value} {mg mb : Str → Option Value} {gh h : Heap} {D : LD} {X : List Nat} {nu lt : Nat} {ks : List Int} {looks : List (List Int)} {v : Value} {names : List Str} {ps : Array Value} {Gs : Array GenState} {Dr : Drawn} {t0 : Nat} {O : OsState} {dp un : Nat} {fr : Option (List Env)} {gd : Option (List Code)} {Q : Value → Shared → Prop} {E : Value → Shared → Prop}
    (G : Gd w mean mg mb gh) (hC : CodeHd gh 107 103) (hc : LawS w gh h D X nu ks lt looks) (hnu : nu ∈ X) (hmt : MT h (X ++ D.M)) (ht : h.get? 103 = some (tabObj ps)) (htab : TabOk h ps) (hn : NamesT (hideAll h (X ++ D.M)) names v) (hng : NGood names) (hdp : dp < 350) (hun : un < 400)
    (hQ : ∀ (T : Nat) ps' h' tk', KB [103] h h' → LawS w gh h' D X nu ks lt looks → MT h' (X ++ D.M) → h'.get? 103 = some (tabObj ps') → TabOk h' ps' → LookR D.rows ks (hideAll h' (X ++ D.M)) names (.ref T) → Q (.ref T) ⟨h', Gs, Dr, tk', O⟩) :
    wpAny (model Pg w) (Ar dp un fr gd) (call (.ref 113) [.ref D.rl, v, .ref lt]) Q E ⟨h, Gs, Dr, t0, O⟩ := by
  obtain ⟨nt, ws, rfl, hnt, hws⟩ := hn
  obtain ⟨_, ⟨lvs, l1, l2⟩, b3, _⟩ := id hc.b
  obtain ⟨lv, n, no, xs, z1, _, z3, _, _, _⟩ := id hc.lks
  obtain ⟨o1, o2, o3, o4, o5, o6, o7, o8⟩ := id hc.c.ord
  have nlk := (hc.c.xs nu hnu).1
  have hsh : Sub (hideAll h (X ++ D.M)) h := fun b o e => of_hideAll _ e
  refine wpNv ?_
  refine wpAny_call (look_ok (names := names) (lastL := ks) G hc.c.sub hC ht htab hc.c.g103 (hsh _ _ hc.c.rlo) (hc.c.rws.sub hsh) hc.c.good hc.c.rlen (tupSub hsh hnt) hws hng.1 (tupSub hsh l1) l2 b3 (by lia) (by lia) ?_)
  intro T vs' r ps' h' tk' kb e1 e2 e3 e4 e5 e6
  have cS : LawS w gh h' D X nu ks lt looks := hc.step kb (fun a ha => .inl (List.mem_append_right _ (by rw [List.mem_singleton.mp ha]; simp))) (by simp only [List.mem_cons, List.not_mem_nil, or_false]; lia) fun y hy => .inl hy
  have mt' : MT h' (X ++ D.M) := fun b hb => by
    by_cases q : b = 103
    · subst q; exact ⟨_, e5, fun _ _ e _ => absurd e (show (Value.none) ≠ .type "tuple" by decide)⟩
    · obtain ⟨o, a1, a2⟩ := hmt b hb
      exact ⟨o, kb _ _ (by simpa using q) a1, a2⟩
  exact hQ T ps' h' tk' kb cS mt' e5 e6 ⟨T, vs', r, rfl, tupHideT e2 (fun b hb o e => by
    obtain ⟨o', a1, a2⟩ := mt' b hb
    rw [a1] at e; cases e; exact a2), e3, e4⟩
theorem farUp {h1 h2 : Heap} {b C : Nat} {P : Obj → Prop} (f : ∃ o, h1.get? b = some o ∧ P o) (k : KB [C] h1 h2) (n : b ≠ C) : ∃ o, h2.get? b = some o ∧ P o := f.imp fun _ q => ⟨k _ _ (nmC n nm0) q.1, q.2⟩
theorem nsMTo {h : Heap} {L : Nat} {m : Str → Option Value} (x : h.Ns L m) : ∃ o, h.get? L = some o ∧ (∀ xs n, o.cls = .type "tuple" → o.data = .seq xs n → False) ∧ NoStr o := by
  obtain ⟨oo, es, ep, a, b, _⟩ := id x
  exact ⟨oo, a, fun xs n hc hd => (by rw [hd] at b; exact nomatch b), noStr_ns x _ a⟩
set_option maxHeartbeats 8000000 in
theorem law_e {w : World} {fa : Addr} {cd : Value} {mean : ExcName → Option Value} {mg mb : Str → Option Value} {gh h : Heap} {D : LD} {Gs : Array GenState} {Dr : Drawn} {t0 : Nat} {O : OsState} {dp un nu lt ll n nb nn : Nat} {fr : Option (List Env)} {gd : Option (List Code)} {Q : Flow → Shared → Prop} {o1 o2 o3 o4 : Option Value} {ks : List Int} {looks : List (List Int)} {lv nv : List Value} {nls : List (List Str)}
    (G : Gd w mean mg mb gh) (hC : CodeHd gh 107 103) (hc : LawS w gh h D [nu] nu ks lt looks) (hmt : MT h ([nu] ++ D.M)) (h103 : h.get? 103 = some (tabObj #[])) (hll : (hideAll h ([nu] ++ D.M)).get? ll = some (lstO lv n)) (hL : ListsN (hideAll h ([nu] ++ D.M)) lv nls) (hlen : nls.length = 8) (hnb : (hideAll h ([nu] ++ D.M)).get? nb = some (lstO nv nn))
    (hns : h.Ns D.L (mL o1 o2 o3 o4 (some (.ref ll)) (some (.ref nb)) none none none D.sc)) (hdp : dp < 320) (hun : un < 300)
    (k : ∀ h' lb zs n', LawS w gh h' D [nu] nu ks lt looks → MT h' ([nu] ++ D.M) → (∃ ps, h'.get? 103 = some (tabObj ps)) → (hideAll h' ([nu] ++ D.M)).get? ll = some (lstO lv n) → ListsN (hideAll h' ([nu] ++ D.M)) lv nls → (hideAll h' ([nu] ++ D.M)).get? nb = some (lstO nv nn) → (hideAll h' ([nu] ++ D.M)).get? lb = some (lstO zs n') →
      Are (LookR D.rows ks (hideAll h' ([nu] ++ D.M))) nls zs → h'.Ns D.L (mL o1 o2 o3 o4 (some (.ref ll)) (some (.ref nb)) (some (.ref lb)) none none D.sc) → ∀ tk, wpAny (model Pg w) (Ar dp un fr gd) (execs ((lawBody w).drop 9) (lawEnv w D.L fa cd)) Q Nv ⟨h', Gs, Dr, tk, O⟩) :
    wpAny (model Pg w) (Ar dp un fr gd) (execs ((lawBody w).drop 8) (lawEnv w D.L fa cd)) Q Nv ⟨h, Gs, Dr, t0, O⟩ := by
  have G' := G
  obtain ⟨X, T⟩ := G
  have hrw : PySem.Challenge.rw_np0001_01 = PySem.Challenge.rw_np0001_01 := rfl
  revert X hrw
  k_fill
  intro X hrw
  rw [show (lawBody w).drop 8 = _ :: (lawBody w).drop 9 by with_unfolding_all rfl]
  unfold lawEnv at k ⊢
  rw [show (lawRec w).scope = Scope.mk _ _ _ _ _ by with_unfolding_all rfl] at k ⊢
  obtain ⟨L, cc, q, td, tb, bn, lk, rl, rn, sc, cs, ns, rows, rvs⟩ := D
  obtain ⟨r1, r2, r3, r4, r5, r6, r7, r8⟩ := id hc.c.ord
  dsimp only at *
  obtain ⟨frz, F7, N7, off, infrz, kback⟩ := kmode (own := []) (g := gh) hns hc.c.sub hc.c.above (by first | k_mem | simp)
  simp only [List.nil_append] at N7
  refine stmtH fun Q1 k1 k2 => ?_
  k_steps
  have hll' := of_hideAll _ hll
  have hlkS : @LT.lt Nat _ lk h.objs.size := hc.lks.lkLt
  have hnuS : nu < h.objs.size := (hc.lks.nuGet.elim fun _ q => ltSz q)
  have hllS : ll < h.objs.size := ltSz hll'
  have hllM := notHid hll
  obtain ⟨nlk, nrl⟩ := hc.c.xs nu (.head _)
  have hrlS : @LT.lt Nat _ rl h.objs.size := ltSz (of_hideAll _ hc.c.rlo)
  dsimp only at nlk nrl
  have hlv : lv.length = 8 := by rw [← hL.are.length, hlen]
  have hnM : ∀ b ∈ [nu] ++ LD.M (LD.mk L cc q td tb bn lk rl rn sc cs ns rows rvs), b < h.objs.size := fun b hb => let ⟨o, a, _⟩ := hmt b hb; ltSz a
  have hY : ∀ y ∈ [h.objs.size, h.objs.size + 1, h.objs.size + 2, nu], y ∈ [nu] ∨ (h.get? y = none ∧ @LT.lt Nat _ lk y ∧ y ≠ rl) := by
    refine fa4 ?_ ?_ ?_ ?_
    · exact .inr ⟨fresh_self (Nat.le_refl _), by lia, by lia⟩
    · exact .inr ⟨fresh_self (Nat.le_succ _), by lia, by lia⟩
    · exact .inr ⟨fresh_self (by lia), by lia, by lia⟩
    · exact .inl (.head _)
  have hc3 : LawS w gh h (LD.mk L cc q td tb bn lk rl rn sc cs ns rows rvs) [h.objs.size, h.objs.size + 1, h.objs.size + 2, nu] nu ks lt looks := hc.step (KB.refl [] _) (by first | k_mem | simp) (by first | k_mem | simp) hY
  refine wpAny_pyIter_list ⟨_, hll', rfl, _, rfl⟩ ?_
  refine ⟨⟨_, hns.at' fun o e => Heap.get?_push_of_some _ e⟩, ?_⟩
  refine list_compD0 (md := [103]) (fun i ys h' => LawS w gh h' (LD.mk L cc q td tb bn lk rl rn sc cs ns rows rvs) [h.objs.size, h.objs.size + 1, h.objs.size + 2, nu] nu ks lt looks ∧ MT h' ([nu] ++ LD.M (LD.mk L cc q td tb bn lk rl rn sc cs ns rows rvs)) ∧ (∃ ps, h'.get? 103 = some (tabObj ps) ∧ TabOk (hideAll h' [h.objs.size, h.objs.size + 1, h.objs.size + 2]) ps) ∧
    Are (LookR rows ks (hideAll h' ([h.objs.size, h.objs.size + 1, h.objs.size + 2, nu] ++ LD.M (LD.mk L cc q td tb bn lk rl rn sc cs ns rows rvs)))) (nls.take i) ys) rfl hll' (by lia) ?_ ⟨hc3, hmt, ⟨_, h103, .inl rfl⟩, .nil⟩ ?_ ?_ ?_
  · intro b hb
    obtain rfl := List.mem_singleton.mp hb
    refine ⟨show 103 < h.objs.size by lia, ?_⟩
    rintro rfl
    exact hllM (by first | k_mem | simp)
  · rintro i ys h1 h2 ⟨a1, a2, ⟨ps, a3, a4⟩, a5⟩ kb
    refine ⟨a1.step kb (by first | k_mem | simp) (by first | k_mem | (simp; lia)) (by first | k_mem | simp), a2.kb kb (fun b hb => by have := hnM b hb; first | k_mem | (simp only [List.mem_cons, List.not_mem_nil, or_false, not_or]; lia)), ⟨ps, kb _ _ (by first | k_mem | (simp only [List.mem_cons, List.not_mem_nil, or_false, not_or]; lia)) a3, a4.sub (hide_sub kb)⟩, a5.mono fun _ _ x => x.sub (a1.hs kb (by first | k_mem | simp) (fun y hy => .inl hy))⟩
  · rintro i v ys h1 tk1 m₁ hv ⟨a1, a2, ⟨ps, a3, a4⟩, a5⟩ hnsC hkb hfar
    have hi8 : i < 8 := by
      rcases Nat.lt_or_ge i lv.length with q | q
      · lia
      · rw [List.getElem?_eq_none q] at hv; cases hv
    obtain ⟨names, hnm, hnt⟩ := (hL.are).get' hv
    have hmem : names ∈ nls := List.mem_of_getElem? hnm
    have hgn : ∀ a : Nat, L ≤ a → gh.get? a = none := fun a ha => hc.c.gn ha
    obtain ⟨oll, holl, dll⟩ := id a1.c.cll
    obtain ⟨ola, hola, dla⟩ := id a1.b.clast
    dsimp only at holl hola dll dla
    have habove : gh.objs.size ≤ h.objs.size + 2 := by have := hc.c.above; dsimp only at this; lia
    have LS : L + 4 < h.objs.size := by lia
    generalize hCc : h.objs.size + 2 = C at *
    have hown : ∀ p ∈ ([(L + 3, oll), (L + 4, ola)] : List (Addr × Obj)), h1.get? p.1 = some p.2 ∧ p.1 ≠ C ∧ gh.get? p.1 = none := by
      refine fa2 ?_ ?_
      · exact ⟨holl, (by show @Ne Nat (L + 3) C; lia), hgn _ (by lia)⟩
      · exact ⟨hola, (by show @Ne Nat (L + 4) C; lia), hgn _ (by lia)⟩
    clear F7 N7 off infrz kback
    obtain ⟨frz, F7, N7, off, infrz, kback⟩ := kmode (g := gh) hnsC a1.c.sub habove hown
    simp only [List.cons_append, List.nil_append] at N7
    clear k1 k2 k
    k_steps
    all_goals try first | exact Str.ofString "" | exact Value.none | exact ([] : List (Str × Addr)) | exact (0 : Nat)
    rename News _ _ _ _ => N8
    rename Fr _ _ _ _ => F8
    rename_i h2 hInE
    have kb2 : KB [C] h1 h2 := ownKB (kback _ _ _ F8 N8 (fun p hp => by repeat (first | exact hp | exact List.mem_append_left _ hp | exact List.mem_append_right _ hp | refine List.Mem.tail _ ?_))) hown N8 (by first | k_mem | simp) (by
      refine fa2 ?_ ?_
      all_goals exact .inr (by k_mem))
    have hns2 := F8.ns
    clear F8 N8 F7 N7 kback infrz off
    have c2 : LawS w gh h2 (LD.mk L cc q td tb bn lk rl rn sc cs ns rows rvs) [h.objs.size, h.objs.size + 1, C, nu] nu ks lt looks := a1.step kb2 (by first | k_mem | simp) (by first | k_mem | (simp; lia)) (by first | k_mem | simp)
    have mt0 : MT h2 ([nu] ++ LD.M (LD.mk L cc q td tb bn lk rl rn sc cs ns rows rvs)) := a2.kb kb2 fun b hb => by have := hnM b hb; first | k_mem | (simp only [List.mem_cons, List.not_mem_nil, or_false, not_or]; lia)
    have hfarB : ∀ b ∈ [h.objs.size, h.objs.size + 1, C], ∃ o, h2.get? b = some o ∧ Far o := fa3 (farUp (hfar _ (.head _)) kb2 (by show h.objs.size ≠ C; lia)) (farUp (hfar _ (.tail _ (.head _))) kb2 (by show h.objs.size + 1 ≠ C; lia)) (nsMTo hns2)
    have mt2 : MT h2 ([h.objs.size, h.objs.size + 1, C, nu] ++ LD.M (LD.mk L cc q td tb bn lk rl rn sc cs ns rows rvs)) := by
      have x2 : MT h2 [h.objs.size, h.objs.size + 1, C] := fun b hb => (hfarB b hb).imp fun _ q => ⟨q.1, q.2.1⟩
      exact x2.app mt0
    have hsz : Sub (hideAll h ([nu] ++ LD.M (LD.mk L cc q td tb bn lk rl rn sc cs ns rows rvs))) (hideAll h2 ([h.objs.size, h.objs.size + 1, C, nu] ++ LD.M (LD.mk L cc q td tb bn lk rl rn sc cs ns rows rvs))) := by
      have s1 : Sub (hideAll h ([nu] ++ LD.M (LD.mk L cc q td tb bn lk rl rn sc cs ns rows rvs))) (hideAll h1 ([h.objs.size, h.objs.size + 1, C, nu] ++ LD.M (LD.mk L cc q td tb bn lk rl rn sc cs ns rows rvs))) := hc.hs hkb (by first | k_mem | simp) (fun y hy => (hY y hy).imp id (·.1))
      have s2 := a1.hs (Y := [h.objs.size, h.objs.size + 1, C, nu]) kb2 (by first | k_mem | simp) (fun y hy => .inl hy)
      exact fun b o e => s2 _ _ (s1 _ _ e)
    have hfar2 : ∀ b ∈ [h.objs.size, h.objs.size + 1, C], ∃ o, h2.get? b = some o ∧ NoStr o := fun b hb => (hfarB b hb).imp fun _ q => ⟨q.1, q.2.2⟩
    have htab2 : TabOk h2 ps := (a4.sub (hide_sub (av := [h.objs.size, h.objs.size + 1, C]) (kb2.mono (by first | k_mem | simp)))).sub hide_self
    refine look_turn (dp := dp) (un := un) G' hC c2 (by first | k_mem | simp) mt2 (kb2 _ _ (by first | k_mem | (simp only [List.mem_cons, List.not_mem_nil, or_false, not_or]; lia)) a3) htab2 (hnt.sub hsz) (hL.good _ hmem) (by lia) (by lia) ?_
    intro T9 ps' h3 tk3 kb3 c3 mt3 e103 etab hlr
    have hn3 := hns2.at' fun o e => kb3 C o (by first | k_mem | (simp only [List.mem_cons, List.not_mem_nil, or_false, not_or]; lia)) e
    have e : nls.take (i + 1) = nls.take i ++ [names] := by rw [List.take_add_one, hnm]; rfl
    have sz3 := c2.hs (Y := [h.objs.size, h.objs.size + 1, C, nu]) kb3 (by first | k_mem | simp) (fun y hy => .inl hy)
    have s13 := a1.hs (Y := [h.objs.size, h.objs.size + 1, C, nu]) kb2 (by first | k_mem | simp) (fun y hy => .inl hy)
    refine ⟨h3, tk3, _, rfl, ?_, hn3, c3, fun b hb => mt3 b ?_, ⟨ps', e103, etab.hides ?_⟩, e ▸ Are.snoc (a5.mono fun _ _ x => x.sub fun b o e => sz3 _ _ (s13 _ _ e)) hlr⟩
    · exact fun b o nb e => kb3 b o (by simp only [List.mem_cons, List.not_mem_nil, or_false, not_or] at nb ⊢; exact nb.2) (kb2 b o (by simp only [List.mem_cons, List.not_mem_nil, or_false, not_or] at nb ⊢; exact nb.1) e)
    · rcases List.mem_append.mp hb with q | q
      · exact List.mem_append_left _ (by simp only [List.mem_cons, List.not_mem_nil, or_false] at q ⊢; lia)
      · exact List.mem_append_right _ q
    · intro b hb o ho
      obtain ⟨o', a, c⟩ := hfar2 b hb
      have := kb3 _ _ (by simp only [List.mem_cons, List.not_mem_nil, or_false] at hb ⊢; lia) a
      rw [this] at ho; cases ho; exact c
  · intro zs av h' tk' ⟨a1, a2, ⟨ps, a3, a4⟩, a5⟩ hpl hkb
    have hkb : KB [103] h h' := hkb
    have hns' := hns.at' fun o e => hkb L o (by first | k_mem | (simp only [List.mem_cons, List.not_mem_nil, or_false, not_or]; lia)) e
    refine ⟨_, hns', fun h'' tk'' hn'' kb'' => ?_⟩
    have kb3 : KB [L, h.objs.size + 2] h' h'' := kb''
    rw [hlv, List.take_of_length_le (by lia)] at a5
    have s1 : Sub (hideAll h ([nu] ++ LD.M (LD.mk L cc q td tb bn lk rl rn sc cs ns rows rvs))) (hideAll h' ([h.objs.size, h.objs.size + 1, h.objs.size + 2, nu] ++ LD.M (LD.mk L cc q td tb bn lk rl rn sc cs ns rows rvs))) := hc.hs hkb (by first | k_mem | simp) (fun y hy => (hY y hy).imp id (·.1))
    have s2 : Sub _ (hideAll h'' ([nu] ++ LD.M (LD.mk L cc q td tb bn lk rl rn sc cs ns rows rvs))) := a1.hs (Y := [nu]) kb3 (by first | k_mem | simp) (by first | k_mem | simp)
    obtain ⟨e9, hpl⟩ := hpl
    refine k1 _ (k h'' (h.objs.size + 1) zs e9 (a1.step kb3 (by first | k_mem | simp) (by first | k_mem | (simp; lia)) (by first | k_mem | simp)) (a2.kbL kb3 hn'' (fun b hb => ?_)) ⟨ps, kb3 _ _ (by first | k_mem | (simp only [List.mem_cons, List.not_mem_nil, or_false, not_or]; lia)) a3⟩ (s2 _ _ (s1 _ _ hll)) (hL.sub fun b o e => s2 _ _ (s1 _ _ e)) (s2 _ _ (s1 _ _ hnb)) (hide_of (kb3 _ _ (by first | k_mem | (simp; lia)) hpl) ?_) (a5.mono fun _ _ x => x.sub s2) (nsEq hn'' mL_looks)) _
    · obtain ⟨o, a, _⟩ := hmt b hb
      have := ltSz a
      simp only [List.mem_cons, List.not_mem_nil, or_false]
      lia
    · intro hb
      obtain ⟨o, a, _⟩ := hmt _ hb
      have := ltSz a
      lia
end Mine

end
section
open PySem PySem.Spec PySem.Calls PySem.W PyProof.Rows
set_option Elab.async false
set_option linter.unusedVariables false
set_option maxRecDepth 100000
namespace Mine
theorem kxLo : True := by
  k_with_none
  k_with "ne" => (refine neN ?_; (try dsimp only); first | with_reducible assumption | exact Ne.symm (by with_reducible assumption) | exact Nat.ne_of_lt (by with_reducible assumption) | exact Nat.ne_of_gt (by with_reducible assumption) | lia)
  k_with "mem" => first | exact nm0 | (refine nmC ?_ ?_; k_ne; k_mem) | (refine inL ?_; k_mem) | exact fa0 | (refine faC ?_ ?_; k_mem; k_mem)
  trivial
theorem itemG {prog : Program} {w : World} {A : Around} {E : Value → Shared → Prop} {s : Shared} {value slice : Expr} {g : Heap} {L : Nat} {m : Str → Option Value} {l n : Nat} {vs : List Value} {i : Nat} {x : Value} {t : Tok} {Q : Value → Shared → Prop}
    (F : Fr g L s.heap m) (hl : g.get? l = some (lstO vs n)) (hx : vs[i]? = some x) (hb : i < 1000) (h : Q x s)
    (hs : subscripted slice false (.ref l) (.int (i : Nat) t) = operate [.ref l, .int (i : Nat) t] (getItem (.ref l) (.int (i : Nat) t))) (hg : ∀ r, letTemporaryGo value (.ref l) r = pure ()) :
    wpAny (model prog w) A (subscriptTail value slice (.ref l) (.int (i : Nat) t)) Q E s :=
  item_listL (l := vs) ⟨_, F.keep _ _ hl, rfl, n, rfl⟩ (by lia) (by lia) (by simpa using hx) h hs hg
local macro_rules | `(tactic| k_inst) => `(tactic| exact instUp (by assumption) (Fr.keep (by k_asm)))
theorem wLo1 : True := by
  k_with "subscriptTail" => k_dflt (refine' itemG ?F ?hl ?hx ?hb ?_ ?hs ?hg; (case F => k_asm); (case hl => assumption); (case hx => assumption); (case hb => assumption); (case hs => with_unfolding_all rfl); (case hg => intro _; with_unfolding_all rfl))
  trivial
set_option maxHeartbeats 8000000 in
theorem look_of_ok {w : World} {mean : ExcName → Option Value} {mg mb : Str → Option Value} {g₀ : Heap} {s : Shared} {dp un : Nat} {fr : Option (List Env)} {gd : Option (List Code)} {R : Result → Shared → Prop}
    {tb d bn lk nu n i : Nat} {lv : List Value} {x : Value} {t : Tok}
    (G : Gd w mean mg mb g₀) (hs : Sub g₀ s.heap) (hT : TabI w s.heap tb d bn lk nu) (hl : s.heap.get? lk = some (lstO lv n)) (hx : lv[i]? = some x) (hb : i < 1000) (hdp : dp < 800) (hun : un < 900)
    (ret : ∀ h' tk', KB [] s.heap h' → R (.ok (.ret x)) { s with heap := h', toks := tk' }) :
    codeAny (model Pg w) (Ar dp un fr gd) (.call (.ref 77) ⟨[.ref tb, .int (i : Nat) t], []⟩) R s := by
  obtain ⟨X, T⟩ := G
  have hrw : PySem.Challenge.rw_np0001_01 = PySem.Challenge.rw_np0001_01 := rfl
  revert X hrw
  k_fill
  intro X hrw
  refine enter1 (binds := [(Str.ofString "self", Value.ref tb), (Str.ofString "number", Value.int (i : Nat) t)]) (own := []) X T hs ?ko (by k_is) (by k_is) ?kr (BindsTo.of_eq (by with_unfolding_all rfl)) (locs rfl) ?kb (by decide) rfl rfl rfl
  case ko => simp
  case kr => show dp < recursionLimit; simp only [recursionLimit]; lia
  case kb =>
    intro g L h₁ F₁ N X' T' hlt lift hsg hLs
    clear X T hs hrw
    obtain ⟨t1, t2, t3, tn, hI⟩ := hT
    have hI : InstAt g tb (instObj 80 d) 80 (some (tabO w t1 t2 t3 bn lk nu tn)) := ⟨lift _ _ (by first | k_mem | simp) hI.at_, hI.cls, hI.no, lift _ _ (by first | k_mem | simp) hI.dict⟩
    have hlg := lift _ _ (by first | k_mem | simp) hl
    k_steps
    rename News _ _ _ _ => N5
    rename Fr _ _ _ _ => F5
    exact ret _ _ (exitKB lift F5)
end Mine

end
section
open PySem PySem.Spec PySem.Calls PySem.W PyProof.Rows
set_option Elab.async false
set_option linter.unusedVariables false
set_option maxRecDepth 100000
namespace Mine
theorem kxLm : True := by
  k_with_none
  k_with "ne" => (refine neN ?_; (try dsimp only); first | with_reducible assumption | exact Ne.symm (by with_reducible assumption) | exact Nat.ne_of_lt (by with_reducible assumption) | exact Nat.ne_of_gt (by with_reducible assumption) | lia)
  k_with "mem" => first | exact nm0 | (refine nmC ?_ ?_; k_ne; k_mem) | (refine inL ?_; k_mem) | exact fa0 | (refine faC ?_ ?_; k_mem; k_mem)
  trivial
section
variable {w : World} {mean : ExcName → Option Value} {mg mb : Str → Option Value} {gA g : Heap} {L : Nat} {m : Str → Option Value} {s : Shared} {A : Around} {news : List (Addr × Obj)} {E : Value → Shared → Prop}
theorem use_mergedL {tb td bn lk nu tn : Nat} {t1 t2 t3 : Tok} {bo : Obj} {rows : List RowD} {ks : List Int} {names r0 : List Str} {v : Value} {Q : Value → Shared → Prop}
    (X : (hd.heap_39 w.params).In g) (T : Top Vw Lo mean mg mb g) (F : Fr g L s.heap m) (N : News g L s.heap news) (hS : Sub gA s.heap) (htb : (tb, instObj 80 td) ∈ news) (htd : (td, tabO w t1 t2 t3 bn lk nu tn) ∈ news) (hbn : (bn, bo) ∈ news) (hbs : (bn == sysModules) = false)
    (hN : NamesO w gA bo (rowF rows ⟨ks.map some, []⟩ 5) names6) (hv : NamesT gA names v) (hg : NGood names) (hR : Go (rowTab rows) names [] r0) (h6 : ks.length = 6) (h5 : rows.length = 5) (hh : A.handled = none) (hdp : A.depth < 700) (hun : A.units < 800)
    (h : ∀ (T : Nat) vs h' tk', Fr g L h' m → News g L h' ((T, tupO vs) :: news) → (∀ p ∈ news, p.1 < T) → Are IntIs (lookL rows r0 ks) vs → Q (.ref T) { s with heap := h', toks := tk' }) :
    wpAny (model Pg w) A (call (.ref 63) [.ref tb, v]) Q E s := by
  obtain ⟨nt, ws, rfl, hnt, hws⟩ := hv
  refine wpNv ?_
  obtain ⟨hd, dp, fr, gd, un⟩ := A
  dsimp only at hh hdp hun
  subst hh
  refine wpAny_call (merged_ok (last := []) ⟨X, T⟩ F.keep ⟨t1, t2, t3, tn, InstAt.of_news N htb htd⟩ (N _ hbn).1 hbs (hN.up hS) (tupSub hS hnt) hws hg.1 (by lia) (by lia) ?_)
  intro T vs r h' tk' kb hsz hT hgo hare
  obtain ⟨F', N', l'⟩ := news_add F N (fun b o e => kb b o (by first | k_mem | simp) e) hsz hT
  refine h T vs h' tk' F' N' l' (Are.ints ?_)
  rw [← h5] at hgo hare
  rwa [look_same h6 hg.2 hR hgo] at hare
theorem use_lookofL {tb td bn lk nu tn n i : Nat} {t1 t2 t3 t : Tok} {lv : List Value} {x : Value} {Q : Value → Shared → Prop}
    (X : (hd.heap_39 w.params).In g) (T : Top Vw Lo mean mg mb g) (F : Fr g L s.heap m) (N : News g L s.heap news) (htb : (tb, instObj 80 td) ∈ news) (htd : (td, tabO w t1 t2 t3 bn lk nu tn) ∈ news) (hlk : (lk, lstO lv n) ∈ news) (hx : lv[i]? = some x) (hb : i < 1000)
    (hh : A.handled = none) (hdp : A.depth < 700) (hun : A.units < 800)
    (h : ∀ h' tk', Fr g L h' m → News g L h' news → Q x { s with heap := h', toks := tk' }) :
    wpAny (model Pg w) A (call (.ref 77) [.ref tb, .int (i : Nat) t]) Q E s := by
  refine wpNv ?_
  obtain ⟨hd, dp, fr, gd, un⟩ := A
  dsimp only at hh hdp hun
  subst hh
  refine wpAny_call (look_of_ok ⟨X, T⟩ F.keep ⟨t1, t2, t3, tn, InstAt.of_news N htb htd⟩ (N _ hlk).1 hx hb (by lia) (by lia) ?_)
  intro h' tk' kb
  have ks : Sub s.heap h' := fun b o e => kb b o (by first | k_mem | simp) e
  exact h h' tk' (F.keeps ks) fun p hp => ⟨ks _ _ (N p hp).1, (N p hp).2⟩
end
section
variable {prog : Program} {w : World} {gA g : Heap} {L : Nat} {m : Str → Option Value} {s : Shared} {A : Around} {news : List (Addr × Obj)} {E : Value → Shared → Prop} {K K2 : List Int} {xs ys vs : List Value} {a b T n i : Nat} {Q : Value → Shared → Prop}
theorem neTA (F : Fr g L s.heap m) (N : News g L s.heap news) (hS : Sub gA s.heap) (hm : (T, tupO vs) ∈ news) (hv : Are IntIs K vs) (ha : gA.IsTuple a xs.toArray) (hxs : Are IntIs K xs) (hu : A.units + 64 < cLine) (h : Q (.bool false) s) :
    wpAny (model prog w) A (compareOp .NotEq (.ref T) (.ref a)) Q E s :=
  neT_int ⟨_, (N _ hm).1, rfl, _, rfl⟩ (tupSub hS ha) (Are.intsAre hv) (Are.intsAre hxs) hu (by rw [decide_eq_true rfl]; exact h)
theorem neAA (F : Fr g L s.heap m) (N : News g L s.heap news) (hS : Sub gA s.heap) (hb : gA.IsTuple b ys.toArray) (ha : gA.IsTuple a xs.toArray) (hv : Are IntIs K ys) (hxs : Are IntIs K xs) (hu : A.units + 64 < cLine) (h : Q (.bool false) s) :
    wpAny (model prog w) A (compareOp .NotEq (.ref b) (.ref a)) Q E s :=
  neT_int (tupSub hS hb) (tupSub hS ha) (Are.intsAre hv) (Are.intsAre hxs) hu (by rw [decide_eq_true rfl]; exact h)
theorem eqAA (F : Fr g L s.heap m) (N : News g L s.heap news) (hS : Sub gA s.heap) (hb : gA.IsTuple b ys.toArray) (ha : gA.IsTuple a xs.toArray) (hv : Are IntIs K ys) (hxs : Are IntIs K2 xs) (hu : A.units + 64 < cLine) (h : Q (.bool (decide (K = K2))) s) :
    wpAny (model prog w) A (compareOp .Eq (.ref b) (.ref a)) Q E s :=
  eqT_int (tupSub hS hb) (tupSub hS ha) (Are.intsAre hv) (Are.intsAre hxs) hu h
theorem itemA {value slice : Expr} {x : Value} {t : Tok} (F : Fr g L s.heap m) (N : News g L s.heap news) (hS : Sub gA s.heap) (hl : gA.get? a = some (lstO vs n)) (hx : vs[i]? = some x) (hb : i < 1000) (h : Q x s)
    (hs : subscripted slice false (.ref a) (.int (i : Nat) t) = operate [.ref a, .int (i : Nat) t] (getItem (.ref a) (.int (i : Nat) t))) (hg : ∀ r, letTemporaryGo value (.ref a) r = pure ()) :
    wpAny (model prog w) A (subscriptTail value slice (.ref a) (.int (i : Nat) t)) Q E s :=
  item_listL (l := vs) ⟨_, hS _ _ hl, rfl, n, rfl⟩ (by lia) (by lia) (by simpa using hx) h hs hg
theorem lenA (F : Fr g L s.heap m) (N : News g L s.heap news) (hS : Sub gA s.heap) (hl : gA.get? a = some (lstO vs n)) (hk : vs.length = i) (hb : i < 1000) (h : ∀ t tk, Q (.int (i : Nat) t) { s with toks := tk }) :
    wpAny (model prog w) A (call (.builtin "len") [.ref a]) Q E s := by
  subst hk
  have e : vs.toArray.size = vs.length := List.size_toArray
  refine call_len_list (items := vs.toArray) ⟨_, hS _ _ hl, rfl, n, rfl⟩ ?_ ?_
  · rw [e]; show (vs.length : Int) < 9223372036854775808; lia
  · rw [e]; exact h _ _
end
end Mine

end
section
open PySem PySem.Spec PySem.Calls PySem.W PyProof.Rows
set_option Elab.async false
set_option linter.unusedVariables false
set_option linter.unusedSimpArgs false
set_option maxRecDepth 100000
namespace Mine
theorem kxSh : True := by
  k_with_none
  k_with "ne" => (refine neN ?_; (try dsimp only); first | with_reducible assumption | exact Ne.symm (by with_reducible assumption) | exact Nat.ne_of_lt (by with_reducible assumption) | exact Nat.ne_of_gt (by with_reducible assumption) | lia)
  k_with "mem" => first | exact nm0 | (refine nmC ?_ ?_; k_ne; k_mem) | (refine inL ?_; k_mem) | exact fa0 | (refine faC ?_ ?_; k_mem; k_mem)
  trivial
local macro_rules | `(tactic| k_all) => `(tactic| assumption)
local macro_rules | `(tactic| k_all) => `(tactic| (refine offTwo (by assumption) ?_; simp))
theorem wSh1 : True := by
  k_with "exec For Name Call cons cons" => k_dflt (refine' for_rule ?_ ?hs; (case hs => intro _; with_unfolding_all rfl))
  trivial
theorem wSh2 : True := by
  k_with "exec For Name Call cons nil" => k_dflt (refine' for_rule ?_ ?hs; (case hs => intro _; with_unfolding_all rfl))
  trivial
theorem wSh3 : True := by
  k_with "call builtin:len" => k_dflt (refine' lenA ?F ?N ?hS ?hl ?hk ?hb ?_; (case F => k_asm); (case N => k_asm); (case hS => exact Keeps.use (by assumption) (by k_asm) (by k_asm) (by intro p hp; repeat' (first | exact hp | refine List.mem_cons_of_mem _ ?_))); (case hl => assumption); (case hk => assumption); (case hb => decide); intro _ _)
  trivial
theorem wSh4 : True := by
  k_with "subscriptTail" => k_dflt (refine' itemA ?F ?N ?hS ?hl ?hx ?hb ?_ ?hs ?hg; (case F => k_asm); (case N => k_asm); (case hS => exact Keeps.use (by assumption) (by k_asm) (by k_asm) (by intro p hp; repeat' (first | exact hp | refine List.mem_cons_of_mem _ ?_))); (case hl => assumption); (case hx => assumption); (case hb => lia); (case hs => with_unfolding_all rfl); (case hg => intro _; with_unfolding_all rfl))
  trivial
theorem wSh5 : True := by
  k_with "call ref" => k_dflt (refine' use_mergedL ?X ?T ?F ?N ?hS ?htb ?htd ?hbn ?hbs ?hN ?hv ?hg ?hR ?h6 ?h5 ?hh ?hd ?hu ?_; (case X => assumption); (case T => assumption); (case F => k_asm); (case N => k_asm); (case hS => exact Keeps.use (by assumption) (by k_asm) (by k_asm) (by intro p hp; repeat' (first | exact hp | refine List.mem_cons_of_mem _ ?_))); (case htb => k_mem); (case htd => k_mem); (case hbn => k_mem); (case hbs => assumption); (case hN => assumption); (case hv => assumption); (case hg => assumption); (case hR => assumption); (case h6 => assumption); (case h5 => assumption); (case hh => rfl); (case hd => (dsimp only [Ar, Around.deeper]; lia)); (case hu => (dsimp only [Ar, Around.deeper]; lia)); intro _ _ _ _ _ _ _ _)
  trivial
theorem wSh6 : True := by
  k_with "call ref" => k_dflt (refine' use_lookofL ?X ?T ?F ?N ?htb ?htd ?hlk ?hx ?hb ?hh ?hd ?hu ?_; (case X => assumption); (case T => assumption); (case F => k_asm); (case N => k_asm); (case htb => k_mem); (case htd => k_mem); (case hlk => k_mem); (case hx => assumption); (case hb => lia); (case hh => rfl); (case hd => (dsimp only [Ar, Around.deeper]; lia)); (case hu => (dsimp only [Ar, Around.deeper]; lia)); intro _ _ _ _)
  trivial
theorem wSh7 : True := by
  k_with "compareOp NotEq ref ref" => k_dflt (refine' neAA ?F ?N ?hS ?hb ?ha ?hv ?hx ?hu ?_; (case F => k_asm); (case N => k_asm); (case hS => exact Keeps.use (by assumption) (by k_asm) (by k_asm) (by intro p hp; repeat' (first | exact hp | refine List.mem_cons_of_mem _ ?_))); (case hb => assumption); (case ha => assumption); (case hv => assumption); (case hx => assumption); (case hu => (dsimp only [Ar, Around.deeper]; rw [show cLine = 9900 from rfl]; lia)))
  trivial
theorem wSh8 : True := by
  k_with "compareOp NotEq ref ref" => k_dflt (refine' neTA ?F ?N ?hS ?hm ?hv ?ha ?hx ?hu ?_; (case F => k_asm); (case N => k_asm); (case hS => exact Keeps.use (by assumption) (by k_asm) (by k_asm) (by intro p hp; repeat' (first | exact hp | refine List.mem_cons_of_mem _ ?_))); (case hm => k_mem); (case ha => assumption); (case hv => assumption); (case hx => assumption); (case hu => (dsimp only [Ar, Around.deeper]; rw [show cLine = 9900 from rfl]; lia)))
  trivial
theorem wSh9 : True := by
  k_with "compareOp Eq ref ref" => k_dflt (refine' eqAA ?F ?N ?hS ?hb ?ha ?hv ?hx ?hu ?_; (case F => k_asm); (case N => k_asm); (case hS => exact Keeps.use (by assumption) (by k_asm) (by k_asm) (by intro p hp; repeat' (first | exact hp | refine List.mem_cons_of_mem _ ?_))); (case hb => assumption); (case ha => assumption); (case hv => assumption); (case hx => assumption); (case hu => (dsimp only [Ar, Around.deeper]; rw [show cLine = 9900 from rfl]; lia)))
  trivial
theorem mL_place {v : Value} {o1 o2 o3 o4 o5 o6 o7 o8 o9 : Option Value} {sc : Value} : (fun y => if y = Str.ofString "place" then some v else mL o1 o2 o3 o4 o5 o6 o7 o8 o9 sc y) = mL o1 o2 o3 o4 o5 o6 o7 (some v) o9 sc := by
  funext y
  by_cases h1 : y = Str.ofString "place"
  · subst h1; with_unfolding_all rfl
  · simp only [mL, if_neg h1]
theorem mL_other {v : Value} {o1 o2 o3 o4 o5 o6 o7 o8 o9 : Option Value} {sc : Value} : (fun y => if y = Str.ofString "other" then some v else mL o1 o2 o3 o4 o5 o6 o7 o8 o9 sc y) = mL o1 o2 o3 o4 o5 o6 o7 o8 (some v) sc := by
  funext y
  by_cases h1 : y = Str.ofString "other"
  · subst h1; with_unfolding_all rfl
  · simp only [mL, if_neg h1]
inductive ShJ1 (h : Heap) (L I ll nb lb : Nat) (o1 o2 o3 o4 : Option Value) (sc : Value) (i : Nat) (h' : Heap) : Prop
  | mk (p8 p9 : Option Value) (f1 : h'.Ns L (mL o1 o2 o3 o4 (some (.ref ll)) (some (.ref nb)) (some (.ref lb)) p8 p9 sc)) (f2 : KB [L, I] h h')
inductive ShJ2 (hC : Heap) (L I2 ll nb lb : Nat) (o1 o2 o3 o4 v8 : Option Value) (sc : Value) (j : Nat) (h' : Heap) : Prop
  | mk (p9 : Option Value) (f1 : h'.Ns L (mL o1 o2 o3 o4 (some (.ref ll)) (some (.ref nb)) (some (.ref lb)) v8 p9 sc)) (f2 : KB [L, I2] hC h')
set_option maxHeartbeats 8000000 in
theorem law_f {w : World} {fa : Addr} {cd : Value} {mean : ExcName → Option Value} {mg mb : Str → Option Value} {gh h : Heap} {D : LD} {Gs : Array GenState} {Dr : Drawn} {t0 : Nat} {O : OsState} {dp un nu lt ll n nb nn lb n2 : Nat} {fr : Option (List Env)} {gd : Option (List Code)} {Q : Flow → Shared → Prop} {o1 o2 o3 o4 : Option Value} {ks : List Int} {looks : List (List Int)} {lv nv zs : List Value} {nls : List (List Str)}
    (G : Gd w mean mg mb gh) (hc : LawS w gh h D [nu] nu ks lt looks) (hll : (hideAll h ([nu] ++ D.M)).get? ll = some (lstO lv n)) (hL : ListsN (hideAll h ([nu] ++ D.M)) lv nls) (hlen : nls.length = 8) (hnb : (hideAll h ([nu] ++ D.M)).get? nb = some (lstO nv nn)) (hN : Are (NumIs D.rows ks looks) nls nv)
    (hl9 : looks.length ≤ 9) (hlb : (hideAll h ([nu] ++ D.M)).get? lb = some (lstO zs n2)) (hR : Are (LookR D.rows ks (hideAll h ([nu] ++ D.M))) nls zs)
    (hns : h.Ns D.L (mL o1 o2 o3 o4 (some (.ref ll)) (some (.ref nb)) (some (.ref lb)) none none D.sc)) (hdp : dp < 320) (hun : un < 300)
    (k : ∀ h' p8 p9, KB [D.L] h h' → h'.Ns D.L (mL o1 o2 o3 o4 (some (.ref ll)) (some (.ref nb)) (some (.ref lb)) p8 p9 D.sc) → ∀ tk, wpAny (model Pg w) (Ar dp un fr gd) (execs ((lawBody w).drop 10) (lawEnv w D.L fa cd)) Q Nv ⟨h', Gs, Dr, tk, O⟩) :
    wpAny (model Pg w) (Ar dp un fr gd) (execs ((lawBody w).drop 9) (lawEnv w D.L fa cd)) Q Nv ⟨h, Gs, Dr, t0, O⟩ := by
  obtain ⟨X, T⟩ := G
  have hrw : PySem.Challenge.rw_np0001_01 = PySem.Challenge.rw_np0001_01 := rfl
  revert X hrw
  k_fill
  intro X hrw
  rw [show (lawBody w).drop 9 = _ :: (lawBody w).drop 10 by with_unfolding_all rfl]
  unfold lawEnv at k ⊢
  rw [show (lawRec w).scope = Scope.mk _ _ _ _ _ by with_unfolding_all rfl] at k ⊢
  obtain ⟨L, cc, q, td, tb, bn, lk, rl, rn, sc, cs, ns, rows, rvs⟩ := D
  obtain ⟨r1, r2, r3, r4, r5, r6, r7, r8⟩ := id hc.c.ord
  dsimp only at *
  have hLM : L ∈ ([nu] ++ LD.M (LD.mk L cc q td tb bn lk rl rn sc cs ns rows rvs)) := by simp
  generalize hgA : hideAll h ([nu] ++ LD.M (LD.mk L cc q td tb bn lk rl rn sc cs ns rows rvs)) = gA at *
  have hAh : Sub gA h := hgA ▸ fun b o e => of_hideAll _ e
  have hAL : gA.get? L = none := hgA ▸ hideAll_none _ hLM
  have hlv : lv.length = 8 := by rw [← hL.are.length, hlen]
  obtain ⟨frz, F7, N7, off, infrz, kback⟩ := kmode (own := []) (g := gh) hns hc.c.sub hc.c.above (by first | k_mem | simp)
  simp only [List.nil_append] at N7
  have hKp : Keeps gA gh L frz := fun h' m' news' F' N' hm => subKB hAh (fa1 hAL) (kback h' m' news' F' N' hm)
  refine stmtH fun Q1 k1 k2 => ?_
  k_steps
  rename IsRange _ _ _ _ _ _ _ _ => hRg
  dsimp only at hRg ⊢
  rename News _ _ _ _ => NB
  rename Fr _ _ _ _ => FB
  rename_i tl tkl hB tkR tr1 tr2 tr3 hsB
  dsimp only at hsB
  refine wpAny_pyIter_range hRg (by decide +kernel) ?_
  rw [show Builtin.Range.rangeSize 0 ((8 : Nat) : Int) 1 = 8 by decide +kernel]
  dsimp only
  have LI : L < hB.objs.size := FB.ns.lt
  generalize hI : hB.objs.size = I
  generalize hP : hB.push _ = hP0
  have subP : Sub h hP0 := fun b o e => hP ▸ Heap.get?_push_of_some _ (hsB b o e)
  have fI : h.get? I = none := by
    cases e : h.get? I with
    | none => rfl
    | some o => have := ltSz (hsB _ _ e); lia
  have fIA : gA.get? I = none := by
    cases e : gA.get? I with
    | none => rfl
    | some o => rw [hAh _ _ e] at fI; cases fI
  obtain ⟨lvk, nk, no, xsk, z1, z2, z3, z4, z5, z6⟩ := id hc.lks
  obtain ⟨⟨ocl, e1, e2⟩, _, b3, b4, ⟨t1, t2, t3, tn, b5⟩, ⟨bo, b6, b7⟩, b8⟩ := id hc.b
  obtain ⟨otab, c1, c2⟩ := id hc.c.ctab
  have h5 := hc.c.rlen
  have hbs : (bn == sysModules) = false := beq_eq_false_iff_ne.mpr (neN (show (bn : Nat) ≠ sysModules by show (bn : Nat) ≠ 1; lia))
  dsimp only at z1 z2 b4 b5 b6 b7 c1 c2 h5 e1
  rw [hgA] at z2 b7
  have fLn : @Ne Nat I L := by lia
  have hne : ∀ {b : Nat} {o : Obj}, h.get? b = some o → b ≠ I := fun e q => by rw [q, fI] at e; cases e
  refine ⟨I, [I], [I], [], 8, _, _, ShJ1 h L I ll nb lb o1 o2 o3 o4 sc, rfl, ItS.of (Walks.range rfl I 0 1 8), ?_, ?_, ?_, ?_, ?_, ?_, ?_⟩
  · show IsRangeIter _ _ _ _ _
    rw [← hP, ← hI]
    simpa using Heap.get?_push_size hB rfl
  · simp
  · show L ∉ [I]; first | k_mem | (simp only [List.mem_cons, List.not_mem_nil, or_false, not_or]; lia)
  · exact ⟨none, none, hns.at' fun o e => subP _ _ e, KB.of_sub subP⟩
  · rintro i h1 h2 ⟨p8, p9, a1, a2⟩ kb
    exact ⟨p8, p9, a1.at' fun o e => kb _ _ (by first | k_mem | (simp; lia)) e, a2.trans (kb.mono (by first | k_mem | simp))⟩
  · intro i v h1 tk1 hi hvi hst hPt7 _
    refine turnQ fun Qc kc => ?_
    obtain ⟨p8, p9, a1, a2⟩ := hPt7
    obtain ⟨tv, hv⟩ := hvi
    rw [show (0 : Int) + (i : Int) * 1 = (i : Int) by lia] at hv
    subst hv
    have hi8 : i < 8 := hi
    obtain ⟨names, hnm⟩ : ∃ names, nls[i]? = some names := ⟨_, List.getElem?_eq_getElem (by lia)⟩
    obtain ⟨vl, hvl, hNT⟩ := hL.are.get hnm
    obtain ⟨vn, hvn, ip, tp, Lp, rfl, hlp, hrel⟩ := hN.get hnm
    obtain ⟨vk, hvk, a1k, vs1, rp, rfl, hT1, hI1, hgo⟩ := hR.get hnm
    obtain rfl := hrel rp hgo
    obtain ⟨xk, hxk, a2k, vs2, rfl, hT2, hI2⟩ := z2.get hlp
    have hng := hL.good _ (List.mem_of_getElem? hnm)
    have hip : ip < 9 := by
      rcases Nat.lt_or_ge ip looks.length with q | q
      · lia
      · rw [List.getElem?_eq_none q] at hlp; cases hlp
    have hA1 : Sub gA h1 := subKB hAh (fa2 hAL fIA) a2
    have hsub1 : Sub gh h1 := subKB hc.c.sub (fa2 (hc.c.gn (Nat.le_refl _)) (noneSub hc.c.sub fI)) a2
    have up1 : ∀ {a : Nat} {o : Obj}, a ≠ L → h.get? a = some o → h1.get? a = some o := fun n e => a2 _ _ (nmC n (nmC (hne e) nm0)) e
    have hown : ∀ p ∈ ([(L + 2, otab), (tb, instObj 80 td), (td, tabO w t1 t2 t3 bn lk nu tn), (bn, bo), (lk, lstO lvk nk)] : List (Addr × Obj)), h1.get? p.1 = some p.2 ∧ p.1 ≠ L ∧ gh.get? p.1 = none := by
      refine fa5 ?_ ?_ ?_ ?_ ?_
      · exact ⟨up1 (by lia) c1, (by show @Ne Nat (L + 2) L; lia), hc.c.gn (by show L ≤ L + 2; lia)⟩
      · exact ⟨up1 (by lia) b4, (by show @Ne Nat tb L; lia), hc.c.gn (by show L ≤ tb; lia)⟩
      · exact ⟨up1 (by lia) b5, (by show @Ne Nat td L; lia), hc.c.gn (by show L ≤ td; lia)⟩
      · exact ⟨up1 (by lia) b6, (by show @Ne Nat bn L; lia), hc.c.gn (by show L ≤ bn; lia)⟩
      · exact ⟨up1 (by lia) z1, (by show @Ne Nat lk L; lia), hc.c.gn (by show L ≤ lk; lia)⟩
    have hAo : ∀ b ∈ ([L, L + 2, tb, td, bn, lk] : List Nat), gA.get? b = none := by
      refine fa6 ?_ ?_ ?_ ?_ ?_ ?_ <;> exact hgA ▸ hideAll_none _ (by repeat (first | exact List.Mem.head _ | refine List.Mem.tail _ ?_))
    clear FB NB hKp kback infrz off hst
    obtain ⟨frz, F7, N7, off, infrz, kback⟩ := kmode (g := gh) a1 hsub1 hc.c.above hown
    simp only [List.cons_append, List.nil_append] at N7
    have hKp : Keeps gA gh L frz := fun h' m' news' F' N' hm => subKB hA1 hAo (kback h' m' news' F' N' hm)
    k_steps
    rename IsRange _ _ _ _ _ _ _ _ => hR2
    dsimp only at hR2 ⊢
    rename News _ _ _ _ => NC
    rename Fr _ _ _ _ => FC
    rename_i hC tkC u1 u2 u3 hsC
    have kbC : KB [L] h1 hC := ownKB (kback _ _ _ FC NC (fun p hp => by repeat (first | exact hp | refine List.Mem.tail _ ?_))) hown NC (by first | k_mem | simp) (by
      refine fa5 ?_ ?_ ?_ ?_ ?_
      all_goals exact .inr (by k_mem))
    have hnsC : hC.Ns L (mL o1 o2 o3 o4 (some (.ref ll)) (some (.ref nb)) (some (.ref lb)) (some (.int (i : Int) tv)) p9 sc) := nsEq FC.ns mL_place
    have LC : L < hC.objs.size := FC.ns.lt
    refine wpAny_pyIter_range hR2 (by decide +kernel) ?_
    rw [show Builtin.Range.rangeSize 0 ((8 : Nat) : Int) 1 = 8 by decide +kernel]
    dsimp only
    generalize hI2 : hC.objs.size = I2
    generalize hP2 : hC.push _ = hP3
    have subP2 : Sub hC hP3 := fun b o e => hP2 ▸ Heap.get?_push_of_some _ e
    have fI2 : hC.get? I2 = none := fresh_self (Nat.le_of_eq hI2)
    have hne2 : ∀ {b : Nat} {o : Obj}, h1.get? b = some o → b ≠ L → b ≠ I2 := fun e n q => by rw [q] at e n; have := kbC _ _ (by simpa using n) e; rw [fI2] at this; cases this
    clear FC NC hKp kback infrz off hsC hR2
    have kb12 : ∀ {h' : Heap}, KB [L, I2] hC h' → KB [L] h1 h' := fun kb b o nb e => kb b o (nmC (fun q => nb (q ▸ .head _)) (nmC (hne2 e (fun q => nb (q ▸ .head _))) nm0)) (kbC b o nb e)
    refine ⟨I2, [I2], [I2], [], 8, _, _, ShJ2 hC L I2 ll nb lb o1 o2 o3 o4 (some (.int (i : Int) tv)) sc, rfl, ItS.of (Walks.range rfl I2 0 1 8), ?_, ?_, ?_, ?_, ?_, ?_, ?_⟩
    · show IsRangeIter _ _ _ _ _
      rw [← hP2, ← hI2]
      simpa using Heap.get?_push_size hC rfl
    · simp
    · show L ∉ [I2]; first | k_mem | (simp only [List.mem_cons, List.not_mem_nil, or_false, not_or]; lia)
    · exact ⟨p9, hnsC.at' fun o e => subP2 _ _ e, KB.of_sub subP2⟩
    · rintro j h2 h3 ⟨p9, a1, a2⟩ kb
      exact ⟨p9, a1.at' fun o e => kb _ _ (by first | k_mem | (simp; lia)) e, a2.trans (kb.mono (by first | k_mem | simp))⟩
    · intro j v h2 tk2 hj hvj hst2 hPt7 _
      refine turnQ fun Qd kd => ?_
      obtain ⟨p9, d1, d2⟩ := hPt7
      obtain ⟨tv2, hv2⟩ := hvj
      rw [show (0 : Int) + (j : Int) * 1 = (j : Int) by lia] at hv2
      subst hv2
      have hj8 : j < 8 := hj
      obtain ⟨namo, hno⟩ : ∃ names, nls[j]? = some names := ⟨_, List.getElem?_eq_getElem (by lia)⟩
      obtain ⟨vno, hvno, io, to, Lo, rfl, hlo, hrelo⟩ := hN.get hno
      obtain ⟨vko, hvko, a1o, vs1o, ro, rfl, hT1o, hI1o, hgoo⟩ := hR.get hno
      obtain rfl := hrelo ro hgoo
      have kb2 := kb12 d2
      have hA2 : Sub gA h2 := subKB hA1 (fa1 hAL) kb2
      have hsub2 : Sub gh h2 := subKB hsub1 (fa1 (hc.c.gn (Nat.le_refl _))) kb2
      clear hst2
      obtain ⟨frz, F7, N7, off, infrz, kback⟩ := kmode (own := []) (g := gh) d1 hsub2 hc.c.above (by first | k_mem | simp)
      simp only [List.nil_append] at N7
      have hKp : Keeps gA gh L frz := fun h' m' news' F' N' hm => subKB hA2 (fa1 hAL) (kback h' m' news' F' N' hm)
      have hcmp : (((ip : Int) == (io : Int)) != decide (lookL rows rp ks = lookL rows ro ks)) = false := by
        have e := numEq z6 hlp hlo
        by_cases q : ip = io
        · have q2 := e.mp q
          rw [q, q2]; simp
        · have q2 : ¬ (lookL rows rp ks = lookL rows ro ks) := fun x => q (e.mpr x)
          have q3 : ¬ ((ip : Int) = (io : Int)) := fun x => q (by lia)
          rw [decide_eq_false q2, beq_eq_false_iff_ne.mpr q3]; rfl
      k_steps
      all_goals first
      | (rename_i hat; rw [hcmp] at hat; cases hat)
      | (rename News _ _ _ _ => N8
         rename Fr _ _ _ _ => F8
         have kb8 := kback _ _ _ F8 N8 (fun p hp => by repeat (first | exact hp | refine List.Mem.tail _ ?_))
         exact kd _ ⟨_, _, rfl, kb8, _, nsEq F8.ns mL_other, d2.trans (kb8.mono (by first | k_mem | simp))⟩)
    · rintro h2 tk2 ⟨p9, d1, d2⟩ _
      show wpAny _ _ (execs [] _) _ _ _
      refine wpAny_execs_nil ?_
      have kb2 := kb12 d2
      exact kc _ ⟨h2, _, rfl, kb2, _, _, d1, fun b o nb e => kb2 b o (by simp only [List.mem_cons, List.not_mem_nil, or_false, not_or] at nb ⊢; exact nb.1) (a2 b o nb e)⟩
  · rintro h1 tk1 ⟨p8, p9, a1, a2⟩ _
    exact k1 _ (k h1 p8 p9 (fun b o nb e => a2 b o (by simp only [List.mem_cons, List.not_mem_nil, or_false, not_or] at nb ⊢; exact ⟨nb, hne e⟩) e) a1) _
end Mine

end
section
open PySem PySem.Spec PySem.Calls PySem.W PyProof.Rows
set_option Elab.async false
set_option linter.unusedVariables false
set_option linter.unusedSimpArgs false
set_option maxRecDepth 100000
namespace Mine
theorem kxSj : True := by
  k_with_none
  k_with "ne" => (refine neN ?_; (try dsimp only); first | with_reducible assumption | exact Ne.symm (by with_reducible assumption) | exact Nat.ne_of_lt (by with_reducible assumption) | exact Nat.ne_of_gt (by with_reducible assumption) | lia)
  k_with "mem" => first | exact nm0 | (refine nmC ?_ ?_; k_ne; k_mem) | (refine inL ?_; k_mem) | exact fa0 | (refine faC ?_ ?_; k_mem; k_mem)
  trivial
local macro_rules | `(tactic| k_all) => `(tactic| assumption)
local macro_rules | `(tactic| k_all) => `(tactic| (refine offTwo (by assumption) ?_; simp))
theorem wSj1 : True := by
  k_with "storeName" => ((with_reducible show wpAny _ _ (storeName (compEnvC _ _ _ _) _ _) _ _ _); k_dflt (refine' storeC ?F ?N ?hC ?hx ?hk ?_; (case F => k_asm); (case N => k_asm); (case hC => with_unfolding_all rfl); (case hx => with_unfolding_all rfl); (case hk => with_unfolding_all rfl); intro _ _ _))
  trivial
theorem wSj2 : True := by
  k_with "eval ListComp" => k_dflt (refine' comp_evalD ?hclos ?hcell ?hkind ?hnames ?_ ?hs; (case hclos => with_unfolding_all rfl); (case hcell => decide); (case hkind => with_unfolding_all rfl); (case hnames => decide); (case hs => intro _; with_unfolding_all rfl))
  trivial
section
variable {prog : Program} {w : World} {gA g : Heap} {L : Nat} {m : Str → Option Value} {s : Shared} {A : Around} {news : List (Addr × Obj)} {E : Value → Shared → Prop} {K : List Int} {xs ys vs : List Value} {a b T n n' i : Nat} {Q : Value → Shared → Prop}
theorem item0A {value slice : Expr} {x : Value} {t : Tok} (F : Fr g L s.heap m) (N : News g L s.heap news) (hS : Sub gA s.heap) (hl : gA.get? a = some (lstO vs n)) (hx : vs[0]? = some x) (h : Q x s)
    (hs : subscripted slice false (.ref a) (.int 0 t) = operate [.ref a, .int 0 t] (getItem (.ref a) (.int 0 t))) (hg : ∀ r, letTemporaryGo value (.ref a) r = pure ()) :
    wpAny (model prog w) A (subscriptTail value slice (.ref a) (.int 0 t)) Q E s :=
  item_listL (l := vs) ⟨_, hS _ _ hl, rfl, n, rfl⟩ (by decide) (by decide) hx h hs hg
theorem eqLA (F : Fr g L s.heap m) (N : News g L s.heap news) (hS : Sub gA s.heap) (hm : (T, lstO vs n') ∈ news) (hl : gA.get? a = some (lstO xs n)) (hv : Are IntIs K vs) (hxs : Are IntIs K xs) (hu : A.units + 64 < cLine) (h : Q (.bool true) s) :
    wpAny (model prog w) A (compareOp .Eq (.ref T) (.ref a)) Q E s :=
  ke_eq_ints (xs := vs) (ys := xs) ⟨_, (N _ hm).1, rfl, _, rfl⟩ ⟨_, hS _ _ hl, rfl, _, rfl⟩ (Are.intsAre hv) (Are.intsAre hxs) hu (by rw [decide_eq_true rfl]; exact h)
end
theorem sameNums {rows : List RowD} {ks : List Int} {looks : List (List Int)} (hn : looks.Nodup) : ∀ {nls : List (List Str)} {zs nv : List Value}, (∀ x ∈ nls, ∃ r, Go (rowTab rows) x [] r) → Are (NumIs rows ks looks) nls zs → Are (NumIs rows ks looks) nls nv → ∃ is : List Int, Are IntIs is zs ∧ Are IntIs is nv
  | [], _, _, _, h1, h2 => by cases h1; cases h2; exact ⟨[], .nil, .nil⟩
  | x :: nls, _, _, hr, h1, h2 => by
    cases h1 with
    | cons a1 t1 =>
      cases h2 with
      | cons a2 t2 =>
        obtain ⟨is, b1, b2⟩ := sameNums hn (fun y hy => hr y (.tail _ hy)) t1 t2
        obtain ⟨r, hg⟩ := hr x (.head _)
        obtain ⟨i, t, L, rfl, e1, e2⟩ := a1
        obtain ⟨j, u, M, rfl, f1, f2⟩ := a2
        have hij : i = j := (numEq hn e1 f1).mpr ((e2 r hg).trans (f2 r hg).symm)
        subst hij
        exact ⟨(i : Int) :: is, .cons ⟨t, rfl⟩ b1, .cons ⟨u, rfl⟩ b2⟩
theorem num0 {rows : List RowD} {ks : List Int} {looks : List (List Int)} {nls : List (List Str)} {nv : List Value} (hn : looks.Nodup) (h0 : looks[0]? = some ks) (hN : Are (NumIs rows ks looks) nls nv) (hf : nls[0]? = some []) (h6 : ks.length = 6) : ∃ t, nv[0]? = some (.int 0 t) := by
  obtain ⟨v, e, i, t, L0, rfl, e1, e2⟩ := hN.get hf
  have e3 := e2 [] (Go.nil [])
  rw [lookL_nil h6] at e3
  rw [e3] at e1
  have : i = 0 := (numEq hn e1 h0).mpr rfl
  have z : ((0 : Nat) : Int) = 0 := by decide
  rw [this, z] at e
  exact ⟨t, e⟩
theorem Are.mem {α : Type} {R : α → Value → Prop} {as : List α} {vs : List Value} (x : Are R as vs) (a : α) (h : a ∈ as) : ∃ v, R a v := let ⟨i, e⟩ := List.mem_iff_getElem?.mp h; (x.get e).imp fun _ q => q.2
set_option maxHeartbeats 8000000 in
theorem law_g {w : World} {fa : Addr} {cd : Value} {mean : ExcName → Option Value} {mg mb : Str → Option Value} {gh h : Heap} {D : LD} {Gs : Array GenState} {Dr : Drawn} {t0 : Nat} {O : OsState} {dp un nu lt ll n nb nn lb n2 : Nat} {fr : Option (List Env)} {gd : Option (List Code)} {Q : Flow → Shared → Prop} {o1 o2 o3 o4 p7 p8 p9 : Option Value} {ks : List Int} {looks : List (List Int)} {lv nv zs : List Value} {nls : List (List Str)}
    (G : Gd w mean mg mb gh) (hc : LawS w gh h D [nu] nu ks lt looks) (hmt : MT h ([nu] ++ D.M)) (h103 : ∃ ps, h.get? 103 = some (tabObj ps)) (hll : (hideAll h ([nu] ++ D.M)).get? ll = some (lstO lv n)) (hL : ListsN (hideAll h ([nu] ++ D.M)) lv nls) (hlen : nls.length = 8) (hnb : (hideAll h ([nu] ++ D.M)).get? nb = some (lstO nv nn)) (hN : Are (NumIs D.rows ks looks) nls nv)
    (h0 : looks[0]? = some ks) (hl9 : looks.length ≤ 9) (hR : ∀ x ∈ nls, ∃ r, Go (rowTab D.rows) x [] r)
    (hns : h.Ns D.L (mL o1 o2 o3 o4 (some (.ref ll)) (some (.ref nb)) p7 p8 p9 D.sc)) (hdp : dp < 320) (hun : un < 300)
    (hQ : ∀ h' tk', Sub gh h' → (∃ ps, h'.get? 103 = some (tabObj ps)) → Q (.ret (.bool true)) ⟨h', Gs, Dr, tk', O⟩) :
    wpAny (model Pg w) (Ar dp un fr gd) (execs ((lawBody w).drop 10) (lawEnv w D.L fa cd)) Q Nv ⟨h, Gs, Dr, t0, O⟩ := by
  have G' := G
  obtain ⟨X, T⟩ := G
  have hrw : PySem.Challenge.rw_np0001_01 = PySem.Challenge.rw_np0001_01 := rfl
  revert X hrw
  k_fill
  intro X hrw
  rw [show (lawBody w).drop 10 = _ :: [] by with_unfolding_all rfl]
  unfold lawEnv
  rw [show (lawRec w).scope = Scope.mk _ _ _ _ _ by with_unfolding_all rfl]
  obtain ⟨L, cc, q, td, tb, bn, lk, rl, rn, sc, cs, ns, rows, rvs⟩ := D
  obtain ⟨r1, r2, r3, r4, r5, r6, r7, r8⟩ := id hc.c.ord
  dsimp only at *
  have hLM : L ∈ ([nu] ++ LD.M (LD.mk L cc q td tb bn lk rl rn sc cs ns rows rvs)) := by simp
  obtain ⟨gA, hgA⟩ : ∃ gA, gA = hideAll h ([nu] ++ LD.M (LD.mk L cc q td tb bn lk rl rn sc cs ns rows rvs)) := ⟨_, rfl⟩
  have hAh : Sub gA h := hgA ▸ fun b o e => of_hideAll _ e
  have hAo : ∀ b : Nat, b ∈ ([L, lk, nu] : List Nat) → gA.get? b = none := fun b hb => hgA ▸ hideAll_none _ ((by k_mem : ∀ y ∈ ([L, lk, nu] : List Nat), y ∈ ([nu, L, L + 1, L + 2, L + 3, L + 4, q, td, tb, bn, lk, 103] : List Nat)) b hb)
  have hnbA : gA.get? nb = some (lstO nv nn) := hgA ▸ hnb
  have hnd := hc.lks.nd
  have hnv0 := num0 hnd h0 hN hL.first hc.b.k6
  obtain ⟨t00, hnv0⟩ := hnv0
  obtain ⟨frz, FA, NA, off, infrz, kback⟩ := kmode (own := []) (g := gh) hns hc.c.sub hc.c.above (by first | k_mem | simp)
  simp only [List.nil_append] at NA
  have hKp : Keeps gA gh L frz := fun h' m' news' F' N' hm b o e => kback h' m' news' F' N' hm b o (by simp only [List.map_nil, List.mem_cons, List.not_mem_nil, or_false]; rintro rfl; rw [hAo _ (by first | k_mem | simp)] at e; cases e) (hAh b o e)
  refine stmtH fun Q1 k1 k2 => ?_
  walk1
  walk1
  walk1
  walk1
  walk1
  walk1
  refine' item0A FA NA (hKp _ _ _ FA NA (fun p hp => hp)) hnbA hnv0 ?_ ?hs ?hg
  case hs => with_unfolding_all rfl
  case hg => intro _; with_unfolding_all rfl
  k_steps
  dsimp only
  have hll' := of_hideAll _ hll
  have hlkS : @LT.lt Nat _ lk h.objs.size := hc.lks.lkLt
  have hnuS : nu < h.objs.size := (hc.lks.nuGet.elim fun _ q => ltSz q)
  obtain ⟨nlk, nrl⟩ := hc.c.xs nu (.head _)
  dsimp only at nlk nrl
  refine wpAny_pyIter_list ⟨_, hll', rfl, _, rfl⟩ ?_
  dsimp only
  refine number_comp0 (dp := dp) (un := un) (fun _ l => l = looks) G' hc hmt rfl (fun i l _ e => by subst e; exact ⟨by lia, h0⟩) ?_ hll' (notHid hll) hL hlen (by lia) (by lia) ?_ ?_
  · rintro i l l' names hi hmem rfl hlk hsame
    obtain ⟨r, hg⟩ := hR names hmem
    obtain ⟨v, j, t, L0, rfl, e1, e2⟩ := hN.mem names hmem
    exact hsame L0 r hg (e2 r hg) (List.mem_of_getElem? e1)
  · intro C hh tk m₁ v Q' lC _ hsub habove hct htb htd hnsC kq
    obtain ⟨otab, hotab, dtab⟩ := hct
    obtain ⟨t1, t2, t3, tn, htd⟩ := htd
    dsimp only at lC hotab dtab htb htd ⊢
    have hgn : ∀ a : Nat, L ≤ a → gh.get? a = none := fun a ha => hc.c.gn ha
    clear k2 k1 hKp kback infrz off hns hmt hL hQ hR hN
    try clear FA
    try clear NA
    clear hc
    have hown : ∀ p ∈ ([(L + 2, otab), (tb, instObj 80 td), (td, tabO w t1 t2 t3 bn lk nu tn)] : List (Addr × Obj)), hh.get? p.1 = some p.2 ∧ p.1 ≠ C ∧ gh.get? p.1 = none := by
      refine fa3 ?_ ?_ ?_
      · exact ⟨hotab, (by show @Ne Nat (L + 2) C; lia), hgn _ (by lia)⟩
      · exact ⟨htb, (by show @Ne Nat tb C; lia), hgn _ (by lia)⟩
      · exact ⟨htd, (by show @Ne Nat td C; lia), hgn _ (by lia)⟩
    obtain ⟨frz, F7, N7, off, infrz, kback⟩ := kmode (g := gh) hnsC hsub habove hown
    simp only [List.cons_append, List.nil_append] at N7
    k_steps
    all_goals first
      | (rename News _ _ _ _ => N8
         rename Fr _ _ _ _ => F8
         refine kq _ _ _ (ownKB (kback _ _ _ F8 N8 (fun p hp => by repeat (first | exact hp | exact List.mem_append_left _ hp | exact List.mem_append_right _ hp | refine List.Mem.tail _ ?_))) hown N8 (by first | k_mem | simp) ?_) F8.ns
         refine fa3 ?_ ?_ ?_
         all_goals exact .inr (by k_mem))
      | exact Str.ofString "" | exact Value.none | exact ([] : List (Str × Addr)) | exact (0 : Nat)
  · intro zs' av h' tk' looks' c' mt' hPP hN' hpl hkb
    subst hPP
    have hkb : KB [lk, nu] h h' := hkb
    obtain ⟨e9, hpl⟩ := hpl
    obtain ⟨is, hi1, hi2⟩ := sameNums hnd hR hN' hN
    have hns' := hns.at' fun o e => hkb L o (by first | k_mem | (simp only [List.mem_cons, List.not_mem_nil, or_false, not_or]; lia)) e
    obtain ⟨Dz, hDz⟩ : ∃ Dz : Nat, Dz = h.objs.size + 1 := ⟨_, rfl⟩
    rw [← hDz] at hpl ⊢
    have fD : h.get? Dz = none := fresh_self (by show h.objs.size ≤ Dz; lia)
    have LS : L < h.objs.size := by lia
    have hsub' : Sub gh h' := c'.c.sub
    have hown : ∀ p ∈ ([(Dz, lstO zs' e9)] : List (Addr × Obj)), h'.get? p.1 = some p.2 ∧ p.1 ≠ L ∧ gh.get? p.1 = none := by
      intro p hp
      obtain rfl := List.mem_singleton.mp hp
      exact ⟨hpl, (by show @Ne Nat Dz L; lia), hc.c.gn (by show L ≤ Dz; lia)⟩
    clear hKp kback infrz off
    try clear FA
    try clear NA
    obtain ⟨frz, FB, NB, off, infrz, kback⟩ := kmode (g := gh) hns' hsub' hc.c.above hown
    simp only [List.cons_append, List.nil_append] at NB
    have hKp : Keeps gA gh L frz := fun h3 m' news' F' N' hm b o e => by
      have e1 := hAh b o e
      refine kback h3 m' news' F' N' hm b o (fun q => ?_) (hkb b o (fun q => ?_) e1)
      · have q : b ∈ ([L, Dz] : List Nat) := q
        simp only [List.mem_cons, List.not_mem_nil, or_false] at q
        rcases q with q | q <;> replace q := q.symm <;> subst q
        · rw [hAo _ (by first | k_mem | simp)] at e; cases e
        · rw [fD] at e1; cases e1
      · simp only [List.mem_cons, List.not_mem_nil, or_false] at q
        rcases q with q | q <;> replace q := q.symm <;> subst q
        · rw [hAo _ (by first | k_mem | simp)] at e; cases e
        · rw [hAo _ (by first | k_mem | simp)] at e; cases e
    walk1
    refine' eqLA FB NB (hKp _ _ _ FB NB (fun p hp => by repeat (first | exact hp | exact List.mem_append_left _ hp | exact List.mem_append_right _ hp | refine List.Mem.tail _ ?_))) (by k_mem) hnbA hi1 hi2 ?hu ?_
    case hu => (dsimp only [Ar, Around.deeper]; rw [show cLine = 9900 from rfl]; lia)
    obtain ⟨ps, h103⟩ := h103
    exact k2 _ _ (hQ _ _ hsub' ⟨ps, hkb _ _ (by first | k_mem | (simp only [List.mem_cons, List.not_mem_nil, or_false, not_or]; lia)) h103⟩)
end Mine

end
section
open PySem PySem.Spec PySem.Calls PySem.W PyProof.Rows
set_option Elab.async false
set_option linter.unusedVariables false
set_option maxRecDepth 100000
namespace Mine
theorem kxSk : True := by
  k_with_none
  k_with "ne" => (refine neN ?_; (try dsimp only); first | with_reducible assumption | exact Ne.symm (by with_reducible assumption) | exact Nat.ne_of_lt (by with_reducible assumption) | exact Nat.ne_of_gt (by with_reducible assumption) | lia)
  k_with "mem" => first | exact nm0 | (refine nmC ?_ ?_; k_ne; k_mem) | (refine inL ?_; k_mem) | exact fa0 | (refine faC ?_ ?_; k_mem; k_mem)
  trivial
theorem toLaw {M : Model} {A : Around} {env env' : Env} {l l' : List Stmt} {Q : Flow → Shared → Prop} {E : Value → Shared → Prop} {s : Shared} (hl : l = l') (he : env = env') (hh : A.handled = none)
    (k : wpAny M (Ar A.depth A.units A.frames A.guards) (execs l' env') Q E s) : wpAny M A (execs l env) Q E s := by
  subst hl he
  cases A
  cases hh
  exact k
set_option maxHeartbeats 4000000 in
theorem law_rest {w : World} {fa : Addr} {cd : Value} {mean : ExcName → Option Value} {mg mb : Str → Option Value} {gh h : Heap} {D : LD} {Gs : Array GenState} {Dr : Drawn} {t0 : Nat} {O : OsState} {dp un nu : Nat} {fr : Option (List Env)} {gd : Option (List Code)} {Q : Flow → Shared → Prop}
    (G : Gd w mean mg mb gh) (hC : CodeHd gh 107 103) (hc : LawC w gh h D [nu]) (hp : PotK h D 45) (ht : LawT w h (hideAll h ([nu] ++ D.M)) D nu 0) (hns : h.Ns D.L (mL none none none none none none none none none D.sc)) (hdp : dp < 320) (hun : un < 300)
    (hQ : ∀ h' tk', Sub gh h' → (∃ ps, h'.get? 103 = some (tabObj ps)) → Q (.ret (.bool true)) ⟨h', Gs, Dr, tk', O⟩) :
    wpAny (model Pg w) (Ar dp un fr gd) (execs ((lawBody w).drop 2) (lawEnv w D.L fa cd)) Q Nv ⟨h, Gs, Dr, t0, O⟩ := by
  refine law_a G hc hp ht hns hdp hun fun h1 o1 o2 o3 c1 p1 t1 n1 tk1 => ?_
  refine law_b G c1 p1 t1 n1 hdp hun fun h2 o1 o2 o3 nu ks lt c2 p2 e2 b2 l2 n2 tk2 => ?_
  refine law_c G ⟨c2, b2, l2⟩ p2 e2 n2 hdp hun fun h3 o4 ll lv n nls s3 m3 e3 ll3 L3 len3 n3 tk3 => ?_
  refine law_d G s3 m3 e3 ll3 L3 len3 n3 hdp hun fun h4 nb zs n' looks s4 m4 e4 ll4 L4 nb4 N4 z4 len4 n4 tk4 => ?_
  refine law_e G hC s4 m4 e4 ll4 L4 len3 nb4 n4 hdp hun fun h5 lb zs5 n5 s5 m5 e5 ll5 L5 nb5 lb5 R5 n5' tk5 => ?_
  refine law_f G s5 ll5 L5 len3 nb5 N4 len4 lb5 R5 n5' hdp hun fun h6 p8 p9 kb6 n6 tk6 => ?_
  obtain ⟨r1, r2, r3, r4, r5, r6, r7, r8⟩ := id s5.c.ord
  have nlk := (s5.c.xs nu (.head _)).1
  have hs : Sub (hideAll h5 ([nu] ++ D.M)) (hideAll h6 ([nu] ++ D.M)) := s5.hs kb6 (by first | k_mem | simp) (by first | k_mem | simp)
  obtain ⟨ps, e5⟩ := e5
  refine law_g (lb := 0) (n2 := 0) (zs := []) G (s5.step kb6 (by first | k_mem | simp) (by simp only [List.mem_cons, List.not_mem_nil, or_false]; lia) (by first | k_mem | simp)) (m5.kbL (av := []) kb6 n6 (by first | k_mem | simp)) ⟨ps, kb6 _ _ (by simp only [List.mem_cons, List.not_mem_nil, or_false]; lia) e5⟩ (hs _ _ ll5) (L5.sub hs) len3 (hs _ _ nb5) N4 z4 len4 ?_ n6 hdp hun hQ
  intro x hx
  obtain ⟨v, a, vs, r, _, _, _, hg⟩ := R5.mem x hx
  exact ⟨r, hg⟩
end Mine

end
section
open PySem PySem.Spec PySem.Calls PySem.W PyProof.Rows
set_option Elab.async false
set_option linter.unusedVariables false
set_option maxRecDepth 100000
namespace Mine
theorem kxLa : True := by
  k_with_none
  k_with "lt" => first | with_reducible assumption | exact And.left (by with_reducible assumption) | exact And.right (by with_reducible assumption) | exact And.left (And.right (by with_reducible assumption)) | exact And.right (And.right (by with_reducible assumption)) | exact And.left (And.right (And.right (by with_reducible assumption))) | exact And.right (And.right (And.right (by with_reducible assumption))) | exact And.left (And.right (And.right (And.right (by with_reducible assumption)))) | exact And.right (And.right (And.right (And.right (by with_reducible assumption)))) | exact And.left (And.right (And.right (And.right (And.right (by with_reducible assumption))))) | exact And.right (And.right (And.right (And.right (And.right (by with_reducible assumption))))) | exact And.left (And.right (And.right (And.right (And.right (And.right (by with_reducible assumption)))))) | exact And.right (And.right (And.right (And.right (And.right (And.right (by with_reducible assumption)))))) | exact And.left (And.right (And.right (And.right (And.right (And.right (And.right (by with_reducible assumption))))))) | exact And.right (And.right (And.right (And.right (And.right (And.right (And.right (by with_reducible assumption))))))) | exact And.left (And.right (And.right (And.right (And.right (And.right (And.right (And.right (by with_reducible assumption)))))))) | exact And.right (And.right (And.right (And.right (And.right (And.right (And.right (And.right (by with_reducible assumption)))))))) | exact And.left (And.right (And.right (And.right (And.right (And.right (And.right (And.right (And.right (by with_reducible assumption))))))))) | exact And.right (And.right (And.right (And.right (And.right (And.right (And.right (And.right (And.right (by with_reducible assumption))))))))) | exact And.left (And.right (And.right (And.right (And.right (And.right (And.right (And.right (And.right (And.right (by with_reducible assumption)))))))))) | exact And.right (And.right (And.right (And.right (And.right (And.right (And.right (And.right (And.right (And.right (by with_reducible assumption)))))))))) | exact And.left (And.right (And.right (And.right (And.right (And.right (And.right (And.right (And.right (And.right (And.right (by with_reducible assumption))))))))))) | exact And.right (And.right (And.right (And.right (And.right (And.right (And.right (And.right (And.right (And.right (And.right (by with_reducible assumption))))))))))) | exact And.left (And.right (And.right (And.right (And.right (And.right (And.right (And.right (And.right (And.right (And.right (And.right (by with_reducible assumption)))))))))))) | exact And.right (And.right (And.right (And.right (And.right (And.right (And.right (And.right (And.right (And.right (And.right (And.right (by with_reducible assumption)))))))))))) | exact And.left (And.right (And.right (And.right (And.right (And.right (And.right (And.right (And.right (And.right (And.right (And.right (And.right (by with_reducible assumption))))))))))))) | exact And.right (And.right (And.right (And.right (And.right (And.right (And.right (And.right (And.right (And.right (And.right (And.right (And.right (by with_reducible assumption))))))))))))) | exact And.left (And.right (And.right (And.right (And.right (And.right (And.right (And.right (And.right (And.right (And.right (And.right (And.right (And.right (by with_reducible assumption)))))))))))))) | exact And.right (And.right (And.right (And.right (And.right (And.right (And.right (And.right (And.right (And.right (And.right (And.right (And.right (And.right (by with_reducible assumption)))))))))))))) | exact And.left (And.right (And.right (And.right (And.right (And.right (And.right (And.right (And.right (And.right (And.right (And.right (And.right (And.right (And.right (by with_reducible assumption))))))))))))))) | exact And.right (And.right (And.right (And.right (And.right (And.right (And.right (And.right (And.right (And.right (And.right (And.right (And.right (And.right (And.right (by with_reducible assumption))))))))))))))) | exact And.left (And.right (And.right (And.right (And.right (And.right (And.right (And.right (And.right (And.right (And.right (And.right (And.right (And.right (And.right (And.right (by with_reducible assumption)))))))))))))))) | exact And.right (And.right (And.right (And.right (And.right (And.right (And.right (And.right (And.right (And.right (And.right (And.right (And.right (And.right (And.right (And.right (by with_reducible assumption)))))))))))))))) | exact And.left (And.right (And.right (And.right (And.right (And.right (And.right (And.right (And.right (And.right (And.right (And.right (And.right (And.right (And.right (And.right (And.right (by with_reducible assumption))))))))))))))))) | exact And.right (And.right (And.right (And.right (And.right (And.right (And.right (And.right (And.right (And.right (And.right (And.right (And.right (And.right (And.right (And.right (And.right (by with_reducible assumption))))))))))))))))) | exact And.left (And.right (And.right (And.right (And.right (And.right (And.right (And.right (And.right (And.right (And.right (And.right (And.right (And.right (And.right (And.right (And.right (And.right (by with_reducible assumption)))))))))))))))))) | exact And.right (And.right (And.right (And.right (And.right (And.right (And.right (And.right (And.right (And.right (And.right (And.right (And.right (And.right (And.right (And.right (And.right (And.right (by with_reducible assumption)))))))))))))))))) | exact And.left (And.right (And.right (And.right (And.right (And.right (And.right (And.right (And.right (And.right (And.right (And.right (And.right (And.right (And.right (And.right (And.right (And.right (And.right (by with_reducible assumption))))))))))))))))))) | exact And.right (And.right (And.right (And.right (And.right (And.right (And.right (And.right (And.right (And.right (And.right (And.right (And.right (And.right (And.right (And.right (And.right (And.right (And.right (by with_reducible assumption))))))))))))))))))) | exact And.left (And.right (And.right (And.right (And.right (And.right (And.right (And.right (And.right (And.right (And.right (And.right (And.right (And.right (And.right (And.right (And.right (And.right (And.right (And.right (by with_reducible assumption)))))))))))))))))))) | exact And.right (And.right (And.right (And.right (And.right (And.right (And.right (And.right (And.right (And.right (And.right (And.right (And.right (And.right (And.right (And.right (And.right (And.right (And.right (And.right (by with_reducible assumption)))))))))))))))))))) | exact And.left (And.right (And.right (And.right (And.right (And.right (And.right (And.right (And.right (And.right (And.right (And.right (And.right (And.right (And.right (And.right (And.right (And.right (And.right (And.right (And.right (by with_reducible assumption))))))))))))))))))))) | exact And.right (And.right (And.right (And.right (And.right (And.right (And.right (And.right (And.right (And.right (And.right (And.right (And.right (And.right (And.right (And.right (And.right (And.right (And.right (And.right (And.right (by with_reducible assumption))))))))))))))))))))) | exact And.left (And.right (And.right (And.right (And.right (And.right (And.right (And.right (And.right (And.right (And.right (And.right (And.right (And.right (And.right (And.right (And.right (And.right (And.right (And.right (And.right (And.right (by with_reducible assumption)))))))))))))))))))))) | exact And.right (And.right (And.right (And.right (And.right (And.right (And.right (And.right (And.right (And.right (And.right (And.right (And.right (And.right (And.right (And.right (And.right (And.right (And.right (And.right (And.right (And.right (by with_reducible assumption)))))))))))))))))))))) | exact And.left (And.right (And.right (And.right (And.right (And.right (And.right (And.right (And.right (And.right (And.right (And.right (And.right (And.right (And.right (And.right (And.right (And.right (And.right (And.right (And.right (And.right (And.right (by with_reducible assumption))))))))))))))))))))))) | exact And.right (And.right (And.right (And.right (And.right (And.right (And.right (And.right (And.right (And.right (And.right (And.right (And.right (And.right (And.right (And.right (And.right (And.right (And.right (And.right (And.right (And.right (And.right (by with_reducible assumption))))))))))))))))))))))) | exact And.left (And.right (And.right (And.right (And.right (And.right (And.right (And.right (And.right (And.right (And.right (And.right (And.right (And.right (And.right (And.right (And.right (And.right (And.right (And.right (And.right (And.right (And.right (And.right (by with_reducible assumption)))))))))))))))))))))))) | exact And.right (And.right (And.right (And.right (And.right (And.right (And.right (And.right (And.right (And.right (And.right (And.right (And.right (And.right (And.right (And.right (And.right (And.right (And.right (And.right (And.right (And.right (And.right (And.right (by with_reducible assumption))))))))))))))))))))))))
  k_with "lt2" => (apply Nat.lt_trans; rotate_left; with_reducible assumption; k_extra "lt")
  k_with "ne" => (refine neN ?_; (try dsimp only); first | with_reducible assumption | exact Ne.symm (by with_reducible assumption) | exact Nat.ne_of_lt (by k_extra "lt") | exact Nat.ne_of_gt (by k_extra "lt") | exact Nat.ne_of_lt (by k_extra "lt2") | exact Nat.ne_of_gt (by k_extra "lt2") | lia)
  k_with "mem" => first | exact nm0 | (refine nmC ?_ ?_; k_ne; k_mem) | (refine inL ?_; k_mem) | exact fa0 | (refine faC ?_ ?_; k_mem; k_mem)
  trivial
local macro_rules | `(tactic| k_all) => `(tactic| assumption)
local macro_rules | `(tactic| k_all) => `(tactic| (refine offOne (by assumption) ?_; simp))
theorem potFirst {cc : Nat} {t1 t2 : Tok} {S : Int} {n : Nat} : PotO cc 0 (W.listOf #[Value.ref cc, .int 0 t1, .int (113 + Int.fmod S 65519) t2] n) := by
  have a1 := Int.fmod_nonneg_of_pos S (show (0 : Int) < 65519 by decide)
  have a2 := Int.fmod_lt_of_pos S (show (0 : Int) < 65519 by decide)
  exact ⟨0, _, _, _, n, rfl, Int.le_refl _, Int.le_refl _, by lia, by lia⟩
theorem wLa1 : True := by
  k_with "eval Dict cons cons" => (refine' dict1 ?F ?N ?_; (case F => k_asm); (case N => k_asm); intro _ _ _ _ l1; (try k_lt l1); (first | (revert l1; intro _) | skip))
  trivial
theorem wLa2 : True := by
  k_with "dictSet str ref" => (refine' dset_str (kvs := []) ?F ?N ?U emptyD_S (by decide) ?_; (case F => k_asm); (case N => k_asm); (case U => k_updF); intro _ _ _ _ _)
  trivial
theorem wLa3 : True := by
  k_with "dictSet ref int" => (refine' dset_tup (xs := []) (ks := [0, 0, 0, 0, 0, 0]) ?F ?N ?U ?hu emptyD_T ?hk ?ha (by decide) ?_; (case F => k_asm); (case N => k_asm); (case U => k_updF); (case hu => (refine Nat.le_of_ble_eq_true ?_; with_unfolding_all rfl)); (case hk => intro x hx; cases hx); (case ha => exact IsTupleKey.up (plainKey (by assumption)) (Fr.keep (by assumption))); intro _ _ _ _ _ _)
  trivial
theorem wLa4 : True := by
  k_with "call ref" => k_dflt (refine' use_rowsK ?X ?T ?F ?N ?U ?hpo ?hp ?hcq ?hh ?hk ?hd ?hu ?_; (case X => assumption); (case T => assumption); (case F => k_asm); (case N => k_asm); (case U => k_updF); (case hpo => exact potFirst); (case hp => assumption); (case hcq => assumption); (case hh => rfl); (case hk => decide); (case hd => (refine Nat.le_of_ble_eq_true ?_; with_unfolding_all rfl)); (case hu => (refine Nat.le_of_ble_eq_true ?_; with_unfolding_all rfl)); intro _ _ _ _ _ _ _ _ _ N' lne' off' hpp' hst' hrl' hgood'; (try simp only [List.forall_mem_cons] at lne'); (try simp only [List.cons_append, List.nil_append] at N'); (first | (revert N' lne' off' hpp' hst' hrl' hgood'; intro _ _ _ _ _ _ _) | skip))
  trivial
theorem nsLaw {h : Heap} {L : Nat} {sc : Value} {m : Str → Option Value} (x : h.Ns L m) (e : m = fun y => if y = Str.ofString "script" then some sc else none) : h.Ns L (mL none none none none none none none none none sc) :=
  nsL x [(Str.ofString "script", some sc)] [(Str.ofString "name", none), (Str.ofString "part_list", none), (Str.ofString "parents", none), (Str.ofString "nth", none), (Str.ofString "lists", none), (Str.ofString "numbers", none), (Str.ofString "looks", none), (Str.ofString "place", none), (Str.ofString "other", none), (Str.ofString "script", some sc)] [] e.symm (by rfl) (by with_unfolding_all rfl) (by
    subst e
    repeat (first | exact fa0 | (refine faC ?_ ?_; with_unfolding_all rfl)))
theorem tokAny {M : Model} {A : Around} {env : Env} {c : List Stmt} {Q : Flow → Shared → Prop} {E : Value → Shared → Prop} {h : Heap} {G : Array GenState} {D : Drawn} {t : Nat} {O : OsState} (k : ∀ t0, wpAny M A (execs c env) Q E ⟨h, G, D, t0, O⟩) : wpAny M A (execs c env) Q E ⟨h, G, D, t, O⟩ := k t
theorem noSeq {d : Data} {xs : Array Value} {n : Nat} {c : Option Value} (h1 : d = .seq xs n) (h2 : d = .cell c) : False := by rw [h1] at h2; cases h2
set_option maxHeartbeats 8000000 in
theorem law_ok : PySem.Challenge.rw_np0001_01.Holds :=
  hd (by
    k_go0; (all_goals try k_fold)
    refine wpNv ?_
    refine tokAny fun T0 => ?_
    rename_i wA wB wC wD dWA dWB dWC dWD X0g XGg TGg KGg l0g l1g l2g
    refine stmtH fun Q1 k1 k2 => ?_
    k_steps
    refine k1 _ (fun tk => ?_) _
    clear k1 k2
    rename News _ _ _ _ => NA
    rename Fr _ _ _ _ => FA
    rename_i cc y1 y2 ccne y3 y4 y5 q y6 y7 y8 qlt y9 y10 tb td y11 tdlt tblt y12 y13 y14 y15 y16 y17 y18 y19 y20 y21 bn y22 bnlt fx fd y23 fdlt fxlt y24 y25 y26 y27 y28 y29 y30 y31 y32 y33 y34 y35 y36 y37 bo hdbn z1 z2 lk z3 lklt z4 z5 nu z6 nult z7 no z8 hdno z9 Fz Nz Tz Xz Dt z10 Dtlt z11 z12 opot dpot hA otab dtab
    rename IntsAre ys _ => hI8
    (revert cc; intro (cc : Nat); set_option tactic.hygienic false in intros)
    (revert q; intro (q : Nat); set_option tactic.hygienic false in intros)
    (revert tb; intro (tb : Nat); set_option tactic.hygienic false in intros)
    (revert td; intro (td : Nat); set_option tactic.hygienic false in intros)
    (revert lk; intro (lk : Nat); set_option tactic.hygienic false in intros)
    (revert fx; intro (fx : Nat); set_option tactic.hygienic false in intros)
    (revert fd; intro (fd : Nat); set_option tactic.hygienic false in intros)
    have nCC := NA (cc, _) (by k_mem)
    have nQ := NA (q, _) (by k_mem)
    have hpg : PotG hA cc ys _ := ⟨⟨_, nCC.1, rfl, _, rfl⟩, hI8, by simp; lia⟩
    have hcq : cc ≠ q := Nat.ne_of_lt qlt.1
    refine stmtH fun Q1 k1 k2 => ?_
    k_steps
    refine k1 _ (fun tk => ?_) _
    clear k1 k2
    rename News _ _ _ _ => NB
    rename Fr _ _ _ _ => FB
    rename_i rl rvs rn rows zr1 zr2 po' frzR offR hppR hstR hrlR hgoodR lneR hB oll dll
    have hnsB := nsLaw FB.ns (by with_unfolding_all rfl)
    rename World => wW
    rename Shared => s1
    rename 103 < _ => l103
    rename (_ : Array GenState) = #[] => hgens
    have nBcc := NB (cc, _) (by k_mem)
    have nB103 := NB (103, tabObj #[]) (by k_mem)
    have e103 : (103 : Nat) ≠ cc := fun e => by
      have h1 := nB103.1
      have h2 := nBcc.1
      rw [show ((103, tabObj #[]) : Addr × Obj).1 = cc from e] at h1
      exact absurd (congrArg Obj.cls (Option.some.inj (h1.symm.trans h2))) (show Value.none ≠ Value.type "list" by decide)
    have nq := qlt
    have ord0 : LOrd (LD.mk s1.heap.objs.size cc q td tb bn lk rl rn (.ref 0) ys [] rows rvs) := ⟨by first | (show @LT.lt Nat _ (s1.heap.objs.size + 1 + 1 + 1 + 1) q; k_extra "lt") | (show s1.heap.objs.size + 4 < q; lia), qlt.1, tdlt.1, tblt, bnlt.1, by first | (show @LT.lt Nat _ bn lk; k_extra "lt") | (show bn < lk; lia), by first | (show @LT.lt Nat _ lk rl; k_extra "lt") | (show lk < rl; lia), l103, nBcc.2.1, Ne.symm ccne.2.2.2.2.1, Ne.symm ccne.2.2.2.1, Ne.symm ccne.2.2.1, Ne.symm ccne.2.1⟩
    have ghn : ∀ (b : Nat) o, (ghostOf s1.heap [(107, 103)]).get? b = some o → b ∉ ([nu] ++ LD.M (LD.mk s1.heap.objs.size cc q td tb bn lk rl rn (.ref 0) ys [] rows rvs)) := fun b o e => nmC (Nat.ne_of_lt (Nat.lt_of_lt_of_le (ltSz e) (Nat.le_trans FB.above (Nat.le_trans ord0.leLk (Nat.le_of_lt nult.1))))) fun hb => (ord0.ge b hb).elim (fun h => absurd (Nat.lt_of_lt_of_le (ltSz e) FB.above) (Nat.not_lt.mpr h)) fun h => by rw [h, nB103.2.2] at e; cases e
    have nM : ∀ b : Nat, lk < b → b ≠ nu → b ∉ ([nu] ++ LD.M (LD.mk s1.heap.objs.size cc q td tb bn lk rl rn (.ref 0) ys [] rows rvs)) := fun b h1 h2 => notM ord0 h1 h2
    obtain ⟨nsv, hpgv⟩ : ∃ nsv, PotG hA cc ys nsv := ⟨_, hpg⟩
    refine toLaw (l' := (lawBody wW).drop 2) (env' := lawEnv wW s1.heap.objs.size _ _) (by with_unfolding_all rfl) (by with_unfolding_all rfl) rfl ?_
    refine law_rest (D := LD.mk s1.heap.objs.size cc q td tb bn lk rl rn _ ys nsv rows rvs) (nu := nu) ⟨Xz, Tz⟩ codeHd ?hc ⟨po', (NB (q, _) (by k_mem)).1, hppR⟩ ?ht hnsB ?hdp ?hun ?hQ
    case hdp => refine Nat.le_of_ble_eq_true ?_; with_unfolding_all rfl
    case hun => refine Nat.le_of_ble_eq_true ?_; with_unfolding_all rfl
    case hQ =>
      intro h' tk' hsub hps
      obtain ⟨ps, hps⟩ := hps
      refine ⟨⟨.inl ⟨_, _, _, rfl, raisesW_false (by wrow_none_raised), ReadsW.bool true, ?_, unshared_nil⟩, hsub, rfl, hgens⟩, ⟨ps, hps⟩, trivial⟩
      with_unfolding_all rfl
    case hc =>
      have nMcc : cc ∉ ([nu] ++ LD.M (LD.mk s1.heap.objs.size cc q td tb bn lk rl rn (.ref 0) ys [] rows rvs)) := nmC (by show (cc : Nat) ≠ nu; k_ne) (nmC nBcc.2.1 (nmC (Ne.symm ccne.2.2.2.2.1) (nmC (Ne.symm ccne.2.2.2.1) (nmC (Ne.symm ccne.2.2.1) (nmC (Ne.symm ccne.2.1)
        (nmC (Nat.ne_of_lt ord0.o2) (nmC (by show (cc : Nat) ≠ td; k_ne) (nmC (by show (cc : Nat) ≠ tb; k_ne) (nmC (by show (cc : Nat) ≠ bn; k_ne) (nmC (by show (cc : Nat) ≠ lk; k_ne) (nmC (Ne.symm e103) nm0)))))))))))
      refine ⟨FB.keep, FB.above, ⟨ord0.o1, ord0.o2, ord0.o3, ord0.o4, ord0.o5, ord0.o6, ord0.o7, ord0.o8⟩, nB103.2.2, nBcc.2.2, ?_, ⟨_, (NB (s1.heap.objs.size + 1, opot) (by k_mem)).1, dpot⟩, ⟨_, (NB (s1.heap.objs.size + 1 + 1, otab) (by k_mem)).1, dtab⟩, ⟨_, (NB (s1.heap.objs.size + 1 + 1 + 1, oll) (by k_mem)).1, dll⟩, ⟨⟨_, hide_of nBcc.1 nMcc, rfl, _, rfl⟩, hpgv.hi, hpgv.hlen⟩, hide_of (NB (rl, _) (by k_mem)).1 (nM rl (by lia) (by lia)), ?_, hrlR, hgoodR⟩
      · intro x hx
        obtain rfl := List.mem_singleton.mp hx
        exact ⟨nult.1, by show x ≠ rl; lia⟩
      · have nfr : ∀ p ∈ frzR, p.1 ∉ ([nu] ++ LD.M (LD.mk s1.heap.objs.size cc q td tb bn lk rl rn (.ref 0) ys [] rows rvs)) := fun p hp => by
          have hL := (NB p (by repeat (first | exact hp | exact List.mem_append_left _ hp | exact List.mem_append_right _ hp | refine List.Mem.tail _ ?_))).2.1
          have off := offR p hp
          refine nmC ?_ (nmC hL (nmC ?_ (nmC ?_ (nmC ?_ (nmC ?_ (nmC ?_ (nmC ?_ (nmC ?_ (nmC ?_ (nmC ?_ (nmC ?_ nm0))))))))))) <;> exact neMem off (by repeat (first | exact List.Mem.head _ | refine List.Mem.tail _ ?_))
        have nDt : Dt ∉ ([nu] ++ LD.M (LD.mk s1.heap.objs.size cc q td tb bn lk rl rn (.ref 0) ys [] rows rvs)) := nM Dt (by lia) (by lia)
        refine hstR _ (fun b o e => hide_of (FB.keep _ _ e) (ghn b o e)) (fun p hp => hide_of (NB p (by repeat (first | exact hp | exact List.mem_append_left _ hp | exact List.mem_append_right _ hp | refine List.Mem.tail _ ?_))).1 (nfr p hp)) ?_
        have hDt := hide_of (NB (Dt, _) (by k_mem)).1 nDt
        clear hstR
        refine faC (fun xs nn hcl hd => hDt) ?_
        refine faC (fun xs nn hcl hd => absurd hcl (clsD hdno)) ?_
        refine faC (fun xs nn hcl hd => absurd hcl (show Value.type "list" ≠ Value.type "tuple" by decide)) ?_
        refine faC (fun xs nn hcl hd => by
          cases hd) ?_
        refine faC (fun xs nn hcl hd => by
          cases hd) ?_
        refine faC (fun xs nn hcl hd => by
          obtain ⟨es7, ep7, _, q1, _⟩ := hdbn
          have e := hd.symm.trans q1
          cases e) ?_
        refine faC (fun xs nn hcl hd => by
          cases hd) ?_
        refine faC (fun xs nn hcl hd => by
          cases hd) ?_
        refine faC (fun xs nn hcl hd => absurd (hppR.cls.symm.trans hcl) (show Value.type "list" ≠ Value.type "tuple" by decide)) ?_
        refine faC (fun xs nn hcl hd => absurd hcl (show Value.type "list" ≠ Value.type "tuple" by decide)) ?_
        refine faC (fun xs nn hcl hd => absurd hcl (show Value.type "list" ≠ Value.type "tuple" by decide)) ?_
        refine faC (fun xs nn hcl hd => (noSeq hd dWA).elim) ?_
        refine faC (fun xs nn hcl hd => (noSeq hd dWB).elim) ?_
        refine faC (fun xs nn hcl hd => by
          have e := hd.symm.trans dtab
          cases e) ?_
        refine faC (fun xs nn hcl hd => by
          have e := hd.symm.trans dpot
          cases e) ?_
        refine faC (fun xs nn hcl hd => absurd hcl (show Value.none ≠ Value.type "tuple" by decide)) ?_
        exact fa0
    case ht =>
      have hsz : Sub (ghostOf s1.heap [(107, 103)]) (hideAll hB ([nu] ++ LD.M (LD.mk s1.heap.objs.size cc q td tb bn lk rl rn (.ref 0) ys [] rows rvs))) := fun b o e => hide_of (FB.keep _ _ e) (ghn b o e)
      obtain ⟨v15, h15, p15⟩ := plainT (Xz.keeps hsz)
      have h24 : (hideAll hB ([nu] ++ LD.M (LD.mk s1.heap.objs.size cc q td tb bn lk rl rn (.ref 0) ys [] rows rvs))).IsTuple 24 #[] := ⟨_, Xz.keeps hsz _ _ (by k_is), rfl, _, rfl⟩
      refine ⟨nB103.1, (NB (tb, _) (by k_mem)).1, ⟨_, _, _, _, _, no, (NB (td, _) (by k_mem)).1, (NB (nu, no) (by k_mem)).1, hdno, beq_eq_false_iff_ne.mpr (neN (show (nu : Nat) ≠ 1 by lia))⟩, ⟨_, (NB (lk, _) (by k_mem)).1⟩, ⟨bo, (NB (bn, bo) (by k_mem)).1, _, hdbn, Nat.le_refl _, ?_, ?_⟩, ⟨_, _, (NB (s1.heap.objs.size + 1 + 1 + 1 + 1, _) (by k_mem)).1, dWA⟩⟩
      · intro x hx
        by_cases e : x = Str.ofString "default"
        · rw [e]; exact List.Mem.head _
        · simp [rowF, e] at hx
      · intro x
        by_cases e : x = Str.ofString "default"
        · refine .inr ⟨⟨[0, 0, 0, 0, 0, 0].map some, []⟩, fx, by simp [rowF, e], ⟨rfl, by simp⟩, by rw [valueAt_stored, if_pos e], ⟨fd, 15, 24, 2, _, _, v15, [], ⟨hide_of (NB (fx, _) (by k_mem)).1 ?_, rfl, rfl, hide_of (NB (fd, _) (by k_mem)).1 ?_⟩, h15, p15, h24, .nil⟩⟩
          · show fx ∉ ([nu, s1.heap.objs.size, s1.heap.objs.size + 1, s1.heap.objs.size + 2, s1.heap.objs.size + 3, s1.heap.objs.size + 4, q, td, tb, bn, lk, 103] : List Nat)
            k_mem
          · show fd ∉ ([nu, s1.heap.objs.size, s1.heap.objs.size + 1, s1.heap.objs.size + 2, s1.heap.objs.size + 3, s1.heap.objs.size + 4, q, td, tb, bn, lk, 103] : List Nat)
            k_mem
        · exact .inl ⟨by simp [rowF, e], by rw [valueAt_stored, if_neg e]; rfl⟩)
end Mine

end
set_option maxRecDepth 100000 in
set_option maxHeartbeats 8000000 in
theorem PySem.Challenge.cw_np0001_01_holds : PySem.Challenge.rw_np0001_01.Holds :=
  Mine.law_ok
